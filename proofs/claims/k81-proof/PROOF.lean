import PyProof.Rows.All
import Wide.All
import OpenK.AllK
import Wide.FinOn
import Open.Row
import HandS.ForMost
import HandS.Deep
import HandS.DictComp
import HandS.SortRule
import HandS.Flow
import HandS.Style
import HandS.Conv
import KE.SortData
import KE.KDictKeyed
import HandS.TupAny
import HandS.TupMul
import HandS.Wide
import KE.DataAny
import HandS.Zip
import HandS.IsInst
import HandS.Text
import HandS.WordsDict
import HandS.RaiseMore
import PyProof.Rows.SeqRoads
import HandS.Iter
import KE.LtSeq
import KE.LtData
import HandS.SortOrd
import HandS.More
import HandS.Defaults
import HandS.Ends
import HandS.Head0
import HandS.Head1
import HandS.Head2
import HandS.HeadEnd
import HandS.HeadHook1
import HandS.HeadHook2
import HandS.HeadHook3
import HandS.HeadHook4
import KE.KDictWalk
import KE.GoesEnum
import HandS.TryOnly
import KE.KDictDisplayH
import KE.SortKeyHeap
import HandS.SortKw
import PySem.Challenge.RW_toldinwaves_k81_shortest_walks
set_option Elab.async false
set_option linter.all false
set_option maxRecDepth 100000
set_option maxHeartbeats 4000000
namespace G
open PySem PySem.Spec PyProof.Rows L2

/-! ### values as trees -/
inductive PV where
  | non | bl (b : Bool) | int (i : Int) | str (x : List Nat) | tup (xs : List PV) | ref (a : Addr) | scr (ns : List Int)
  deriving Inhabited

/-- a text by its codes -/
abbrev tS (x : List Nat) : Str := ⟨x.toArray⟩
theorem tS_inj {x y : List Nat} : tS x = tS y ↔ x = y := by
  constructor
  · intro h
    have := congrArg (fun s : Str => s.cps.toList) h
    simpa [tS] using this
  · rintro rfl; rfl
theorem tS_of (s : Str) : tS s.cps.toList = s := by cases s; simp [tS]

mutual
def PV.beq : PV → PV → Bool
  | .non, .non => true
  | .bl a, .bl b => a == b
  | .int a, .int b => a == b
  | .str a, .str b => a == b
  | .tup a, .tup b => PV.beqs a b
  | .ref a, .ref b => a == b
  | .scr a, .scr b => a == b
  | _, _ => false
def PV.beqs : List PV → List PV → Bool
  | [], [] => true
  | a :: as, b :: bs => PV.beq a b && PV.beqs as bs
  | _, _ => false
end
mutual
theorem PV.beq_iff : ∀ a b : PV, PV.beq a b = true ↔ a = b
  | .non, b => by cases b <;> simp [PV.beq]
  | .bl a, b => by cases b <;> simp [PV.beq]
  | .int a, b => by cases b <;> simp [PV.beq]
  | .str a, b => by cases b <;> simp [PV.beq]
  | .tup a, b => by
    cases b with
    | tup b => simp only [PV.beq, PV.tup.injEq]; exact PV.beqs_iff a b
    | _ => simp [PV.beq]
  | .ref a, b => by cases b <;> simp [PV.beq]
  | .scr a, b => by cases b <;> simp [PV.beq]
theorem PV.beqs_iff : ∀ a b : List PV, PV.beqs a b = true ↔ a = b
  | [], b => by cases b <;> simp [PV.beqs]
  | a :: as, b => by
    cases b with
    | nil => simp [PV.beqs]
    | cons b bs => simp only [PV.beqs, Bool.and_eq_true, List.cons.injEq]; rw [PV.beq_iff a b, PV.beqs_iff as bs]
end
instance : DecidableEq PV := fun a b => if h : PV.beq a b = true then isTrue ((PV.beq_iff a b).mp h) else isFalse fun e => h ((PV.beq_iff a b).mpr e)

/-- what stands at an address that may change -/
inductive PO where
  | lst (xs : List PV)
  /-- a dict; t: its keys are tuples, else whole numbers and texts; l: locked while it is walked -/
  | dic (t : Bool) (l : Option (Obj × HO)) (kvs : List (PV × PV))
  /-- an instance of the class at C, its attributes -/
  | ins (C : Addr) (fs : List (List Nat × PV))
  deriving Inhabited
abbrev PH := Addr → Option PO
def up (h : PH) (a : Addr) (o : PO) : PH := fun b => if b = a then some o else h b
theorem up_same {h : PH} {a : Addr} {o : PO} : up h a o a = some o := by unfold up; rw [if_pos rfl]
theorem up_ne {h : PH} {a b : Addr} {o : PO} (e : b ≠ a) : up h a o b = h b := by unfold up; rw [if_neg e]
theorem up_up {h : PH} {a : Addr} {o u : PO} : up (up h a o) a u = up h a u := by funext b; unfold up; split <;> rfl
def Sub (h g : PH) : Prop := ∀ a o, h a = some o → g a = some o
theorem Sub.refl (h : PH) : Sub h h := fun _ _ e => e
theorem Sub.trans {a b c : PH} (x : Sub a b) (y : Sub b c) : Sub a c := fun p o e => y p o (x p o e)

/-- a key of a dict: a whole number, a text -/
def kP : Key → PV
  | .inl i => .int i
  | .inr x => .str x.cps.toList
mutual
/-- a key that is a tuple -/
def nk : PV → Option NestedKey
  | .non => some .none
  | .int i => some (.num i)
  | .str x => some (.text (tS x))
  | .tup ps => (nks ps).map .tup
  | _ => none
def nks : List PV → Option (List NestedKey)
  | [] => some []
  | p :: ps => match nk p, nks ps with
    | some k, some ks => some (k :: ks)
    | _, _ => none
end
/-- the dict at a, its entries as they stand in the heap -/
def dphi (P : Program) (w : World) (a : Addr) (xs : List (NestedKey × Addr × Value)) (h : Heap) : Prop :=
  (a == sysModules) = false ∧ xs.length ≤ sizeLine ∧ ∃ o es ep, h.get? a = some o ∧ o.ExactDict ∧ o.data = .dict es ep ∧ es.toList = xs.map (entryOfKey (nestedKind P w)) ∧ (xs.map (·.1)).Nodup

section
variable (K : PySem.W.Frag)
/-- the script: read, never written -/
def FzL (H : Hp) (a : Addr) (xs : List V) : Prop := (∃ o, H a = some (.frz o (.lst xs))) ∨
    ∃ (o : Obj) (its : Array Value) (n : Nat), K.lookup a = some o ∧ o.cls = .type "list" ∧ o.dict = none ∧ o.data = .seq its n ∧ its.size ≤ sizeLine ∧ Vals xs its.toList
mutual
/-- the value v stands for the tree -/
inductive RV (H : Hp) : V → PV → Prop
  | non : RV H .non .non
  | bl (b : Bool) : RV H (.bl b) (.bl b)
  | int (i : Int) : RV H (.int i) (.int i)
  | str (x : List Nat) : RV H (.str (tS x)) (.str x)
  | tup {a : Addr} {xs : List V} {ps : List PV} : SqT K H a xs → xs.length ≤ sizeLine → RVs H xs ps → RV H (.ref a) (.tup ps)
  | ref (a : Addr) : RV H (.ref a) (.ref a)
  | scr {a : Addr} {ns : List Int} : FzL K H a (ns.map V.int) → ns.length ≤ 63 → RV H (.ref a) (.scr ns)
inductive RVs (H : Hp) : List V → List PV → Prop
  | nil : RVs H [] []
  | cons {v : V} {vs : List V} {p : PV} {ps : List PV} : RV H v p → RVs H vs ps → RVs H (v :: vs) (p :: ps)
end
end
section
variable {K : PySem.W.Frag} {H H' : Hp}
theorem FzL.sq {a : Addr} {xs : List V} (h : FzL K H a xs) : SqL K H a xs := by
  rcases h with h | h
  · exact .inl (.inr h)
  · exact .inr h
theorem RVs.length : ∀ {vs : List V} {ps : List PV}, RVs K H vs ps → vs.length = ps.length
  | _, _, .nil => rfl
  | _, _, .cons _ t => congrArg (· + 1) (RVs.length t)
theorem RVs.get : ∀ {vs : List V} {ps : List PV} {i : Nat} {p : PV}, RVs K H vs ps → ps[i]? = some p → ∃ v, vs[i]? = some v ∧ RV K H v p
  | _, _, _, _, .nil, e => by simp at e
  | _, _, 0, _, .cons r _, e => by simp at e; subst e; exact ⟨_, rfl, r⟩
  | _, _, i + 1, p, .cons _ t, e => by
    obtain ⟨v, h1, h2⟩ := RVs.get (i := i) (p := p) t (by simpa using e)
    exact ⟨v, by simpa using h1, h2⟩
theorem RVs.getV : ∀ {vs : List V} {ps : List PV} {i : Nat} {v : V}, RVs K H vs ps → vs[i]? = some v → ∃ p, ps[i]? = some p ∧ RV K H v p
  | _, _, _, _, .nil, e => by simp at e
  | _, _, 0, _, .cons r _, e => by simp at e; subst e; exact ⟨_, rfl, r⟩
  | _, _, i + 1, p, .cons _ t, e => by
    obtain ⟨v, h1, h2⟩ := RVs.getV (i := i) (v := p) t (by simpa using e)
    exact ⟨v, by simpa using h1, h2⟩
theorem RVs.append : ∀ {xs ys : List V} {ps qs : List PV}, RVs K H xs ps → RVs K H ys qs → RVs K H (xs ++ ys) (ps ++ qs)
  | _, _, _, _, .nil, s => s
  | _, _, _, _, .cons r t, s => .cons r (RVs.append t s)
theorem RVs.take : ∀ {xs : List V} {ps : List PV} (n : Nat), RVs K H xs ps → RVs K H (xs.take n) (ps.take n)
  | _, _, 0, _ => .nil
  | _, _, _ + 1, .nil => .nil
  | _, _, n + 1, .cons r t => .cons r (RVs.take n t)
theorem RVs.drop : ∀ {xs : List V} {ps : List PV} (n : Nat), RVs K H xs ps → RVs K H (xs.drop n) (ps.drop n)
  | _, _, 0, r => r
  | _, _, _ + 1, .nil => .nil
  | _, _, n + 1, .cons _ t => RVs.drop n t
theorem RVs.set {v : V} {p : PV} (r : RV K H v p) : ∀ {xs : List V} {ps : List PV} (i : Nat), RVs K H xs ps → RVs K H (xs.set i v) (ps.set i p)
  | _, _, _, .nil => .nil
  | _, _, 0, .cons _ t => .cons r t
  | _, _, i + 1, .cons q t => .cons q (RVs.set r i t)
theorem RVs.reverse : ∀ {xs : List V} {ps : List PV}, RVs K H xs ps → RVs K H xs.reverse ps.reverse
  | _, _, .nil => .nil
  | _, _, .cons r t => by simpa using RVs.append (RVs.reverse t) (.cons r .nil)
theorem RVs.ints : ∀ {ns : List Int}, RVs K H (ns.map V.int) (ns.map PV.int)
  | [] => .nil
  | n :: ns => .cons (.int n) RVs.ints
end

/-- an entry of a dict with tuples as keys -/
def EntT (K : PySem.W.Frag) (H : Hp) (kv : PV × PV) (x : NestedKey × Addr × Value) : Prop := nk kv.1 = some x.1 ∧ x.1.depth ≤ 8 ∧ RV K H (.ref x.2.1) kv.1 ∧ ∃ v, RelV v x.2.2 ∧ RV K H v kv.2
def EntK (K : PySem.W.Frag) (H : Hp) (kv : PV × PV) (x : Key × V) : Prop := kv.1 = kP x.1 ∧ RV K H x.2 kv.2
/-- an attribute -/
def EntF (K : PySem.W.Frag) (H : Hp) (f : List Nat × PV) (x : Str × V) : Prop := x.1 = tS f.1 ∧ RV K H x.2 f.2
/-- u stands at a, locked or not -/
def LkAt (H : Hp) (a : Addr) (l : Option (Obj × HO)) (u : HO) : Prop := match l with
  | none => H a = some u
  | some (o, u') => u' = u ∧ H a = some (.frz o u)
theorem LkAt.rd {H : Hp} {a : Addr} {l : Option (Obj × HO)} {u : HO} (h : LkAt H a l u) : Rd H a u := by
  cases l with
  | none => exact .inl h
  | some x => exact .inr ⟨_, h.2⟩
theorem LkAt.keep {H H' : Hp} {a : Addr} {l : Option (Obj × HO)} {u : HO} (e : H' a = H a) (h : LkAt H a l u) : LkAt H' a l u := by
  cases l with
  | none => exact e.trans h
  | some x => exact ⟨h.1, e.trans h.2⟩
section
variable (P : Program) (w : World) (K : PySem.W.Frag)
/-- what is tracked as it is in the trees' heap -/
def RO (H : Hp) (a : Addr) : PO → Prop
  | .lst ps => ∃ xs, H a = some (.lst xs) ∧ xs.length ≤ sizeLine ∧ RVs K H xs ps
  | .dic false l kvs => ∃ ds : List (Key × V), LkAt H a l (.dK ds) ∧ kvs.length ≤ sizeLine ∧ Paired (EntK K H) kvs ds
  | .dic true l kvs => ∃ xs : List (NestedKey × Addr × Value), LkAt H a l (.ext (dphi P w a xs)) ∧ kvs.length ≤ sizeLine ∧ Paired (EntT K H) kvs xs
  | .ins C fs => ∃ (dx : Addr) (xs : List (Str × V)), H a = some (.ins C dx xs) ∧ fs.length ≤ 900 ∧ Paired (EntF K H) fs xs
def RH (H : Hp) (h : PH) : Prop := ∀ a o, h a = some o → RO P w K H a o
end
/-- what is tracked but not in the trees' heap stays so -/
def Stp (h : PH) (H : Hp) (h' : PH) (H' : Hp) : Prop := ∀ b o, H b = some o → h b = none → H' b = some o ∧ h' b = none
theorem Stp.refl (h : PH) (H : Hp) : Stp h H h H := fun _ _ e n => ⟨e, n⟩
theorem Stp.trans {h h1 h2 : PH} {H H1 H2 : Hp} (x : Stp h H h1 H1) (y : Stp h1 H1 h2 H2) : Stp h H h2 H2 := fun b o e n =>
  let ⟨e1, n1⟩ := x b o e n
  y b o e1 n1
section
variable {P : Program} {w : World} {K : PySem.W.Frag} {H H' : Hp}
theorem RH.mut {h : PH} (r : RH P w K H h) {a : Addr} {o : PO} (e : h a = some o) : ∃ u, H a = some u ∧ (∀ xs, u ≠ .tup xs) ∧ ∀ ob xs, u ≠ .frz ob (.tup xs) ∧ u ≠ .frz ob (.lst xs) := by
  have q := r a o e
  have lk : ∀ {l u}, LkAt H a l u → (∀ xs, u ≠ .tup xs) → (∀ ob w, u ≠ .frz ob w) → (∀ xs, u ≠ .lst xs) → ∃ u, H a = some u ∧ (∀ xs, u ≠ .tup xs) ∧ ∀ ob xs, u ≠ .frz ob (.tup xs) ∧ u ≠ .frz ob (.lst xs) := fun {l u} x h1 h2 h3 => by
    cases l with
    | none => exact ⟨u, x, h1, fun ob xs => ⟨h2 _ _, h2 _ _⟩⟩
    | some y =>
      refine ⟨_, x.2, (fun _ z => nomatch z), fun ob xs => ⟨fun z => ?_, fun z => ?_⟩⟩
      · cases z; exact h1 _ rfl
      · cases z; exact h3 _ rfl
  cases o with
  | lst ps => obtain ⟨xs, e1, _⟩ := q; exact ⟨_, e1, (fun _ z => nomatch z), (fun _ _ => ⟨(fun z => nomatch z), (fun z => nomatch z)⟩)⟩
  | ins C fs => obtain ⟨dx, xs, e1, _⟩ := q; exact ⟨_, e1, (fun _ z => nomatch z), (fun _ _ => ⟨(fun z => nomatch z), (fun z => nomatch z)⟩)⟩
  | dic t l kvs =>
    cases t
    · obtain ⟨xs, e1, _⟩ := q; exact lk e1 (fun _ z => nomatch z) (fun _ _ z => nomatch z) (fun _ z => nomatch z)
    · obtain ⟨xs, e1, _⟩ := q; exact lk e1 (fun _ z => nomatch z) (fun _ _ z => nomatch z) (fun _ z => nomatch z)
theorem RH.free {h : PH} (r : RH P w K H h) {p : Addr} (n : H p = none) : h p = none := by
  cases e : h p with
  | none => rfl
  | some o => obtain ⟨u, e1, _⟩ := r.mut e; rw [n] at e1; cases e1
theorem RH.noTup {h : PH} (r : RH P w K H h) {p : Addr} {xs : List V} (n : H p = some (.tup xs)) : h p = none := by
  cases e : h p with
  | none => rfl
  | some o => obtain ⟨u, e1, e2, _⟩ := r.mut e; rw [n] at e1; cases e1; exact absurd rfl (e2 _)
theorem RH.noFrz {h : PH} (r : RH P w K H h) {p : Addr} {ob : Obj} {xs : List V} (n : H p = some (.frz ob (.tup xs))) : h p = none := by
  cases e : h p with
  | none => rfl
  | some o => obtain ⟨u, e1, _, e2⟩ := r.mut e; rw [n] at e1; cases e1; exact absurd rfl (e2 _ _).1
theorem RH.noFrzL {h : PH} (r : RH P w K H h) {p : Addr} {ob : Obj} {xs : List V} (n : H p = some (.frz ob (.lst xs))) : h p = none := by
  cases e : h p with
  | none => rfl
  | some o => obtain ⟨u, e1, _, e2⟩ := r.mut e; rw [n] at e1; cases e1; exact absurd rfl (e2 _ _).2
theorem RH.sub {h g : PH} (r : RH P w K H h) (s : Sub g h) : RH P w K H g := fun a o e => r a o (s a o e)
theorem SqT.stp {h h' : PH} (r : RH P w K H h) (s : Stp h H h' H') {a : Addr} {xs : List V} (q : SqT K H a xs) : SqT K H' a xs := by
  rcases q with (q | ⟨o, q⟩) | q
  · exact .inl (.inl (s a _ q (r.noTup q)).1)
  · exact .inl (.inr ⟨o, (s a _ q (r.noFrz q)).1⟩)
  · exact .inr q
mutual
theorem RV.stp {h h' : PH} (r : RH P w K H h) (s : Stp h H h' H') : ∀ {v : V} {p : PV}, RV K H v p → RV K H' v p
  | _, _, .non => .non
  | _, _, .bl b => .bl b
  | _, _, .int i => .int i
  | _, _, .str x => .str x
  | _, _, .tup q hl rs => .tup (SqT.stp r s q) hl (RVs.stp r s rs)
  | _, _, .ref a => .ref a
  | _, _, .scr q hl => by
    rcases q with ⟨o, q⟩ | q
    · exact .scr (.inl ⟨o, (s _ _ q (r.noFrzL q)).1⟩) hl
    · exact .scr (.inr q) hl
theorem RVs.stp {h h' : PH} (r : RH P w K H h) (s : Stp h H h' H') : ∀ {vs : List V} {ps : List PV}, RVs K H vs ps → RVs K H' vs ps
  | _, _, .nil => .nil
  | _, _, .cons q t => .cons (RV.stp r s q) (RVs.stp r s t)
end
/-- an object that stays -/
theorem RO.keep {h h' : PH} (r : RH P w K H h) (s : Stp h H h' H') {a : Addr} {o : PO} (e : H' a = H a) (x : RO P w K H a o) : RO P w K H' a o := by
  cases o with
  | lst ps => obtain ⟨xs, e1, l, q⟩ := x; exact ⟨xs, e.trans e1, l, q.stp r s⟩
  | ins C fs => obtain ⟨dx, xs, e1, l, q⟩ := x; exact ⟨dx, xs, e.trans e1, l, Paired.mapP q fun _ _ z => ⟨z.1, z.2.stp r s⟩⟩
  | dic t lk kvs =>
    cases t
    · obtain ⟨ds, e1, l, q⟩ := x
      exact ⟨ds, e1.keep e, l, Paired.mapP q fun _ _ z => ⟨z.1, z.2.stp r s⟩⟩
    · obtain ⟨xs, e1, l, q⟩ := x
      exact ⟨xs, e1.keep e, l, Paired.mapP q fun _ _ ⟨z1, z2, z3, v, z4, z5⟩ => ⟨z1, z2, z3.stp r s, v, z4, z5.stp r s⟩⟩
/-- a new object -/
theorem stp_new {h : PH} {p : Addr} {o : HO} {u : PO} (r : RH P w K H h) (n : H p = none) : Stp h H (up h p u) (upd H p o) := fun b x e nb => by
  have hb : b ≠ p := fun z => by rw [z, n] at e; cases e
  exact ⟨by rw [upd_ne hb]; exact e, by rw [up_ne hb]; exact nb⟩
theorem stp_new0 {h : PH} {p : Addr} {o : HO} (n : H p = none) : Stp h H h (upd H p o) := fun b x e nb => by
  have hb : b ≠ p := fun z => by rw [z, n] at e; cases e
  exact ⟨by rw [upd_ne hb]; exact e, nb⟩
/-- an object written -/
theorem stp_set {h : PH} {p : Addr} {o : HO} {u u0 : PO} (e0 : h p = some u0) : Stp h H (up h p u) (upd H p o) := fun b x e nb => by
  have hb : b ≠ p := fun z => by rw [z, e0] at nb; cases nb
  exact ⟨by rw [upd_ne hb]; exact e, by rw [up_ne hb]; exact nb⟩
theorem RH.put {h : PH} {p : Addr} {o : HO} {u : PO} (r : RH P w K H h) (s : Stp h H (up h p u) (upd H p o)) (x : RO P w K (upd H p o) p u) : RH P w K (upd H p o) (up h p u) := fun a v e => by
  by_cases ha : a = p
  · subst ha; rw [up_same] at e; cases e; exact x
  · rw [up_ne ha] at e
    exact (r a v e).keep r s (upd_ne ha)
theorem RH.new0 {h : PH} {p : Addr} {o : HO} (r : RH P w K H h) (n : H p = none) : RH P w K (upd H p o) h := fun a v e => by
  have ha : a ≠ p := fun z => by
    subst z
    rw [r.free n] at e; cases e
  exact (r a v e).keep r (stp_new0 n) (upd_ne ha)
end
end G

namespace G
open PySem PySem.Spec PyProof.Rows L2

/-! ### readings over trees -/
abbrev Ev := List (Option PV)
abbrev QV := PV → PH → Prop
abbrev ZE := Ev → PH → QV → Prop
abbrev ZA := Ev → PH → (List PV → PH → Prop) → Prop
abbrev ZT := Ev → PH → (Bool → PH → Prop) → Prop
abbrev Z2 := PV → PV → PH → QV → Prop
abbrev ZC := List PV → PH → QV → Prop

def RS (K : PySem.W.Frag) (H : Hp) (σ : L2.St) (ρ : Ev) : Prop := σ.length = ρ.length ∧ ∀ (i : Nat) (p : PV), ρ[i]? = some (some p) → ∃ v, σ[i]? = some (some v) ∧ RV K H v p

section
variable (P : Program) (w : World) (K : PySem.W.Frag)
/-- from a tree's continuation to the values' -/
def Thn (h : PH) (H : Hp) (Qp : QV) (Q : VK) : Prop := ∀ p h', Qp p h' → ∀ v H', Stp h H h' H' → RV K H' v p → RH P w K H' h' → Q v H'
def LE (t : ZE) : TE := fun σ H Q => ∃ ρ h Qp, RS K H σ ρ ∧ RH P w K H h ∧ t ρ h Qp ∧ Thn P w K h H Qp Q
def LA (t : ZA) : TA := fun σ H Q => ∃ ρ h Qp, RS K H σ ρ ∧ RH P w K H h ∧ t ρ h Qp ∧ ∀ ps h', Qp ps h' → ∀ vs H', Stp h H h' H' → RVs K H' vs ps → RH P w K H' h' → Q vs H'
def LT (t : ZT) : TT := fun σ H Q => ∃ ρ h Qp, RS K H σ ρ ∧ RH P w K H h ∧ t ρ h Qp ∧ ∀ b h', Qp b h' → ∀ H', Stp h H h' H' → RH P w K H' h' → Q b H'
def L2r (r : Z2) : R2 := fun x y H Q => ∃ a b h Qp, RV K H x a ∧ RV K H y b ∧ RH P w K H h ∧ r a b h Qp ∧ Thn P w K h H Qp Q
def LC (r : ZC) : List V → Hp → VK → Prop := fun xs H Q => ∃ ps h Qp, RVs K H xs ps ∧ RH P w K H h ∧ r ps h Qp ∧ Thn P w K h H Qp Q
def LU (r : PV → PH → QV → Prop) : V → Hp → VK → Prop := fun x H Q => ∃ a h Qp, RV K H x a ∧ RH P w K H h ∧ r a h Qp ∧ Thn P w K h H Qp Q
end
abbrev QE (X : Cx) (e : Expr) (t : ZE) : Prop := PE X e (LE X.prog X.w X.K t)
abbrev QA (X : Cx) (es : List Expr) (t : ZA) : Prop := PA X es (LA X.prog X.w X.K t)
abbrev QT (X : Cx) (e : Expr) (t : ZT) : Prop := PT X e (LT X.prog X.w X.K t)
abbrev QO (X : Cx) (f : Value → Value → Sem Value) (r : Z2) : Prop := OpR X f (L2r X.prog X.w X.K r)
abbrev QC (X : Cx) (f : Value) (r : ZC) : Prop := CallR X f (LC X.prog X.w X.K r)

theorem peI {X : Cx} {e : Expr} {t t' : TE} (h : PE X e t) (i : ∀ σ H Q, t' σ H Q → t σ H Q) : PE X e t' := ⟨fun pins s σ H Q I q => h.run pins s σ H Q I (i σ H Q q)⟩
theorem ptI {X : Cx} {e : Expr} {t t' : TT} (h : PT X e t) (i : ∀ σ H Q, t' σ H Q → t σ H Q) : PT X e t' := ⟨fun pins s σ H Q I q => h.run pins s σ H Q I (i σ H Q q)⟩
theorem paI {X : Cx} {e : List Expr} {t t' : TA} (h : PA X e t) (i : ∀ σ H Q, t' σ H Q → t σ H Q) : PA X e t' := ⟨fun pos pins s σ H Q I q => h.run pos pins s σ H Q I (i σ H Q q)⟩
theorem opI {X : Cx} {f : Value → Value → Sem Value} {r r' : R2} (h : OpR X f r) (i : ∀ x y H Q, r' x y H Q → r x y H Q) : OpR X f r' := fun pins s σ H x y v u Q I rx ry q => h pins s σ H x y v u Q I rx ry (i x y H Q q)

section
variable {P : Program} {w : World} {K : PySem.W.Frag} {H H' : Hp} {h h' : PH} {σ : L2.St} {ρ : Ev}
theorem RS.stp (rs : RS K H σ ρ) (rh : RH P w K H h) (s : Stp h H h' H') : RS K H' σ ρ := ⟨rs.1, fun i p e => let ⟨v, a, b⟩ := rs.2 i p e; ⟨v, a, b.stp rh s⟩⟩
theorem RS.set (rs : RS K H σ ρ) {v : V} {p : PV} (r : RV K H v p) (i : Nat) : RS K H (σ.set i (some v)) (ρ.set i (some p)) := by
  refine ⟨by rw [List.length_set, List.length_set]; exact rs.1, fun j q e => ?_⟩
  by_cases hj : i = j
  · subst hj
    by_cases hi : i < ρ.length
    · rw [List.getElem?_set_self hi] at e
      have e' : p = q := by simpa using e
      subst e'
      exact ⟨v, by rw [List.getElem?_set_self (by rw [rs.1]; exact hi)], r⟩
    · rw [List.getElem?_eq_none (by simpa using hi)] at e; cases e
  · rw [List.getElem?_set_ne hj] at e
    obtain ⟨v', a, b⟩ := rs.2 j q e
    exact ⟨v', by rw [List.getElem?_set_ne hj]; exact a, b⟩
theorem Thn.now {Qp : QV} {Q : VK} (k : Thn P w K h H Qp Q) (rh : RH P w K H h) {v : V} {p : PV} (r : RV K H v p) (q : Qp p h) : Q v H := k p h q v H (Stp.refl h H) r rh
theorem Thn.later {h1 : PH} {H1 : Hp} {Qp : QV} {Q : VK} (k : Thn P w K h H Qp Q) (s : Stp h H h1 H1) : Thn P w K h1 H1 Qp Q := fun p h' q v H' s' r rh => k p h' q v H' (s.trans s') r rh
/-- a new tuple -/
theorem Thn.tup {Qp : QV} {Q : VK} (k : Thn P w K h H Qp Q) (rh : RH P w K H h) {vs : List V} {ps : List PV} (r : RVs K H vs ps) (hl : vs.length ≤ sizeLine) (q : Qp (.tup ps) h) : ∀ p, H p = none → Q (.ref p) (upd H p (.tup vs)) := fun p n =>
  k _ h q _ _ (stp_new0 n) (.tup (SqT.of upd_same) hl (r.stp rh (stp_new0 n))) (rh.new0 n)
/-- a new list -/
theorem Thn.lst {Qp : QV} {Q : VK} (k : Thn P w K h H Qp Q) (rh : RH P w K H h) {vs : List V} {ps : List PV} (r : RVs K H vs ps) (hl : vs.length ≤ sizeLine) (q : ∀ p, h p = none → Qp (.ref p) (up h p (.lst ps))) : ∀ p, H p = none → Q (.ref p) (upd H p (.lst vs)) := fun p n =>
  have s : Stp h H (up h p (.lst ps)) (upd H p (.lst vs)) := stp_new rh n
  k _ _ (q p (rh.free n)) _ _ s (.ref p) (rh.put s ⟨vs, upd_same, hl, r.stp rh s⟩)
/-- a list written -/
theorem Thn.put {Qp : QV} {Q : VK} (k : Thn P w K h H Qp Q) (rh : RH P w K H h) {a : Addr} {u0 : PO} (e0 : h a = some u0) {vs : List V} {ps : List PV} (r : RVs K H vs ps) (hl : vs.length ≤ sizeLine) {v : V} {p : PV} (rv : RV K H v p) (q : Qp p (up h a (.lst ps))) : Q v (upd H a (.lst vs)) :=
  have s : Stp h H (up h a (.lst ps)) (upd H a (.lst vs)) := stp_set e0
  k _ _ q _ _ s (rv.stp rh s) (rh.put s ⟨vs, upd_same, hl, r.stp rh s⟩)
end

section
variable {X : Cx} {e a b c : Expr} {es : List Expr} {t ta tb tc : ZE} {pos : Pos}
theorem LE.mono {P : Program} {w : World} {K : PySem.W.Frag} {σ : L2.St} {H : Hp} {Q : VK} {t : ZE} {ρ : Ev} {h : PH} {Qp : QV} (rs : RS K H σ ρ) (rh : RH P w K H h) (x : t ρ h Qp) (k : Thn P w K h H Qp Q) : LE P w K t σ H Q := ⟨ρ, h, Qp, rs, rh, x, k⟩

/-! ### names and constants -/
def zVar (i : Nat) : ZE := fun ρ h Q => ∃ p, ρ[i]? = some (some p) ∧ Q p h
def zC (p : PV) : ZE := fun _ h Q => Q p h
theorem qe_var {X : Cx} {pos : Pos} {i : Nat} {x : Str} (hN : X.N[i]? = some x) (hv : Vis X.env.scope x) (hd : (x == ("__debug__" : Str)) = false) (hcd : (x == ("__classdict__" : Str)) = false) : QE X (.Name x pos) (zVar i) :=
  peI (pe_var hN hv hd hcd) fun σ H Q ⟨ρ, h, Qp, rs, rh, ⟨p, e, q⟩, k⟩ =>
    let ⟨v, e1, r⟩ := rs.2 i p e
    ⟨v, e1, k.now rh r q⟩
theorem qe_int {i j} : QE X (.Constant (.int i) j pos) (zC (.int i)) := peI pe_int fun σ H Q ⟨ρ, h, Qp, rs, rh, q, k⟩ => k.now rh (.int i) q
theorem qe_bl {i j} : QE X (.Constant (.bool i) j pos) (zC (.bl i)) := peI pe_bl fun σ H Q ⟨ρ, h, Qp, rs, rh, q, k⟩ => k.now rh (.bl i) q
theorem qe_non {j} : QE X (.Constant .none j pos) (zC .non) := peI pe_non fun σ H Q ⟨ρ, h, Qp, rs, rh, q, k⟩ => k.now rh .non q
theorem qe_str {x : List Nat} {j} : QE X (.Constant (.str (tS x)) j pos) (zC (.str x)) := peI pe_str fun σ H Q ⟨ρ, h, Qp, rs, rh, q, k⟩ => k.now rh (.str x) q

/-! ### two places -/
def z2 (r : Z2) (ta tb : ZE) : ZE := fun ρ h Q => ta ρ h fun p h1 => tb ρ h1 fun q h2 => r p q h2 Q
theorem le_op {P : Program} {w : World} {K : PySem.W.Frag} {ta tb : ZE} {r : Z2} {σ : L2.St} {H : Hp} {Q : VK} (x : LE P w K (z2 r ta tb) σ H Q) : tOp (L2r P w K r) (LE P w K ta) (LE P w K tb) σ H Q := by
  obtain ⟨ρ, h, Qp, rs, rh, t, k⟩ := x
  refine ⟨ρ, h, _, rs, rh, t, fun p h1 t1 v H1 s1 r1 rh1 => ⟨ρ, h1, _, rs.stp rh s1, rh1, t1, fun q h2 t2 u H2 s2 r2 rh2 => ?_⟩⟩
  exact ⟨p, q, h2, Qp, r1.stp rh1 s2, r2, rh2, t2, (k.later s1).later s2⟩
theorem qe_op {op : Operator} {r : Z2} (ho : QO X (binaryOp op) r) (ha : QE X a ta) (hb : QE X b tb) : QE X (.BinOp a op b pos) (z2 r ta tb) := peI (pe_op ho ha hb) fun _ _ _ x => le_op x
theorem qe_cmp {op : CmpOp} {r : Z2} (ho : QO X (compareOp op) r) (ha : QE X a ta) (hb : QE X b tb) (hm : behindInMarks op b = false) : QE X (.Compare a [op] [b] pos) (z2 r ta tb) := peI (pe_cmpR ho ha hb hm) fun _ _ _ x => le_op x

/-! ### + -/
def zAdd : Z2
  | .int i, .int j, h, Q => Q (.int (i + j)) h
  | .str x, .str y, h, Q => x.length + y.length ≤ sizeLine ∧ Q (.str (x ++ y)) h
  | .tup x, .tup y, h, Q => x.length + y.length ≤ sizeLine ∧ Q (.tup (x ++ y)) h
  | .ref a, .ref b, h, Q => ∃ xs ys, h a = some (.lst xs) ∧ h b = some (.lst ys) ∧ xs.length + ys.length ≤ sizeLine ∧ ∀ p, h p = none → Q (.ref p) (up h p (.lst (xs ++ ys)))
  | _, _, _, _ => False
theorem tS_append (x y : List Nat) : (tS x ++ tS y : Str) = tS (x ++ y) := by
  show Str.append (tS x) (tS y) = _
  simp [Str.append, tS]
theorem qo_add : QO X (binaryOp .Add) zAdd := by
  intro pins s σ H x y v u Q I rx ry ⟨p, q, h, Qp, r1, r2, rh, z, k⟩
  cases p <;> cases q <;> try (exact False.elim z)
  case int.int i j =>
    cases r1; cases r2
    exact op_add pins s σ H _ _ v u Q I rx ry ⟨i, j, rfl, rfl, k.now rh (.int _) z⟩
  case str.str i j =>
    cases r1; cases r2
    refine op_add_str pins s σ H _ _ v u Q I rx ry ⟨tS i, tS j, rfl, rfl, by simpa [Str.length] using z.1, ?_⟩
    rw [tS_append]
    exact k.now rh (.str _) z.2
  case tup.tup i j =>
    cases r1 with
    | tup s1 l1 q1 =>
      cases r2 with
      | tup s2 l2 q2 =>
        have hl := q1.length
        have hl2 := q2.length
        refine op_catA pins s σ H _ _ v u Q I rx ry ⟨_, _, _, _, rfl, rfl, s1, s2, by rw [hl, hl2]; exact z.1, fun e => ?_, fun n e => ?_, fun _ _ => k.tup rh (q1.append q2) (by rw [List.length_append, hl, hl2]; exact z.1) z.2⟩
        · subst e
          cases q1
          exact k.now rh (.tup s2 l2 q2) z.2
        · subst e
          cases q2
          have z2 := z.2
          rw [List.append_nil] at z2
          exact k.now rh (.tup s1 l1 q1) z2
  case ref.ref i j =>
    cases r1; cases r2
    obtain ⟨xs, ys, e1, e2, hl, z⟩ := z
    obtain ⟨us, f1, l1, q1⟩ := rh i _ e1
    obtain ⟨ws, f2, l2, q2⟩ := rh j _ e2
    have hl1 := q1.length
    have hl2 := q2.length
    exact op_cat pins s σ H _ _ v u Q I rx ry ⟨i, j, us, ws, rfl, rfl, f1, f2, by omega, k.lst rh (q1.append q2) (by simp; omega) z⟩
end
end G

set_option maxHeartbeats 4000001
namespace G
open PySem PySem.Spec
open PyProof.Rows L2
/-! ### a tuple times a number below 2 -/
abbrev tupOb (items : Array Value) (n : Nat) (dd : Option Addr) (sl : Array (Option Value)) : Obj := ⟨.type "tuple", dd, .seq items n, sl⟩
theorem tup_mul1 (l : Addr) (items : Array Value) (n : Nat) (dd : Option Addr) (sl : Array (Option Value)) (x : Int) (u : Tok) (c0 : (decide (x < -(2 ^ 63)) || decide (x ≥ 2 ^ 63)) = false) (c1 : (items.isEmpty || x == 1) = true) :
    Meets (Builtin.«tuple.__mul__» ⟨[.ref l, .int x u], []⟩) (fun _ R s => s.heap.get? l = some (tupOb items n dd sl) ∧ R (.ok (.ret (.ref l))) s) :=
  .of_wp fun pr w A R s h => by
    obtain ⟨hp, g, dn, tk, os⟩ := s
    obtain ⟨hl, h⟩ := h
    have f1 := AutoSeq1.idx_int
    wp_walk using AutoSeq1.wpAny_loadPart' hl
    repeat (first
      | (refine wpAny_ite_false (decide_eq_false (by rw [c0]; exact Bool.false_ne_true)) ?_; wp_walk using AutoSeq1.wpAny_loadPart' hl)
      | (refine wpAny_ite_true (decide_eq_true c1) ?_; wp_walk using AutoSeq1.wpAny_loadPart' hl))
    exact ⟨_, rfl, h⟩
theorem tup_mul0 (l : Addr) (items : Array Value) (n : Nat) (dd : Option Addr) (sl : Array (Option Value)) (x : Int) (u : Tok) (c0 : (decide (x < -(2 ^ 63)) || decide (x ≥ 2 ^ 63)) = false) (c1 : (items.isEmpty || x == 1) = false) (c2 : (decide (x ≤ 0) || items.isEmpty) = true) :
    Meets (Builtin.«tuple.__mul__» ⟨[.ref l, .int x u], []⟩) (fun _ R s => s.heap.get? l = some (tupOb items n dd sl) ∧ R (.ok (.ret (.ref s.heap.objs.size))) { s with heap := s.heap.push (tupOb #[] 0 none #[]) }) :=
  .of_wp fun pr w A R s h => by
    obtain ⟨hp, g, dn, tk, os⟩ := s
    obtain ⟨hl, h⟩ := h
    have f1 := AutoSeq1.idx_int
    wp_walk using AutoSeq1.wpAny_loadPart' hl
    repeat (first
      | (refine wpAny_ite_false (decide_eq_false (by rw [c0]; exact Bool.false_ne_true)) ?_; wp_walk using AutoSeq1.wpAny_loadPart' hl)
      | (refine wpAny_ite_false (decide_eq_false (by rw [c1]; exact Bool.false_ne_true)) ?_; wp_walk using AutoSeq1.wpAny_loadPart' hl)
      | (refine wpAny_ite_true (decide_eq_true c2) ?_; wp_walk using AutoSeq1.wpAny_loadPart' hl))
    exact ⟨_, rfl, h⟩
/-- a tuple times any small number -/
def rRepA (K : PySem.W.Frag) : R2 := fun x y H Q => ∃ l k xs, x = .ref l ∧ y = .int k ∧ SqT K H l xs ∧ -(2 ^ 63) ≤ k ∧ k ≤ 1000 ∧ xs.length ≤ 1000 ∧
  ((xs = [] ∨ k = 1) → Q (.ref l) H) ∧ (¬ (xs = [] ∨ k = 1) → ∀ p, H p = none → Q (.ref p) (upd H p (.tup (List.replicate k.toNat xs).flatten)))
theorem op_repA {X : Cx} : OpR X (binaryOp .Mult) (rRepA X.K) := by
  intro pins s σ H x y v u Q I rx ry ⟨l, k, xs, ex, ey, hT, h0, h1, hz, q1, q2⟩
  subst ex ey
  by_cases big : xs ≠ [] ∧ 2 ≤ k
  · exact op_repT pins s σ H _ _ v u Q I rx ry ⟨l, k, xs, rfl, rfl, hT, big.1, big.2, h1, hz, q2 (by have := big.1; have := big.2; rintro (e | e); exact big.1 e; omega)⟩
  · obtain rfl : v = Value.ref l := rx
    obtain ⟨t, rfl⟩ := ry
    obtain ⟨its, r, ⟨⟨cl, dd, data, sl⟩, ho, hc, n, hd⟩, _⟩ := I.tuple hT
    obtain rfl : cl = .type "tuple" := hc
    obtain rfl : data = .seq its.toArray n := hd
    have cc : (decide (k < -(2 ^ 63)) || decide (k ≥ 2 ^ 63)) = false := by
      have a1 : ¬ k < -(2 ^ 63) := by omega
      have a2 : ¬ k ≥ 2 ^ 63 := by omega
      rw [decide_eq_false a1, decide_eq_false a2] <;> rfl
    have emp : its.toArray.isEmpty = true ↔ xs = [] := by
      have e := r.length
      cases its <;> cases xs <;> simp at e ⊢
    by_cases e1 : xs = [] ∨ k = 1
    · have c1 : (its.toArray.isEmpty || k == 1) = true := by
        rcases e1 with e | e
        · rw [emp.mpr e]; rfl
        · subst e; simp
      exact wpAny_binaryOp_repeat_ref (T := "tuple") (U := "int") (by decide) ⟨_, ho, rfl⟩ (fun _ => typeIs_int _ k t) noFill_tuple_mul F.fills_int_mul F.slot_int_rmul repeat_tuple F.slot_int_index.lookup
        (call_meets F.slot_int_rmul (typeIs_int s k t) F.entry_int_rmul (F.args_int_rmul_2 _ _)
          (int_rmul_tuple k t l its.toArray n dd sl) ⟨ho, rfl, ⟨_, ho, rfl⟩, call_meets F.slot_tuple_mul ⟨_, ho, rfl⟩ F.entry_tuple_mul (F.args_tuple_mul_2 _ _) (tup_mul1 l its.toArray n dd sl k t cc c1) ⟨ho, ⟨.ref l, H, I, rfl, q1 e1⟩⟩⟩)
    · have k0 : k ≤ 0 := by
        rcases Classical.em (k ≤ 0) with z | z
        · exact z
        · exact absurd ⟨fun e => e1 (.inl e), by have : k ≠ 1 := fun e => e1 (.inr e); omega⟩ big
      have c1 : (its.toArray.isEmpty || (k == 1)) = false := by
        have a1 : its.toArray.isEmpty = false := by
          cases e : its.toArray.isEmpty with
          | false => rfl
          | true => exact absurd (emp.mp e) fun z => e1 (.inl z)
        have a2 : (k == 1) = false := beq_eq_false_iff_ne.mpr fun z => e1 (.inr z)
        rw [a1, a2] <;> rfl
      have c2 : (decide (k ≤ 0) || its.toArray.isEmpty) = true := by simp [k0]
      refine wpAny_binaryOp_repeat_ref (T := "tuple") (U := "int") (by decide) ⟨_, ho, rfl⟩ (fun _ => typeIs_int _ k t) noFill_tuple_mul F.fills_int_mul F.slot_int_rmul repeat_tuple F.slot_int_index.lookup
        (call_meets F.slot_int_rmul (typeIs_int s k t) F.entry_int_rmul (F.args_int_rmul_2 _ _)
          (int_rmul_tuple k t l its.toArray n dd sl) ⟨ho, rfl, ⟨_, ho, rfl⟩, call_meets F.slot_tuple_mul ⟨_, ho, rfl⟩ F.entry_tuple_mul (F.args_tuple_mul_2 _ _) (tup_mul0 l its.toArray n dd sl k t cc c1 c2) ⟨ho, ?_⟩⟩)
      have e0 : (List.replicate k.toNat xs).flatten = [] := by
        have : k.toNat = 0 := by omega
        rw [this]; rfl
      have q3 := q2 e1 s.heap.objs.size (I.hok.fresh (Nat.le_refl _))
      rw [e0] at q3
      exact ⟨.ref s.heap.objs.size, _, I.laid (t' := s.toks) (o := .tup []) (fun b ob q => Heap.get?_push_of_some _ q) (Nat.le_refl _) ⟨Nat.zero_le _, [], .nil, IsTup.new _ _⟩, rfl, q3⟩
end G

namespace G
open PySem PySem.Spec PyProof.Rows L2

/-! ### plain data: no truth values, no addresses -/
def PV.flat : PV → Bool
  | .non => true | .int _ => true | .str _ => true | .bl _ => true | _ => false
mutual
def PV.pl : PV → Bool
  | .non => true
  | .int _ => true
  | .str x => x.all fun c => decide (c < 1114112)
  | .tup xs => PV.pls xs
  | _ => false
def PV.pls : List PV → Bool
  | [] => true
  | x :: xs => PV.pl x && PV.pls xs
end
mutual
def PV.dp : PV → Nat
  | .tup xs => PV.dps xs + 1
  | _ => 0
def PV.dps : List PV → Nat
  | [] => 0
  | x :: xs => max (PV.dp x) (PV.dps xs)
end
mutual
def PV.D : PV → PyData
  | .int i => .int i
  | .str x => .str (tS x)
  | .tup xs => .tuple (PV.Ds xs)
  | _ => .none
def PV.Ds : List PV → List PyData
  | [] => []
  | x :: xs => PV.D x :: PV.Ds xs
end
mutual
theorem PV.D_lay : ∀ a : PV, a.pl = true → a.D.canLay0 = true
  | .non, _ => by simp [PV.D, PyData.canLay0]
  | .int _, _ => by simp [PV.D, PyData.canLay0]
  | .str x, h => by
    simp only [PV.pl] at h
    simp only [PV.D, PyData.canLay0, PyData.strOk, tS]
    simpa using h
  | .tup xs, h => by simpa [PV.D, PyData.canLay0] using PV.Ds_lay xs (by simpa [PV.pl] using h)
  | .bl _, h => by simp [PV.pl] at h
  | .ref _, h => by simp [PV.pl] at h
  | .scr _, h => by simp [PV.pl] at h
theorem PV.Ds_lay : ∀ a : List PV, PV.pls a = true → PyData.canLayAll0 (PV.Ds a) = true
  | [], _ => by simp [PV.Ds, PyData.canLayAll0]
  | x :: xs, h => by
    simp only [PV.pls, Bool.and_eq_true] at h
    simp only [PV.Ds, PyData.canLayAll0, PV.D_lay x h.1, PV.Ds_lay xs h.2, Bool.and_self]
end
mutual
theorem PV.D_depth : ∀ a : PV, a.D.depth = a.dp
  | .non => by simp [PV.D, PyData.depth, PV.dp]
  | .int _ => by simp [PV.D, PyData.depth, PV.dp]
  | .str x => by simp [PV.D, PyData.depth, PV.dp]
  | .tup xs => by simp [PV.D, PyData.depth, PV.dp, PV.Ds_depth xs]
  | .bl _ => by simp [PV.D, PyData.depth, PV.dp]
  | .ref _ => by simp [PV.D, PyData.depth, PV.dp]
  | .scr _ => by simp [PV.D, PyData.depth, PV.dp]
theorem PV.Ds_depth : ∀ a : List PV, PyData.depthAll (PV.Ds a) = PV.dps a
  | [] => by simp [PV.Ds, PyData.depthAll, PV.dps]
  | x :: xs => by simp [PV.Ds, PyData.depthAll, PV.dps, PV.D_depth x, PV.Ds_depth xs]
end
mutual
theorem PV.D_eqv : ∀ a b : PV, a.pl = true → b.pl = true → PyData.eqv a.D b.D = PV.beq a b
  | .non, b, _, hb => by cases b <;> simp [PV.D, PyData.eqv, PV.beq, PV.pl] at hb ⊢
  | .int i, b, _, hb => by cases b <;> simp [PV.D, PyData.eqv, PV.beq, PV.pl] at hb ⊢
  | .str x, b, _, hb => by
    cases b <;> simp [PV.D, PyData.eqv, PV.beq, PV.pl] at hb ⊢
    rename_i y
    by_cases e : x = y
    · subst e; simp
    · have e' : ¬ tS x = tS y := fun z => e (tS_inj.mp z)
      rw [beq_eq_false_iff_ne.mpr e, beq_eq_false_iff_ne.mpr e']
  | .tup xs, b, ha, hb => by
    cases b with
    | tup ys => simp only [PV.D, PyData.eqv, PV.beq]; exact PV.Ds_eqv xs ys (by simpa [PV.pl] using ha) (by simpa [PV.pl] using hb)
    | _ => simp [PV.D, PyData.eqv, PV.beq, PV.pl] at hb ⊢
  | .bl _, _, h, _ => by simp [PV.pl] at h
  | .ref _, _, h, _ => by simp [PV.pl] at h
  | .scr _, _, h, _ => by simp [PV.pl] at h
theorem PV.Ds_eqv : ∀ a b : List PV, PV.pls a = true → PV.pls b = true → PyData.eqvAll (PV.Ds a) (PV.Ds b) = PV.beqs a b
  | [], b, _, _ => by cases b <;> simp [PV.Ds, PyData.eqvAll, PV.beqs]
  | x :: xs, b, ha, hb => by
    cases b with
    | nil => simp [PV.Ds, PyData.eqvAll, PV.beqs]
    | cons y ys =>
      simp only [PV.pls, Bool.and_eq_true] at ha hb
      simp only [PV.Ds, PyData.eqvAll, PV.beqs]
      rw [PV.D_eqv x y ha.1 hb.1, PV.Ds_eqv xs ys ha.2 hb.2]
end
theorem PV.beq_dec (a b : PV) : PV.beq a b = decide (a = b) := by
  rw [Bool.eq_iff_iff, PV.beq_iff, decide_eq_true_eq]
theorem PV.beqs_dec (a b : List PV) : PV.beqs a b = decide (a = b) := by
  rw [Bool.eq_iff_iff, PV.beqs_iff, decide_eq_true_eq]
theorem PV.shaped {a : PV} (h : a.pl = true) (d : a.dp ≤ 64) : SeqAt.shaped a.D = true := by
  unfold SeqAt.shaped
  rw [PV.D_lay a h, PV.D_depth]
  simp [d]
theorem PV.shapedL {a : List PV} (h : PV.pls a = true) (d : PV.dps a ≤ 63) : SeqAt.shaped (.list (PV.Ds a)) = true := by
  unfold SeqAt.shaped
  simp only [PyData.canLay0, PyData.depth, PV.Ds_lay a h, PV.Ds_depth, Bool.true_and, decide_eq_true_eq]
  omega
section
variable {K : PySem.W.Frag} {H : Hp}
mutual
theorem RV.dp : ∀ (p : PV) (v : V), p.pl = true → RV K H v p → Dp K H v p.D
  | .non, _, _, h => by cases h; exact .non
  | .int i, _, _, h => by cases h; exact .int i
  | .str x, _, _, h => by cases h; exact .str _
  | .tup xs, _, hp, h => by
    cases h with
    | tup s l r => exact .tup s (RVs.dp xs _ (by simpa [PV.pl] using hp) r)
  | .bl _, _, h, _ => by simp [PV.pl] at h
  | .ref _, _, h, _ => by simp [PV.pl] at h
  | .scr _, _, h, _ => by simp [PV.pl] at h
theorem RVs.dp : ∀ (ps : List PV) (vs : List V), PV.pls ps = true → RVs K H vs ps → DpAll K H vs (PV.Ds ps)
  | [], _, _, h => by cases h; exact .nil
  | p :: ps, _, hp, h => by
    simp only [PV.pls, Bool.and_eq_true] at hp
    cases h with
    | cons r t => exact .cons (RV.dp p _ hp.1 r) (RVs.dp ps _ hp.2 t)
end
/-- the value itself, where it is flat -/
def PV.v : PV → V
  | .non => .non | .int i => .int i | .str x => .str (tS x) | .bl b => .bl b | _ => .non
theorem RV.v_of {v : V} {p : PV} (f : p.flat = true) (h : RV K H v p) : v = p.v := by
  cases h <;> first | rfl | (simp [PV.flat] at f)
end

/-- a == b -/
def zEq : Z2
  | .ref a, .ref b, h, Q => ∃ xs ys, h a = some (.lst xs) ∧ h b = some (.lst ys) ∧ PV.pls xs = true ∧ PV.pls ys = true ∧ PV.dps xs ≤ 63 ∧ PV.dps ys ≤ 63 ∧ Q (.bl (decide (xs = ys))) h
  | .tup a, b, h, Q => PV.pls a = true ∧ b.pl = true ∧ PV.dps a ≤ 63 ∧ b.dp ≤ 64 ∧ Q (.bl (decide (PV.tup a = b))) h
  | a, .tup b, h, Q => a.pl = true ∧ PV.pls b = true ∧ PV.dps b ≤ 63 ∧ Q (.bl (decide (a = PV.tup b))) h
  | a, b, h, Q => a.flat = true ∧ b.flat = true ∧ scal a.v b.v = true ∧ Q (.bl (decide (a = b))) h
def zNot (r : Z2) : Z2 := fun a b h Q => r a b h fun p h' => match p with | .bl k => Q (.bl (!k)) h' | _ => False
section
variable {X : Cx}
theorem pv_v_inj {a b : PV} (fa : a.flat = true) (fb : b.flat = true) : decide (a.v = b.v) = decide (a = b) := by
  cases a <;> cases b <;> simp [PV.flat, PV.v] at fa fb ⊢
/-- both, by what HandS has for == and for != -/
theorem eq_any {P : Program} {w : World} {K : PySem.W.Frag} {x y : V} {H : Hp} {a b : PV} {h : PH} {Qp : QV} (r1 : RV K H x a) (r2 : RV K H y b) (rh : RH P w K H h) (z : zEq a b h Qp) :
    (∃ d e, Dp K H x d ∧ Dp K H y e ∧ SeqAt.shaped d = true ∧ SeqAt.shaped e = true ∧ Qp (.bl (PyData.eqv d e)) h) ∨ (scal x y = true ∧ Qp (.bl (decide (x = y))) h) := by
  have deep : ∀ {a b : PV}, RV K H x a → RV K H y b → a.pl = true → b.pl = true → a.dp ≤ 64 → b.dp ≤ 64 → Qp (.bl (decide (a = b))) h →
      (∃ d e, Dp K H x d ∧ Dp K H y e ∧ SeqAt.shaped d = true ∧ SeqAt.shaped e = true ∧ Qp (.bl (PyData.eqv d e)) h) := fun {a b} r1 r2 pa pb da db q =>
    ⟨_, _, r1.dp _ _ pa, r2.dp _ _ pb, PV.shaped pa da, PV.shaped pb db, by rw [PV.D_eqv a b pa pb, PV.beq_dec]; exact q⟩
  have flat : a.flat = true → b.flat = true → scal a.v b.v = true → Qp (.bl (decide (a = b))) h → (scal x y = true ∧ Qp (.bl (decide (x = y))) h) := fun fa fb s q => by
    rw [r1.v_of fa, r2.v_of fb, pv_v_inj fa fb]
    exact ⟨s, q⟩
  have dt : ∀ xs, (PV.tup xs).dp = PV.dps xs + 1 := fun xs => by simp [PV.dp]
  cases a
  case tup a =>
    obtain ⟨p1, p2, d1, d2, q⟩ := z
    exact .inl (deep r1 r2 (by simpa [PV.pl] using p1) p2 (by rw [dt]; omega) d2 q)
  case ref a =>
    cases b
    case ref b =>
      obtain ⟨xs, ys, e1, e2, p1, p2, d1, d2, q⟩ := z
      obtain ⟨us, f1, _, q1⟩ := rh _ _ e1
      obtain ⟨ws, f2, _, q2⟩ := rh _ _ e2
      cases r1; cases r2
      refine .inl ⟨_, _, .lst (SqL.of f1) (q1.dp _ _ p1), .lst (SqL.of f2) (q2.dp _ _ p2), PV.shapedL p1 d1, PV.shapedL p2 d2, ?_⟩
      rw [show PyData.eqv (.list (PV.Ds xs)) (.list (PV.Ds ys)) = PyData.eqvAll (PV.Ds xs) (PV.Ds ys) by simp [PyData.eqv], PV.Ds_eqv xs ys p1 p2, PV.beqs_dec]
      exact q
    all_goals (obtain ⟨p1, _⟩ := z; simp [PV.pl, PV.flat] at p1)
  all_goals
    cases b
    case tup b =>
      obtain ⟨p1, p2, d2, q⟩ := z
      exact .inl (deep r1 r2 p1 (by simpa [PV.pl] using p2) (by simp [PV.dp]) (by rw [dt]; omega) q)
    all_goals
      obtain ⟨p1, p2, d2, q⟩ := z
      exact .inr (flat p1 p2 d2 q)
theorem qo_eq (hu : X.A.units + 64 < cLine) : QO X (compareOp .Eq) zEq := by
  intro pins s σ H x y v u Q I rx ry ⟨p, q, h, Qp, r1, r2, rh, z, k⟩
  rcases eq_any r1 r2 rh z with ⟨d, e, d1, d2, s1, s2, z⟩ | ⟨s1, z⟩
  · exact op_eqD hu pins s σ H x y v u Q I rx ry ⟨d, e, d1, d2, s1, s2, k.now rh (.bl _) z⟩
  · exact op_eq pins s σ H x y v u Q I rx ry ⟨s1, k.now rh (.bl _) z⟩
theorem qo_ne (hu : X.A.units + 64 < cLine) : QO X (compareOp .NotEq) (zNot zEq) := by
  intro pins s σ H x y v u Q I rx ry ⟨p, q, h, Qp, r1, r2, rh, z, k⟩
  rcases eq_any r1 r2 rh z with ⟨d, e, d1, d2, s1, s2, z⟩ | ⟨s1, z⟩
  · exact op_neD hu pins s σ H x y v u Q I rx ry ⟨d, e, d1, d2, s1, s2, k.now rh (.bl _) z⟩
  · exact op_ne pins s σ H x y v u Q I rx ry ⟨s1, k.now rh (.bl _) z⟩

/-! ### ints -/
def zI (C : Int → Int → Prop) (g : Int → Int → PV) : Z2
  | .int i, .int j, h, Q => C i j ∧ Q (g i j) h
  | _, _, _, _ => False
theorem qo_i {f : Value → Value → Sem Value} {C : Int → Int → Prop} {g : Int → Int → Int} (o : OpR X f (rI C fun i j => .int (g i j))) : QO X f (zI C fun i j => .int (g i j)) := by
  intro pins s σ H x y v u Q I rx ry ⟨p, q, h, Qp, r1, r2, rh, z, k⟩
  cases p <;> cases q <;> try (exact False.elim z)
  cases r1; cases r2
  exact o pins s σ H _ _ v u Q I rx ry ⟨_, _, rfl, rfl, z.1, k.now rh (.int _) z.2⟩
theorem qo_b {f : Value → Value → Sem Value} {g : Int → Int → Bool} (o : OpR X f (rI0 fun i j => .bl (g i j))) : QO X f (zI (fun _ _ => True) fun i j => .bl (g i j)) := by
  intro pins s σ H x y v u Q I rx ry ⟨p, q, h, Qp, r1, r2, rh, z, k⟩
  cases p <;> cases q <;> try (exact False.elim z)
  cases r1; cases r2
  exact o pins s σ H _ _ v u Q I rx ry ⟨_, _, rfl, rfl, k.now rh (.bl _) z.2⟩
def zSub : Z2 := zI (fun _ _ => True) fun i j => .int (i - j)
theorem qo_sub : QO X (binaryOp .Sub) zSub := by
  intro pins s σ H x y v u Q I rx ry ⟨p, q, h, Qp, r1, r2, rh, z, k⟩
  cases p <;> cases q <;> try (exact False.elim z)
  cases r1; cases r2
  exact op_sub pins s σ H _ _ v u Q I rx ry ⟨_, _, rfl, rfl, k.now rh (.int _) z.2⟩
def zDiv : Z2 := zI CDiv fun i j => .int (i / j)
theorem qo_div : QO X (binaryOp .FloorDiv) zDiv := qo_i op_fdiv
def zMod : Z2 := zI (fun _ j => 0 < j) fun i j => .int (i % j)
theorem qo_mod : QO X (binaryOp .Mod) zMod := qo_i op_mod
def zPow : Z2 := zI CPow fun i j => .int (i ^ j.toNat)
theorem qo_pow : QO X (binaryOp .Pow) zPow := qo_i op_pow
def zLt : Z2 := zI (fun _ _ => True) fun i j => .bl (decide (i < j))
theorem qo_lt : QO X (compareOp .Lt) zLt := qo_b op_lt
def zLe : Z2 := zI (fun _ _ => True) fun i j => .bl (decide (i ≤ j))
theorem qo_le : QO X (compareOp .LtE) zLe := qo_b op_le
def zGt : Z2 := zI (fun _ _ => True) fun i j => .bl (decide (j < i))
theorem qo_gt : QO X (compareOp .Gt) zGt := qo_b op_gt
def zGe : Z2 := zI (fun _ _ => True) fun i j => .bl (decide (j ≤ i))
theorem qo_ge : QO X (compareOp .GtE) zGe := qo_b op_ge
/-- * : the factors, or their size, small -/
def CMulA (i j : Int) : Prop := CMul i j ∨ CMulW i j
theorem op_mulA : OpR X (binaryOp .Mult) (rI CMulA fun i j => .int (i * j)) := by
  intro pins s σ H x y v u Q I rx ry ⟨i, j, e1, e2, c, q⟩
  rcases c with c | c
  · exact op_mul pins s σ H x y v u Q I rx ry ⟨i, j, e1, e2, c, q⟩
  · exact op_mulW pins s σ H x y v u Q I rx ry ⟨i, j, e1, e2, c, q⟩
def zMul : Z2
  | .int i, .int j, h, Q => CMulA i j ∧ Q (.int (i * j)) h
  | .tup xs, .int j, h, Q => (-(2 ^ 63) ≤ j ∧ j ≤ 1000 ∧ xs.length ≤ 1000) ∧ Q (.tup (List.replicate j.toNat xs).flatten) h
  | .ref a, .int j, h, Q => ∃ xs, h a = some (.lst xs) ∧ (-(2 ^ 63) ≤ j ∧ j ≤ 1000 ∧ xs.length ≤ 1000) ∧ ∀ d, h d = none → Q (.ref d) (up h d (.lst (List.replicate j.toNat xs).flatten))
  | _, _, _, _ => False
theorem RVs.rep {K : PySem.W.Frag} {H : Hp} {xs : List V} {ps : List PV} (r : RVs K H xs ps) : ∀ k : Nat, RVs K H (List.replicate k xs).flatten (List.replicate k ps).flatten
  | 0 => .nil
  | k + 1 => by
    rw [List.replicate_succ, List.replicate_succ, List.flatten_cons, List.flatten_cons]
    exact r.append (RVs.rep r k)
theorem qo_mul : QO X (binaryOp .Mult) zMul := by
  intro pins s σ H x y v u Q I rx ry ⟨p, q, h, Qp, r1, r2, rh, z, k⟩
  cases p <;> cases q <;> try (exact False.elim z)
  case int.int =>
    cases r1; cases r2
    exact op_mulA pins s σ H _ _ v u Q I rx ry ⟨_, _, rfl, rfl, z.1, k.now rh (.int _) z.2⟩
  case tup.int xs j =>
    cases r2
    cases r1 with
    | tup s1 l1 q1 =>
      obtain ⟨⟨h1, h2, h3⟩, z⟩ := z
      have hl := q1.length
      refine op_repA pins s σ H _ _ v u Q I rx ry ⟨_, _, _, rfl, rfl, s1, h1, h2, by omega, fun e => ?_, fun _ => k.tup rh (q1.rep _) ?_ z⟩
      · refine k.now rh (.tup s1 l1 ?_) z
        rcases e with e | e
        · subst e
          cases q1
          have : (List.replicate j.toNat ([] : List PV)).flatten = [] := by simp
          rw [this]
          exact .nil
        · subst e
          have : (List.replicate (1 : Int).toNat xs).flatten = xs := by simp
          rw [this]
          exact q1
      · rw [PyProof.Rows.lm_len_rep_flat, sizeLine_eq]
        rw [hl]
        have a1 : j.toNat * xs.length ≤ 1000 * 1000 := Nat.mul_le_mul (show j.toNat ≤ 1000 by omega) h3
        omega
  case ref.int a j =>
    cases r1; cases r2
    obtain ⟨xs, e1, ⟨h1, h2, h3⟩, z⟩ := z
    obtain ⟨us, f1, l1, q1⟩ := rh a _ e1
    have hl := q1.length
    have a1 : j.toNat * us.length ≤ 1000 * 1000 := Nat.mul_le_mul (show j.toNat ≤ 1000 by omega) (by omega)
    have a2 : us.length * j.toNat ≤ sizeLine := by rw [sizeLine_eq, Nat.mul_comm]; omega
    exact op_rep pins s σ H _ _ v u Q I rx ry ⟨a, j, us, rfl, rfl, f1, h1, by omega, a2, k.lst rh (q1.rep _) (by rw [PyProof.Rows.lm_len_rep_flat, Nat.mul_comm]; exact a2) z⟩
end
end G

namespace G
open PySem PySem.Spec PyProof.Rows L2

/-! ### dicts over trees -/
def dget (kvs : List (PV × PV)) (k : PV) : Option PV := (kvs.find? fun kv => decide (kv.1 = k)).map (·.2)
def dput (kvs : List (PV × PV)) (k v : PV) : List (PV × PV) :=
  if (kvs.any fun kv => decide (kv.1 = k)) = true then kvs.map (fun kv => if kv.1 = k then (kv.1, v) else kv) else kvs ++ [(k, v)]
def PV.leaf : PV → Bool
  | .int _ => true | .str _ => true | _ => false
/-- what may be a key of a dict of the kind t -/
def keyOk : Bool → PV → Bool
  | false, p => p.leaf
  | true, .tup xs => match nks xs with
    | some ks => decide (NestedKey.depthAll ks ≤ 7)
    | none => false
  | true, _ => false
def keyOf : PV → Key
  | .int i => .inl i
  | .str x => .inr (tS x)
  | _ => .inl 0
theorem kP_keyOf {p : PV} (h : p.leaf = true) : kP (keyOf p) = p := by
  cases p <;> simp [PV.leaf] at h <;> simp [kP, keyOf]
theorem kP_inj {a b : Key} (h : kP a = kP b) : a = b := by
  cases a <;> cases b <;> simp [kP] at h ⊢
  · exact h
  · rename_i x y
    cases x; cases y
    simp at h
    simp [h]
mutual
theorem nk_inj : ∀ (a b : PV) (k : NestedKey), nk a = some k → nk b = some k → a = b
  | .non, b, k, h1, h2 => by
    simp [nk] at h1; subst h1
    cases b <;> simp [nk] at h2 ⊢
  | .int i, b, k, h1, h2 => by
    simp [nk] at h1; subst h1
    cases b <;> simp [nk] at h2 ⊢
    exact h2.symm
  | .str x, b, k, h1, h2 => by
    simp [nk] at h1; subst h1
    cases b <;> simp [nk] at h2 ⊢
    exact h2.symm
  | .tup xs, b, k, h1, h2 => by
    simp only [nk, Option.map_eq_some_iff] at h1
    obtain ⟨ks, e1, e2⟩ := h1
    subst e2
    cases b <;> simp [nk] at h2
    rename_i ys
    rw [nks_inj xs ys ks e1 h2]
  | .bl _, _, _, h, _ => by simp [nk] at h
  | .ref _, _, _, h, _ => by simp [nk] at h
  | .scr _, _, _, h, _ => by simp [nk] at h
theorem nks_inj : ∀ (a b : List PV) (k : List NestedKey), nks a = some k → nks b = some k → a = b
  | [], b, k, h1, h2 => by
    simp [nks] at h1; subst h1
    cases b with
    | nil => rfl
    | cons y ys =>
      simp only [nks] at h2
      split at h2 <;> cases h2
  | x :: xs, b, k, h1, h2 => by
    simp only [nks] at h1
    split at h1 <;> cases h1
    rename_i k1 ks1 e1 e2
    cases b with
    | nil => simp [nks] at h2
    | cons y ys =>
      simp only [nks] at h2
      split at h2 <;> cases h2
      rename_i e3 e4
      rw [nk_inj x y _ e1 e3, nks_inj xs ys _ e2 e4]
end
section
variable {X : Cx} {pins : List (Addr × Obj)} {σ : L2.St} {H : Hp} {s : Shared}
mutual
theorem RV.nested (I : L2.Inv X pins σ H s) : ∀ (p : PV) (v : V) (u : Value) (k : NestedKey), RV X.K H v p → nk p = some k → RelV v u → NestedIs s.heap k u
  | .non, _, _, _, h, e, r => by simp [nk] at e; subst e; cases h; cases r; exact .none
  | .int i, _, _, _, h, e, r => by simp [nk] at e; subst e; cases h; obtain ⟨t, rfl⟩ := r; exact .int i t
  | .str x, _, _, _, h, e, r => by simp [nk] at e; subst e; cases h; obtain ⟨t, rfl⟩ := r; exact .text _ t
  | .tup xs, _, _, _, h, e, r => by
    simp only [nk, Option.map_eq_some_iff] at e
    obtain ⟨ks, e1, e2⟩ := e
    subst e2
    cases h with
    | tup hs hl hr =>
      cases r
      obtain ⟨its, rv, ⟨o, ho, hc, n, hd⟩, _⟩ := I.tuple hs
      exact .tup ho hc hd (RVs.nested I xs _ _ _ hr e1 rv)
  | .bl _, _, _, _, _, e, _ => by simp [nk] at e
  | .ref _, _, _, _, _, e, _ => by simp [nk] at e
  | .scr _, _, _, _, _, e, _ => by simp [nk] at e
theorem RVs.nested (I : L2.Inv X pins σ H s) : ∀ (ps : List PV) (vs : List V) (us : List Value) (ks : List NestedKey), RVs X.K H vs ps → nks ps = some ks → Vals vs us → NestedAll s.heap ks us
  | [], _, _, _, h, e, r => by simp [nks] at e; subst e; cases h; cases r; exact .nil
  | p :: ps, _, _, _, h, e, r => by
    simp only [nks] at e
    split at e <;> cases e
    rename_i k1 ks1 e1 e2
    cases h with
    | cons h1 h2 =>
      cases r with
      | cons r1 r2 => exact .cons (RV.nested I p _ _ _ h1 e1 r1) (RVs.nested I ps _ _ _ h2 e2 r2)
end
theorem keyT {p : PV} (h : keyOk true p = true) : ∃ k, nk p = some k ∧ k.depth ≤ 8 := by
  cases p with
  | tup xs =>
    simp only [keyOk] at h
    split at h
    · rename_i ks e
      refine ⟨.tup ks, by simp [nk, e], ?_⟩
      have := of_decide_eq_true h
      simp only [NestedKey.depth]; omega
    · cases h
  | _ => cases h
theorem keyT_ref {p : PV} {v : V} (h : keyOk true p = true) (r : RV X.K H v p) : ∃ b, v = .ref b := by
  cases p <;> first | (cases h; done) | skip
  cases r
  exact ⟨_, rfl⟩
/-- the dict in the heap -/
theorem dic_of (I : L2.Inv X pins σ H s) {a : Addr} {kvs : List (PV × PV)} {xs : List (NestedKey × Addr × Value)} (e : Rd H a (.ext (dphi X.prog X.w a xs))) (r : Paired (EntT X.K H) kvs xs) :
    (a == sysModules) = false ∧ xs.length ≤ sizeLine ∧ s.heap.DictOfH (nestedKind X.prog X.w) a xs := by
  obtain ⟨⟨h1, h2, o, es, ep, ho, hx, hd, he, hn⟩, _⟩ := e.ok I.hok
  refine ⟨h1, h2, o, es, ep, ho, hx, hd, he, ?_, hn⟩
  have all : ∀ {kvs : List (PV × PV)} {xs : List (NestedKey × Addr × Value)}, Paired (EntT X.K H) kvs xs → ∀ x ∈ xs, (nestedKind X.prog X.w).is s.heap x.1 x.2.1 := by
    intro kvs xs r
    induction r with
    | nil => intro x hx; cases hx
    | cons q t ih =>
      intro x hx
      rcases List.mem_cons.mp hx with rfl | hx
      · obtain ⟨q1, q2, q3, _⟩ := q
        exact ⟨q3.nested I _ _ _ _ q1 rfl, q2⟩
      · exact ih x hx
  exact all r
theorem ent_at {K : PySem.W.Frag} {k : NestedKey} {p : PV} (hk : nk p = some k) : ∀ {kvs : List (PV × PV)} {xs : List (NestedKey × Addr × Value)}, Paired (EntT K H) kvs xs →
    (dget kvs p = none ∧ atKey xs k = none) ∨ ∃ q b u v, dget kvs p = some q ∧ atKey xs k = some (b, u) ∧ RelV v u ∧ RV K H v q := by
  intro kvs xs r
  induction r with
  | nil => exact .inl ⟨rfl, rfl⟩
  | cons q t ih =>
    rename_i kv x _ _
    obtain ⟨q1, q2, q3, v, q4, q5⟩ := q
    by_cases e : kv.1 = p
    · have e' : x.1 = k := by rw [e, hk] at q1; exact (Option.some.inj q1).symm
      exact .inr ⟨kv.2, x.2.1, x.2.2, v, by simp [dget, List.find?_cons, e], by simp [atKey, List.find?_cons, e'], q4, q5⟩
    · have e' : ¬ x.1 = k := fun z => e (nk_inj _ _ _ q1 (by rw [hk, z]))
      have d1 : ∀ l, dget (kv :: l) p = dget l p := fun l => by simp [dget, List.find?_cons, e]
      have d2 : ∀ l, atKey (x :: l) k = atKey l k := fun l => by simp [atKey, List.find?_cons, e']
      rw [d1, d2]
      exact ih
theorem ent_atK {K : PySem.W.Frag} {p : PV} (hk : p.leaf = true) : ∀ {kvs : List (PV × PV)} {ds : List (Key × V)}, Paired (EntK K H) kvs ds →
    (dget kvs p = none ∧ valV ds (keyOf p) = none) ∨ ∃ q v, dget kvs p = some q ∧ valV ds (keyOf p) = some v ∧ RV K H v q := by
  intro kvs ds r
  induction r with
  | nil => exact .inl ⟨rfl, rfl⟩
  | cons q t ih =>
    rename_i kv x _ _
    obtain ⟨q1, q2⟩ := q
    by_cases e : kv.1 = p
    · have e' : x.1 = keyOf p := kP_inj (by rw [kP_keyOf hk, ← q1, e])
      exact .inr ⟨kv.2, x.2, by simp [dget, List.find?_cons, e], valV_pos e', q2⟩
    · have e' : ¬ x.1 = keyOf p := fun z => e (by rw [q1, z, kP_keyOf hk])
      have d1 : ∀ l, dget (kv :: l) p = dget l p := fun l => by simp [dget, List.find?_cons, e]
      rw [d1, valV_neg e']
      exact ih
theorem kV_of {K : PySem.W.Frag} {p : PV} {v : V} (hk : p.leaf = true) (r : RV K H v p) : v = kV (keyOf p) := by
  cases r <;> simp [PV.leaf] at hk <;> rfl

/-- d[k] = v over trees -/
theorem paired_put {α β : Type} {F : α → β → Prop} {f : α → α} {g : β → β} : ∀ {l : List α} {m : List β}, Paired F l m → (∀ a b, F a b → F (f a) (g b)) → Paired F (l.map f) (m.map g)
  | _, _, .nil, _ => .nil
  | _, _, .cons q t, h => .cons (h _ _ q) (paired_put t h)
theorem any_dget (kvs : List (PV × PV)) (p : PV) : (kvs.any fun kv => decide (kv.1 = p)) = (dget kvs p).isSome := by
  induction kvs with
  | nil => rfl
  | cons kv l ih =>
    by_cases e : kv.1 = p
    · simp [dget, List.find?_cons, e]
    · rw [List.any_cons, decide_eq_false e, Bool.false_or, ih]
      simp [dget, List.find?_cons, e]
theorem ent_put {K : PySem.W.Frag} {k : NestedKey} {p pv : PV} {b : Addr} {u : Value} {v : V} (hk : nk p = some k) (hd : k.depth ≤ 8) (rb : RV K H (.ref b) p) (ru : RelV v u) (rv : RV K H v pv) {kvs : List (PV × PV)} {xs : List (NestedKey × Addr × Value)} (r : Paired (EntT K H) kvs xs) :
    Paired (EntT K H) (dput kvs p pv) (storedH xs k b u) := by
  unfold dput
  rw [any_dget]
  rcases ent_at hk r with ⟨e1, e2⟩ | ⟨q, b', u', v', e1, e2, r1, r2⟩
  · rw [e1, storedH_new e2]
    simp only [Option.isSome_none, Bool.false_eq_true, if_false]
    exact Paired.snoc r ⟨hk, hd, rb, v, ru, rv⟩
  · rw [e1, storedH_old e2]
    simp only [Option.isSome_some, if_true]
    refine paired_put r fun kv x ⟨q1, q2, q3, w', q4, q5⟩ => ?_
    by_cases e : kv.1 = p
    · have e' : x.1 = k := by rw [e, hk] at q1; exact (Option.some.inj q1).symm
      simp only [if_pos e, putAt, if_pos e']
      exact ⟨q1, q2, q3, v, ru, rv⟩
    · have e' : ¬ x.1 = k := fun z => e (nk_inj _ _ _ q1 (by rw [hk, z]))
      simp only [if_neg e, putAt, if_neg e']
      exact ⟨q1, q2, q3, w', q4, q5⟩
theorem ent_putK {K : PySem.W.Frag} {p pv : PV} {v : V} (hk : p.leaf = true) (rv : RV K H v pv) {kvs : List (PV × PV)} {ds : List (Key × V)} (r : Paired (EntK K H) kvs ds) :
    Paired (EntK K H) (dput kvs p pv) (putK ds (keyOf p) v) := by
  unfold dput putK
  rw [any_dget, valV_any]
  rcases ent_atK hk r with ⟨e1, e2⟩ | ⟨q, v', e1, e2, r2⟩
  · rw [e1, e2]
    simp only [Option.isSome_none, Bool.false_eq_true, if_false]
    exact Paired.snoc r ⟨(kP_keyOf hk).symm, rv⟩
  · rw [e1, e2]
    simp only [Option.isSome_some, if_true]
    refine paired_put r fun kv x ⟨q1, q2⟩ => ?_
    by_cases e : kv.1 = p
    · have e' : x.1 = keyOf p := kP_inj (by rw [kP_keyOf hk, ← q1, e])
      simp only [if_pos e, if_pos e']
      exact ⟨q1, rv⟩
    · have e' : ¬ x.1 = keyOf p := fun z => e (by rw [q1, z, kP_keyOf hk])
      simp only [if_neg e, if_neg e']
      exact ⟨q1, q2⟩
theorem len_storedH (xs : List (NestedKey × Addr × Value)) (k : NestedKey) (b : Addr) (u : Value) : (storedH xs k b u).length ≤ xs.length + 1 := by
  unfold storedH
  split <;> simp
theorem len_dput (kvs : List (PV × PV)) (p v : PV) : (dput kvs p v).length ≤ kvs.length + 1 := by
  unfold dput
  split <;> simp
end

/-- o[k] -/
def zIx : Z2
  | .tup xs, .int i, h, Q => ∃ v, atI xs i = some v ∧ Q v h
  | .str x, .int i, h, Q => ∃ c, x.length ≤ sizeLine ∧ atI x i = some c ∧ Q (.str [c]) h
  | .ref a, k, h, Q => match h a, k with
    | some (.lst xs), .int i => ∃ v, atI xs i = some v ∧ Q v h
    | some (.dic t _ kvs), k => keyOk t k = true ∧ ∃ v, dget kvs k = some v ∧ Q v h
    | _, _ => False
  | _, _, _, _ => False
/-- x in c -/
def zIn : Z2
  | x, .tup ys, h, Q => x.flat = true ∧ ys.all PV.flat = true ∧ x.pl = true ∧ PV.pls ys = true ∧ Q (.bl (decide (x ∈ ys))) h
  | x, .ref a, h, Q => match h a with
    | some (.lst ys) => x.pl = true ∧ x.dp ≤ 64 ∧ PV.pls ys = true ∧ PV.dps ys ≤ 63 ∧ Q (.bl (decide (x ∈ ys))) h
    | some (.dic t _ kvs) => keyOk t x = true ∧ Q (.bl (dget kvs x).isSome) h
    | _ => False
  | _, _, _, _ => False
section
variable {X : Cx}
theorem atI_rv {K : PySem.W.Frag} {H : Hp} {vs : List V} {ps : List PV} {i : Int} {p : PV} (r : RVs K H vs ps) (e : atI ps i = some p) : ∃ v, atI vs i = some v ∧ RV K H v p := by
  unfold atI at e ⊢
  rw [r.length]
  obtain ⟨j, e1, e2⟩ := Option.bind_eq_some_iff.mp e
  obtain ⟨v, f1, f2⟩ := r.get e2
  exact ⟨v, by rw [e1]; exact f1, f2⟩
/-- a subscript of a dict, by values -/
theorem ix_dic {T id : String} (hl : typeLookup (.type T) "__getitem__" = pure (some (.builtin id))) {value slice : Expr} {A : Around} {E : Value → Shared → Prop} {s : Shared} {o i : Value} {Q : Value → Shared → Prop} (hT : s.TypeIs o T)
    (hs : subscripted slice false o i = operate [o, i] (getItem o i)) (h : wpAny (model X.prog X.w) A (getItem o i) Q E s) : wpAny (model X.prog X.w) A (subscriptTail value slice o i) Q E s := by
  unfold subscriptTail
  refine wpAny_bind ?_
  rw [getitemInPython_of_ne hT.not_modules]
  refine wpAny_bind (wpAny_specialOf hT hl ?_)
  have fin : wpAny (model X.prog X.w) A (subscripted slice false o i) (fun r s₃ => wpAny (model X.prog X.w) A (letTemporaryGo value o r >>= fun _ => pure r) Q E s₃) E s := by
    rw [hs]
    exact wpAny_operating (wpAny_mono h (fun r s₃ h₃ => wpAny_bind (wpAny_letTemporaryGo (wpAny_pure h₃))) fun _ _ x => x)
  first
    | exact wpAny_pure (wpAny_bind fin)
    | exact wpAny_bind (wpAny_pure (wpAny_bind fin))
    | exact wpAny_bind fin
theorem qx_ix (hu : X.A.units + 64 < cLine) : IxR X (L2r X.prog X.w X.K zIx) := by
  intro value slice pins s σ H x y v u Q I rx ry ⟨p, q, h, Qp, r1, r2, rh, z, k⟩ hs
  cases p
  case tup xs =>
    cases q <;> first | (exact False.elim z) | skip
    cases r2
    obtain ⟨pv, e, z⟩ := z
    cases r1 with
    | tup s1 l1 q1 =>
      obtain ⟨w, e2, rw'⟩ := atI_rv q1 e
      exact ix_tup value slice pins s σ H _ _ v u Q I rx ry ⟨_, _, _, w, rfl, rfl, s1, e2, k.now rh rw' z⟩ hs
  case str x =>
    cases q <;> first | (exact False.elim z) | skip
    cases r2; cases r1
    obtain ⟨c, hl, e, z⟩ := z
    exact ix_str value slice pins s σ H _ _ v u Q I rx ry ⟨_, _, c, rfl, rfl, by simpa [Str.length] using hl, by simpa using e, k.now rh (.str [c]) z⟩ hs
  case ref a =>
    simp only [zIx] at z
    cases r1
    cases ea : h a with
    | none => rw [ea] at z; exact False.elim z
    | some o =>
      cases o with
      | ins C fs => rw [ea] at z; cases q <;> exact False.elim z
      | lst xs =>
        rw [ea] at z
        cases q <;> first | (exact False.elim z) | skip
        cases r2
        obtain ⟨pv, e, z⟩ := z
        obtain ⟨us, f1, l1, q1⟩ := rh a _ ea
        obtain ⟨w, e2, rw'⟩ := atI_rv q1 e
        exact ix_list value slice pins s σ H _ _ v u Q I rx ry ⟨_, _, _, w, rfl, rfl, SqL.of f1, e2, k.now rh rw' z⟩ hs
      | dic t lk kvs =>
        rw [ea] at z
        obtain ⟨hk, pv, e, z'⟩ := (show keyOk t q = true ∧ ∃ v, dget kvs q = some v ∧ Qp v h by cases q <;> exact z)
        clear z
        cases rx
        cases t with
        | false =>
          obtain ⟨ds, f1, l1, r⟩ := rh a _ ea
          have hk' : q.leaf = true := hk
          rcases ent_atK hk' r with ⟨e1, _⟩ | ⟨q', v', e1, e2, r'⟩
          · rw [e] at e1; cases e1
          · rw [e] at e1; cases e1
            have g : DGet H a y (some v') := .inl ⟨ds, keyOf q, f1.rd, kV_of hk' r2, e2.symm⟩
            exact ix_dic PySem.F.slot_dict_getitem.lookup (dict_typeIs I g) hs (d_getItem (by omega) I g ry fun w' s3 I3 rw' => ⟨v', H, I3, rw', k.now rh r' z'⟩)
        | true =>
          obtain ⟨xs, f1, l1, r⟩ := rh a _ ea
          obtain ⟨k', hk1, hk2⟩ := keyT hk
          obtain ⟨b, eb⟩ := keyT_ref hk r2
          subst eb
          cases ry
          obtain ⟨g1, g2, g3⟩ := dic_of I f1.rd r
          rcases ent_at hk1 r with ⟨e1, _⟩ | ⟨q', b', u', v', e1, e2, r1', r2'⟩
          · rw [e] at e1; cases e1
          · rw [e] at e1; cases e1
            refine ix_dic PySem.F.slot_dict_getitem.lookup g3.typeIs hs (wpAny_getItem_heap (knd := nestedKind X.prog X.w) (by show X.A.units + 1 + 8 < cLine; omega) ⟨r2.nested I _ _ _ _ hk1 rfl, hk2⟩ g3 e2 ?_)
            exact ⟨v', H, I.tok _, r1', k.now rh r2' z'⟩
  all_goals (cases q <;> exact False.elim z)
end
end G

namespace G
open PySem PySem.Spec PyProof.Rows L2

/-- x in c -/
def zHas : PV → PV → PH → (Bool → Prop) → Prop
  | x, .tup ys, h, Q => x.pl = true ∧ x.dp ≤ 64 ∧ PV.pls ys = true ∧ PV.dps ys ≤ 63 ∧ Q (decide (x ∈ ys))
  | x, .ref a, h, Q => match h a with
    | some (.lst ys) => x.pl = true ∧ x.dp ≤ 64 ∧ PV.pls ys = true ∧ PV.dps ys ≤ 63 ∧ Q (decide (x ∈ ys))
    | some (.dic t _ kvs) => keyOk t x = true ∧ Q (dget kvs x).isSome
    | _ => False
  | _, _, _, _ => False
def zInn (neg : Bool) : Z2 := fun x c h Q => zHas x c h fun b => Q (.bl (if neg then !b else b)) h
theorem any_eqv {x : PV} (hx : x.pl = true) : ∀ {ys : List PV}, PV.pls ys = true → ((PV.Ds ys).any fun z => PyData.eqv z x.D) = decide (x ∈ ys)
  | [], _ => by simp [PV.Ds]
  | y :: ys, h => by
    simp only [PV.pls, Bool.and_eq_true] at h
    rw [PV.Ds, List.any_cons, PV.D_eqv y x h.1 hx, any_eqv hx h.2, PV.beq_dec, Bool.eq_iff_iff, Bool.or_eq_true, decide_eq_true_eq, decide_eq_true_eq, decide_eq_true_eq, List.mem_cons]
    exact ⟨fun z => z.imp Eq.symm id, fun z => z.imp Eq.symm id⟩
section
variable {X : Cx}
theorem qo_in (hu : X.A.units + 70 < cLine) : QO X (compareOp .In) (zInn false) := by
  intro pins s σ H x y v u Q I rx ry ⟨p, q, h, Qp, r1, r2, rh, z, k⟩
  cases q
  case tup ys =>
    cases r2 with
    | tup s2 l2 q2 =>
      cases ry
      obtain ⟨z1, z2, z3, z4, z⟩ := z
      obtain ⟨as, d1⟩ := Dp.reads I p.D x v (r1.dp _ _ z1) rx
      obtain ⟨bs, d2⟩ := Dp.reads I (.tuple (PV.Ds ys)) _ _ (.tup s2 (q2.dp _ _ z3)) rfl
      refine SeqAt.in_tuple_reads d2 d1 (PV.Ds_lay _ z3) (PV.D_lay _ z1) ?_ ⟨.bl _, H, I, rfl, ?_⟩
      · rw [PV.Ds_depth, PV.D_depth]; show X.A.units + 1 + _ < _; omega
      · rw [any_eqv z1 z3]
        exact k.now rh (.bl _) z
  case ref a =>
    simp only [zInn, zHas] at z
    cases r2
    cases ry
    cases ea : h a with
    | none => rw [ea] at z; exact False.elim z
    | some o =>
      cases o with
      | ins C fs => rw [ea] at z; exact False.elim z
      | lst ys =>
        rw [ea] at z
        obtain ⟨z1, z2, z3, z4, z⟩ := z
        obtain ⟨us, f1, l1, q1⟩ := rh a _ ea
        refine op_inD (by omega) pins s σ H x (.ref a) v _ Q I rx rfl ⟨_, _, r1.dp _ _ z1, .lst (SqL.of f1) (q1.dp _ _ z3), PV.shaped z1 z2, PV.shapedL z3 z4, ?_⟩
        rw [any_eqv z1 z3]
        exact k.now rh (.bl _) z
      | dic t lk kvs =>
        rw [ea] at z
        obtain ⟨hk, z⟩ := z
        cases t with
        | false =>
          obtain ⟨ds, f1, l1, r⟩ := rh a _ ea
          have hk' : p.leaf = true := hk
          have e2 : (dget kvs p).isSome = (valV ds (keyOf p)).isSome := by
            rcases ent_atK hk' r with ⟨e1, e2⟩ | ⟨q', v', e1, e2, r'⟩ <;> rw [e1, e2] <;> rfl
          have g : DGet H a x (valV ds (keyOf p)) := .inl ⟨ds, keyOf p, f1.rd, kV_of hk' r1, rfl⟩
          refine d_in (by omega) I g rx fun s3 I3 => ⟨.bl (valV ds (keyOf p)).isSome, H, I3, rfl, ?_⟩
          rw [← e2]
          exact k.now rh (.bl _) z
        | true =>
          obtain ⟨xs, f1, l1, r⟩ := rh a _ ea
          obtain ⟨k', hk1, hk2⟩ := keyT hk
          obtain ⟨b, eb⟩ := keyT_ref hk r1
          subst eb
          cases rx
          obtain ⟨g1, g2, g3⟩ := dic_of I f1.rd r
          have e2 : (dget kvs p).isSome = (atKey xs k').isSome := by
            rcases ent_at hk1 r with ⟨e1, e2⟩ | ⟨q', b', u', v', e1, e2, _⟩ <;> rw [e1, e2] <;> rfl
          refine wpAny_in_heap (knd := nestedKind X.prog X.w) (by show X.A.units + 1 + 8 < cLine; omega) ⟨r1.nested I _ _ _ _ hk1 rfl, hk2⟩ g1 g3 ?_
          exact ⟨.bl (atKey xs k').isSome, H, I.tok _, rfl, by rw [← e2]; exact k.now rh (.bl _) z⟩
  all_goals (cases p <;> exact False.elim z)
theorem qo_notIn (hu : X.A.units + 70 < cLine) : QO X (compareOp .NotIn) (zInn true) := by
  intro pins s σ H x y v u Q I rx ry ⟨p, q, h, Qp, r1, r2, rh, z, k⟩
  cases q
  case tup ys =>
    cases r2 with
    | tup s2 l2 q2 =>
      cases ry
      obtain ⟨z1, z2, z3, z4, z⟩ := z
      obtain ⟨as, d1⟩ := Dp.reads I p.D x v (r1.dp _ _ z1) rx
      obtain ⟨bs, d2⟩ := Dp.reads I (.tuple (PV.Ds ys)) _ _ (.tup s2 (q2.dp _ _ z3)) rfl
      refine SeqAt.notIn_tuple_reads d2 d1 (PV.Ds_lay _ z3) (PV.D_lay _ z1) ?_ ⟨.bl _, H, I, rfl, ?_⟩
      · rw [PV.Ds_depth, PV.D_depth]; show X.A.units + 1 + _ < _; omega
      · rw [any_eqv z1 z3]
        exact k.now rh (.bl _) z
  case ref a =>
    simp only [zInn, zHas] at z
    cases r2
    cases ry
    cases ea : h a with
    | none => rw [ea] at z; exact False.elim z
    | some o =>
      cases o with
      | ins C fs => rw [ea] at z; exact False.elim z
      | lst ys =>
        rw [ea] at z
        obtain ⟨z1, z2, z3, z4, z⟩ := z
        obtain ⟨us, f1, l1, q1⟩ := rh a _ ea
        refine op_notInD (by omega) pins s σ H x (.ref a) v _ Q I rx rfl ⟨_, _, r1.dp _ _ z1, .lst (SqL.of f1) (q1.dp _ _ z3), PV.shaped z1 z2, PV.shapedL z3 z4, ?_⟩
        rw [any_eqv z1 z3]
        exact k.now rh (.bl _) z
      | dic t lk kvs =>
        rw [ea] at z
        obtain ⟨hk, z⟩ := z
        cases t with
        | false =>
          obtain ⟨ds, f1, l1, r⟩ := rh a _ ea
          have hk' : p.leaf = true := hk
          have e2 : (dget kvs p).isSome = (valV ds (keyOf p)).isSome := by
            rcases ent_atK hk' r with ⟨e1, e2⟩ | ⟨q', v', e1, e2, r'⟩ <;> rw [e1, e2] <;> rfl
          have g : DGet H a x (valV ds (keyOf p)) := .inl ⟨ds, keyOf p, f1.rd, kV_of hk' r1, rfl⟩
          refine d_notIn (by omega) I g rx fun s3 I3 => ⟨.bl (!(valV ds (keyOf p)).isSome), H, I3, rfl, ?_⟩
          rw [← e2]
          exact k.now rh (.bl _) z
        | true =>
          obtain ⟨xs, f1, l1, r⟩ := rh a _ ea
          obtain ⟨k', hk1, hk2⟩ := keyT hk
          obtain ⟨b, eb⟩ := keyT_ref hk r1
          subst eb
          cases rx
          obtain ⟨g1, g2, g3⟩ := dic_of I f1.rd r
          have e2 : (dget kvs p).isSome = (valueAt (pairsH xs) k').isSome := by
            rw [valueAt_pairsH, Option.isSome_map]
            rcases ent_at hk1 r with ⟨e1, e2⟩ | ⟨q', b', u', v', e1, e2, _⟩ <;> rw [e1, e2] <;> rfl
          refine notIn_keyed (knd := nestedKind X.prog X.w) (by show X.A.units + 1 + 8 < cLine; omega) ⟨r1.nested I _ _ _ _ hk1 rfl, hk2⟩ g1 ⟨xs, g3, rfl⟩ ?_
          exact ⟨.bl (!(valueAt (pairsH xs) k').isSome), H, I.tok _, rfl, by rw [← e2]; exact k.now rh (.bl _) z⟩
  all_goals (cases p <;> exact False.elim z)

/-! ### is -/
def zIs (neg : Bool) : Z2
  | a, .non, h, Q => Q (.bl (if neg then !decide (a = .non) else decide (a = .non))) h
  | .bl a, .bl b, h, Q => Q (.bl (if neg then !decide (a = b) else decide (a = b))) h
  | _, _, _, _ => False
theorem rv_non {K : PySem.W.Frag} {H : Hp} {x : V} {p : PV} (r : RV K H x p) : decide (x = .non) = decide (p = .non) := by
  cases r <;> simp
theorem qo_is : QO X (compareOp .Is) (zIs false) := by
  intro pins s σ H x y v u Q I rx ry ⟨p, q, h, Qp, r1, r2, rh, z, k⟩
  cases q
  case non =>
    cases r2
    refine op_isN pins s σ H x _ v u Q I rx ry ⟨rfl, ?_⟩
    rw [rv_non r1]
    cases p <;> exact k.now rh (.bl _) z
  case bl b =>
    cases p <;> first | (exact False.elim z) | skip
    cases r1; cases r2
    exact op_isBl pins s σ H _ _ v u Q I rx ry ⟨_, _, rfl, rfl, k.now rh (.bl _) z⟩
  all_goals (cases p <;> exact False.elim z)
theorem qo_isNot : QO X (compareOp .IsNot) (zIs true) := by
  intro pins s σ H x y v u Q I rx ry ⟨p, q, h, Qp, r1, r2, rh, z, k⟩
  cases q
  case non =>
    cases r2
    refine op_notN pins s σ H x _ v u Q I rx ry ⟨rfl, ?_⟩
    rw [rv_non r1]
    cases p <;> exact k.now rh (.bl _) z
  case bl b =>
    cases p <;> first | (exact False.elim z) | skip
    cases r1; cases r2
    exact op_notBl pins s σ H _ _ v u Q I rx ry ⟨_, _, rfl, rfl, k.now rh (.bl _) z⟩
  all_goals (cases p <;> exact False.elim z)

/-! ### truth -/
def zTr : PV → PH → (Bool → Prop) → Prop
  | .non, _, Q => Q false
  | .bl b, _, Q => Q b
  | .int i, _, Q => Q (i != 0)
  | .str x, _, Q => x.length ≤ sizeLine ∧ Q (!x.isEmpty)
  | .tup xs, _, Q => Q (!xs.isEmpty)
  | .ref a, h, Q => match h a with
    | some (.lst xs) => Q (!xs.isEmpty)
    | some (.dic false none kvs) => Q (!kvs.isEmpty)
    | _ => False
  | .scr _, _, _ => False
theorem rvs_empty {K : PySem.W.Frag} {H : Hp} {vs : List V} {ps : List PV} (r : RVs K H vs ps) : (!vs.isEmpty) = !ps.isEmpty := by cases r <;> rfl
theorem tru_z {P : Program} {w : World} {K : PySem.W.Frag} {H : Hp} {h : PH} {v : V} {p : PV} {Q : Bool → Prop} (rh : RH P w K H h) (r : RV K H v p) (z : zTr p h Q) : ∃ k, TruV K v H k ∧ Q k := by
  cases p
  case non => cases r; exact ⟨_, rfl, z⟩
  case bl => cases r; exact ⟨_, rfl, z⟩
  case int => cases r; exact ⟨_, rfl, z⟩
  case str x =>
    cases r
    refine ⟨_, ⟨by simpa [Str.length] using z.1, rfl⟩, ?_⟩
    have e : ((((tS x).length : Nat) : Int) != 0) = !x.isEmpty := by cases x <;> simp [Str.length, tS] <;> omega
    rw [e]
    exact z.2
  case tup xs =>
    cases r with
    | tup s l q => exact ⟨_, .inr (.inl ⟨_, s, rfl⟩), by rw [rvs_empty q]; exact z⟩
  case ref a =>
    cases r
    simp only [zTr] at z
    cases ea : h a with
    | none => rw [ea] at z; exact False.elim z
    | some o =>
      rw [ea] at z
      cases o with
      | ins C fs => exact False.elim z
      | lst xs =>
        obtain ⟨us, f1, l1, q1⟩ := rh a _ ea
        exact ⟨_, .inl ⟨_, SqL.of f1, rfl⟩, by rw [rvs_empty q1]; exact z⟩
      | dic t lk kvs =>
        cases t <;> cases lk <;> first | (exact False.elim z) | skip
        · obtain ⟨ds, f1, l1, q1⟩ := rh a _ ea
          refine ⟨_, .inr (.inr ⟨_, f1, rfl⟩), ?_⟩
          have e : (!ds.isEmpty) = !kvs.isEmpty := by cases q1 <;> rfl
          rw [e]; exact z
  case scr => exact False.elim z
end
/-- a value as a test -/
def ztOf (t : ZE) : ZT := fun ρ h Q => t ρ h fun p h1 => zTr p h1 fun b => Q b h1
def ztB (t : ZE) : ZT := fun ρ h Q => t ρ h fun p h1 => match p with | .bl k => Q k h1 | _ => False
def ztAnd (a b : ZT) : ZT := fun ρ h Q => a ρ h fun k h1 => if k = true then b ρ h1 Q else Q false h1
def ztOr (a b : ZT) : ZT := fun ρ h Q => a ρ h fun k h1 => if k = true then Q true h1 else b ρ h1 Q
def ztNot (a : ZT) : ZT := fun ρ h Q => a ρ h fun k h1 => Q (!k) h1
def zAnd (a b : ZE) : ZE := fun ρ h Q => a ρ h fun p h1 => zTr p h1 fun k => if k = true then b ρ h1 Q else Q p h1
def zOr (a b : ZE) : ZE := fun ρ h Q => a ρ h fun p h1 => zTr p h1 fun k => if k = true then Q p h1 else b ρ h1 Q
def zNt (a : ZE) : ZE := fun ρ h Q => a ρ h fun p h1 => zTr p h1 fun k => Q (.bl (!k)) h1
def zIf (c : ZT) (a b : ZE) : ZE := fun ρ h Q => c ρ h fun k h1 => if k = true then a ρ h1 Q else b ρ h1 Q
section
variable {X : Cx} {e a b c : Expr} {es rest : List Expr} {t ta tb tc : ZE} {ca cb : ZT} {pos : Pos}
abbrev QW (X : Cx) (e : Expr) (t : ZT) : Prop := PW X e (LT X.prog X.w X.K t)
theorem pwI {X : Cx} {e : Expr} {t t' : TT} (h : PW X e t) (i : ∀ σ H Q, t' σ H Q → t σ H Q) : PW X e t' := ⟨fun wh pins s σ H Q I q => h.run wh pins s σ H Q I (i σ H Q q)⟩
/-- the plain test: its value's truth -/
theorem qt_of (ha : QE X a ta) (he : ∀ whole, isTrue a X.env whole = (do let v ← whole; standAt a.pos; holding [v] (truthy v))) : QT X a (ztOf ta) :=
  ptI (pt_truth ha he) fun σ H Q ⟨ρ, h, Qp, rs, rh, t, k⟩ => ⟨ρ, h, _, rs, rh, t, fun p h1 t1 v H1 s1 r1 rh1 => by
    obtain ⟨b, b1, b2⟩ := tru_z rh1 r1 t1
    exact ⟨b, b1, k b h1 b2 H1 s1 rh1⟩⟩
theorem qt_cmp {op : CmpOp} {r : Z2} (ho : QO X (compareOp op) r) (ha : QE X a ta) (hb : QE X b tb) (hm : behindInMarks op b = false) : QT X (.Compare a [op] [b] pos) (ztB (z2 r ta tb)) :=
  ptI (pt_cmpR ho ha hb hm) fun σ H Q ⟨ρ, h, Qp, rs, rh, t, k⟩ => le_op ⟨ρ, h, _, rs, rh, t, fun p h1 t1 v H1 s1 r1 rh1 => by
    cases p <;> first | (exact False.elim t1) | skip
    cases r1
    exact ⟨_, rfl, k _ _ t1 H1 s1 rh1⟩⟩
theorem qt_not (ha : QT X a ca) : QT X (.UnaryOp .Not a pos) (ztNot ca) :=
  ptI (pt_not ha) fun σ H Q ⟨ρ, h, Qp, rs, rh, t, k⟩ => ⟨ρ, h, _, rs, rh, t, fun b h1 t1 H1 s1 rh1 => k _ _ t1 H1 s1 rh1⟩
theorem qw_and1 (ha : QT X a ca) : QW X (.BoolOp .And [a] pos) ca := pw_and1 ha
theorem qw_or1 (ha : QT X a ca) : QW X (.BoolOp .Or [a] pos) ca := pw_or1 ha
theorem qw_and (ha : QT X a ca) (hb : QW X (.BoolOp .And (b :: rest) pos) cb) : QW X (.BoolOp .And (a :: b :: rest) pos) (ztAnd ca cb) :=
  pwI (pw_and ha hb) fun σ H Q ⟨ρ, h, Qp, rs, rh, t, k⟩ => ⟨ρ, h, _, rs, rh, t, fun b h1 t1 H1 s1 rh1 => by
    cases b with
    | true =>
      rw [if_pos rfl] at t1 ⊢
      exact ⟨ρ, h1, Qp, rs.stp rh s1, rh1, t1, fun b' h2 t2 H2 s2 rh2 => k b' h2 t2 H2 (s1.trans s2) rh2⟩
    | false =>
      rw [if_neg Bool.false_ne_true] at t1 ⊢
      exact k _ _ t1 H1 s1 rh1⟩
theorem qw_or (ha : QT X a ca) (hb : QW X (.BoolOp .Or (b :: rest) pos) cb) : QW X (.BoolOp .Or (a :: b :: rest) pos) (ztOr ca cb) :=
  pwI (pw_or ha hb) fun σ H Q ⟨ρ, h, Qp, rs, rh, t, k⟩ => ⟨ρ, h, _, rs, rh, t, fun b h1 t1 H1 s1 rh1 => by
    cases b with
    | false =>
      rw [if_neg Bool.false_ne_true] at t1 ⊢
      exact ⟨ρ, h1, Qp, rs.stp rh s1, rh1, t1, fun b' h2 t2 H2 s2 rh2 => k b' h2 t2 H2 (s1.trans s2) rh2⟩
    | true =>
      rw [if_pos rfl] at t1 ⊢
      exact k _ _ t1 H1 s1 rh1⟩
theorem qe_one {op} (h : QE X a t) : QE X (.BoolOp op [a] pos) t := pe_one h
theorem qe_and (ha : QE X a ta) (hb : QE X (.BoolOp .And (b :: rest) pos) tb) : QE X (.BoolOp .And (a :: b :: rest) pos) (zAnd ta tb) :=
  peI (pe_andT ha hb) fun σ H Q ⟨ρ, h, Qp, rs, rh, t, k⟩ => ⟨ρ, h, _, rs, rh, t, fun p h1 t1 v H1 s1 r1 rh1 => by
    obtain ⟨b, b1, b2⟩ := tru_z rh1 r1 t1
    refine ⟨b, b1, ?_⟩
    cases b with
    | true =>
      rw [if_pos rfl] at b2 ⊢
      exact ⟨ρ, h1, Qp, rs.stp rh s1, rh1, b2, k.later s1⟩
    | false =>
      rw [if_neg Bool.false_ne_true] at b2 ⊢
      exact (k.later s1).now rh1 r1 b2⟩
theorem qe_or (ha : QE X a ta) (hb : QE X (.BoolOp .Or (b :: rest) pos) tb) : QE X (.BoolOp .Or (a :: b :: rest) pos) (zOr ta tb) :=
  peI (pe_orT ha hb) fun σ H Q ⟨ρ, h, Qp, rs, rh, t, k⟩ => ⟨ρ, h, _, rs, rh, t, fun p h1 t1 v H1 s1 r1 rh1 => by
    obtain ⟨b, b1, b2⟩ := tru_z rh1 r1 t1
    refine ⟨b, b1, ?_⟩
    cases b with
    | false =>
      rw [if_neg Bool.false_ne_true] at b2 ⊢
      exact ⟨ρ, h1, Qp, rs.stp rh s1, rh1, b2, k.later s1⟩
    | true =>
      rw [if_pos rfl] at b2 ⊢
      exact (k.later s1).now rh1 r1 b2⟩
theorem qe_not (ha : QE X a ta) : QE X (.UnaryOp .Not a pos) (zNt ta) :=
  peI (pe_notT ha) fun σ H Q ⟨ρ, h, Qp, rs, rh, t, k⟩ => ⟨ρ, h, _, rs, rh, t, fun p h1 t1 v H1 s1 r1 rh1 => by
    obtain ⟨b, b1, b2⟩ := tru_z rh1 r1 t1
    exact ⟨b, b1, (k.later s1).now rh1 (.bl _) b2⟩⟩
theorem qe_if (hc : QT X c ca) (ha : QE X a ta) (hb : QE X b tb) : QE X (.IfExp c a b pos) (zIf ca ta tb) :=
  peI (pe_ifExp hc ha hb) fun σ H Q ⟨ρ, h, Qp, rs, rh, t, k⟩ => ⟨ρ, h, _, rs, rh, t, fun b h1 t1 H1 s1 rh1 => by
    cases b with
    | true => rw [if_pos rfl] at t1 ⊢; exact ⟨ρ, h1, Qp, rs.stp rh s1, rh1, t1, k.later s1⟩
    | false => rw [if_neg Bool.false_ne_true] at t1 ⊢; exact ⟨ρ, h1, Qp, rs.stp rh s1, rh1, t1, k.later s1⟩⟩
def zNeg (a : ZE) : ZE := fun ρ h Q => a ρ h fun p h1 => match p with | .int i => Q (.int (-i)) h1 | _ => False
theorem qe_neg (ha : QE X a ta) : QE X (.UnaryOp .USub a pos) (zNeg ta) :=
  peI (pe_un un_neg ha) fun σ H Q ⟨ρ, h, Qp, rs, rh, t, k⟩ => ⟨ρ, h, _, rs, rh, t, fun p h1 t1 v H1 s1 r1 rh1 => by
    cases p <;> first | (exact False.elim t1) | skip
    cases r1
    exact ⟨_, rfl, (k.later s1).now rh1 (.int _) t1⟩⟩
/-! ### arguments, displays -/
def zaNil : ZA := fun _ h Q => Q [] h
def zaCons (t : ZE) (r : ZA) : ZA := fun ρ h Q => t ρ h fun p h1 => r ρ h1 fun ps h2 => Q (p :: ps) h2
theorem qa_nil : QA X [] zaNil := paI pa_nil fun σ H Q ⟨ρ, h, Qp, rs, rh, t, k⟩ => k [] h t [] H (Stp.refl h H) .nil rh
theorem qa_cons {r : ZA} (ha : QE X e t) (hr : QA X es r) (hs : starEach (e :: es) X.env = (false, eval e X.env) :: starEach es X.env) : QA X (e :: es) (zaCons t r) :=
  paI (pa_cons ha hr hs) fun σ H Q ⟨ρ, h, Qp, rs, rh, t, k⟩ => ⟨ρ, h, _, rs, rh, t, fun p h1 t1 v H1 s1 r1 rh1 =>
    ⟨ρ, h1, _, rs.stp rh s1, rh1, t1, fun ps h2 t2 vs H2 s2 r2 rh2 => k _ _ t2 _ _ (s1.trans s2) (.cons (r1.stp rh1 s2) r2) rh2⟩⟩
def zTup (t : ZA) : ZE := fun ρ h Q => t ρ h fun ps h1 => ps.length ≤ sizeLine ∧ Q (.tup ps) h1
def zLst (t : ZA) : ZE := fun ρ h Q => t ρ h fun ps h1 => ps.length ≤ sizeLine ∧ ∀ p, h1 p = none → Q (.ref p) (up h1 p (.lst ps))
theorem qe_tup {x1} {r : ZA} (h : QA X es r) : QE X (.Tuple es x1 pos) (zTup r) :=
  peI (pe_tup h) fun σ H Q ⟨ρ, h, Qp, rs, rh, t, k⟩ => ⟨ρ, h, _, rs, rh, t, fun ps h1 t1 vs H1 s1 r1 rh1 =>
    ⟨by rw [r1.length]; exact t1.1, (k.later s1).tup rh1 r1 (by rw [r1.length]; exact t1.1) t1.2⟩⟩
theorem qe_lst {r : ZA} (h : QA X es r) : QE X (.List es pos) (zLst r) :=
  peI (pe_lst h) fun σ H Q ⟨ρ, h, Qp, rs, rh, t, k⟩ => ⟨ρ, h, _, rs, rh, t, fun ps h1 t1 vs H1 s1 r1 rh1 =>
    ⟨by rw [r1.length]; exact t1.1, (k.later s1).lst rh1 r1 (by rw [r1.length]; exact t1.1) t1.2⟩⟩
end
end G

namespace G
open PySem PySem.Spec PyProof.Rows L2

/-! ### slices -/
def cut {α : Type} (xs : List α) (lo hi : Option Int) : List α := (xs.drop (HT.sIx xs.length 0 lo)).take (HT.sIx xs.length xs.length hi - HT.sIx xs.length 0 lo)
theorem cut_length {α : Type} (xs : List α) (lo hi : Option Int) : (cut xs lo hi).length ≤ xs.length := by
  unfold cut
  rw [List.length_take, List.length_drop]
  omega
theorem cut_rvs {K : PySem.W.Frag} {H : Hp} {vs : List V} {ps : List PV} (r : RVs K H vs ps) (lo hi : Option Int) : RVs K H (cutV vs lo hi) (cut ps lo hi) := by
  unfold cutV cut
  rw [r.length]
  exact (r.drop _).take _
abbrev ZO := Ev → PH → (Option Int → PH → Prop) → Prop
def LO (P : Program) (w : World) (K : PySem.W.Frag) (t : ZO) : TO := fun σ H Q => ∃ ρ h Qp, RS K H σ ρ ∧ RH P w K H h ∧ t ρ h Qp ∧ ∀ o h', Qp o h' → ∀ H', Stp h H h' H' → RH P w K H' h' → Q o H'
abbrev QOp (X : Cx) (e : Option Expr) (t : ZO) : Prop := L2.PO X e (LO X.prog X.w X.K t)
def zoNone : ZO := fun _ h Q => Q none h
def zoSome (t : ZE) : ZO := fun ρ h Q => t ρ h fun p h1 => match p with | .int i => Q (some i) h1 | _ => False
theorem poI {X : Cx} {e : Option Expr} {t t' : TO} (h : L2.PO X e t) (i : ∀ σ H Q, t' σ H Q → t σ H Q) : L2.PO X e t' := ⟨fun pins s σ H Q I q => h.run pins s σ H Q I (i σ H Q q)⟩
def zSlV : PV → Option Int → Option Int → PH → QV → Prop
  | .tup xs, lo, hi, h, Q => Q (.tup (cut xs lo hi)) h
  | .str x, lo, hi, h, Q => x.length ≤ sizeLine ∧ Q (.str (cut x lo hi)) h
  | .ref a, lo, hi, h, Q => match h a with
    | some (.lst xs) => ∀ p, h p = none → Q (.ref p) (up h p (.lst (cut xs lo hi)))
    | _ => False
  | _, _, _, _, _ => False
def zSl (t : ZE) (lo hi : ZO) : ZE := fun ρ h Q => t ρ h fun p h1 => lo ρ h1 fun l h2 => hi ρ h2 fun u h3 => zSlV p l u h3 Q
section
variable {X : Cx} {e a b c : Expr} {es rest : List Expr} {t ta tb tc : ZE} {lo hi : Option Expr} {tl th : ZO} {pos p2 : Pos}
theorem qp_none : QOp X none zoNone := poI po_none fun σ H Q ⟨ρ, h, Qp, rs, rh, t, k⟩ => k _ h t H (Stp.refl h H) rh
theorem qp_some (he : QE X e t) : QOp X (some e) (zoSome t) := poI (po_some he) fun σ H Q ⟨ρ, h, Qp, rs, rh, t, k⟩ => ⟨ρ, h, _, rs, rh, t, fun p h1 t1 v H1 s1 r1 rh1 => by
    cases p <;> first | (exact False.elim t1) | skip
    cases r1
    exact ⟨_, rfl, k _ h1 t1 H1 s1 rh1⟩⟩
theorem qs_sl : SlR X (fun x lo hi H Q => ∃ a h Qp, RV X.K H x a ∧ RH X.prog X.w X.K H h ∧ zSlV a lo hi h Qp ∧ Thn X.prog X.w X.K h H Qp Q) := by
  intro pins s σ H x v vl vu lo hi sl Q I rx hs pl pu ⟨a, h, Qp, r, rh, z, k⟩
  cases a <;> first | (exact False.elim z) | skip
  case str y =>
    cases r
    refine sl_str pins s σ H _ v vl vu lo hi sl Q I rx hs pl pu ⟨tS y, rfl, by simpa [Str.length] using z.1, ?_⟩
    have e : cutS (tS y) lo hi = tS (cut y lo hi) := by simp [cutS, cut, tS, Str.length]
    rw [e]
    exact k.now rh (.str _) z.2
  case tup ys =>
    cases r with
    | tup s1 l1 q1 =>
      refine sl_tupA pins s σ H _ v vl vu lo hi sl Q I rx hs pl pu ⟨_, _, rfl, s1, fun hw => ?_, fun hw => k.tup rh (cut_rvs q1 lo hi) (Nat.le_trans (cutV_length _ _ _) l1) z⟩
      have e : cut ys lo hi = ys := by
        have hl := q1.length
        rw [hl] at hw
        unfold cut
        rw [hw.1, hw.2]
        simp
      simp only [zSlV] at z
      rw [e] at z
      exact k.now rh (.tup s1 l1 q1) z
  case ref b =>
    simp only [zSlV] at z
    cases r
    cases ea : h b with
    | none => rw [ea] at z; exact False.elim z
    | some o =>
      cases o with
      | ins C fs => rw [ea] at z; exact False.elim z
      | dic t lk kvs => rw [ea] at z; exact False.elim z
      | lst xs =>
        rw [ea] at z
        obtain ⟨us, f1, l1, q1⟩ := rh b _ ea
        exact sl_list pins s σ H _ v vl vu lo hi sl Q I rx hs pl pu ⟨b, us, rfl, SqL.of f1, k.lst rh (cut_rvs q1 lo hi) (Nat.le_trans (cutV_length _ _ _) l1) z⟩
theorem qe_sl (he : QE X e t) (hl : QOp X lo tl) (hu : QOp X hi th) : QE X (.Subscript e (.Slice lo hi none p2) pos) (zSl t tl th) :=
  peI (pe_slice qs_sl he hl hu) fun σ H Q ⟨ρ, h, Qp, rs, rh, t, k⟩ => ⟨ρ, h, _, rs, rh, t, fun p h1 t1 v H1 s1 r1 rh1 => ⟨ρ, h1, _, rs.stp rh s1, rh1, t1, fun l h2 t2 H2 s2 rh2 =>
    ⟨ρ, h2, _, (rs.stp rh s1).stp rh1 s2, rh2, t2, fun u h3 t3 H3 s3 rh3 => ⟨p, h3, Qp, (r1.stp rh1 s2).stp rh2 s3, rh3, t3, ((k.later s1).later s2).later s3⟩⟩⟩⟩
/-- xs[::-1] of a list -/
def zRev (t : ZE) : ZE := fun ρ h Q => t ρ h fun p h1 => match p with
  | .ref a => (match h1 a with | some (.lst xs) => ∀ q, h1 q = none → Q (.ref q) (up h1 q (.lst xs.reverse)) | _ => False)
  | _ => False
theorem qe_rev {k p1 p2 p3} (he : QE X e t) : QE X (.Subscript e (.Slice none none (some (.UnaryOp .USub (.Constant (.int 1) k p1) p2)) p3) pos) (zRev t) :=
  peI (pe_revL he) fun σ H Q ⟨ρ, h, Qp, rs, rh, t, k⟩ => ⟨ρ, h, _, rs, rh, t, fun p h1 t1 v H1 s1 r1 rh1 => by
    cases p <;> first | (exact False.elim t1) | skip
    cases r1
    rename_i a
    simp only at t1
    cases ea : h1 a with
    | none => rw [ea] at t1; exact False.elim t1
    | some o =>
      cases o with
      | ins C fs => rw [ea] at t1; exact False.elim t1
      | dic t lk kvs => rw [ea] at t1; exact False.elim t1
      | lst xs =>
        rw [ea] at t1
        obtain ⟨us, f1, l1, q1⟩ := rh1 a _ ea
        exact ⟨a, us, rfl, SqL.of f1, (k.later s1).lst rh1 q1.reverse (by rw [List.length_reverse]; exact l1) t1⟩⟩
theorem qe_ix (hu : X.A.units + 64 < cLine) (ha : QE X a ta) (hb : QE X b tb) (hs : PlainIx b) : QE X (.Subscript a b pos) (z2 zIx ta tb) := peI (pe_ix (qx_ix hu) ha hb hs) fun _ _ _ x => le_op x

/-! ### chains of comparisons -/
def zCh (r r' : Z2) (ta tb tc : ZE) : ZE := fun ρ h Q => ta ρ h fun p h1 => tb ρ h1 fun q h2 => r p q h2 fun z h3 => match z with
  | .bl k => if k = true then tc ρ h3 fun u h4 => r' q u h4 Q else Q (.bl false) h3
  | _ => False
theorem le_ch {P : Program} {w : World} {K : PySem.W.Frag} {ta tb tc : ZE} {r r' : Z2} {σ : L2.St} {H : Hp} {Q : VK} (x : LE P w K (zCh r r' ta tb tc) σ H Q) : tChain (L2r P w K r) (L2r P w K r') (LE P w K ta) (LE P w K tb) (LE P w K tc) σ H Q := by
  obtain ⟨ρ, h, Qp, rs, rh, t, k⟩ := x
  refine ⟨ρ, h, _, rs, rh, t, fun p h1 t1 v H1 s1 r1 rh1 => ⟨ρ, h1, _, rs.stp rh s1, rh1, t1, fun q h2 t2 u H2 s2 r2 rh2 => ?_⟩⟩
  refine ⟨p, q, h2, _, r1.stp rh1 s2, r2, rh2, t2, fun z h3 t3 zv H3 s3 r3 rh3 => ?_⟩
  cases z <;> first | (exact False.elim t3) | skip
  rename_i b
  cases r3
  refine ⟨b, rfl, ?_⟩
  cases b with
  | false =>
    rw [if_neg Bool.false_ne_true]
    exact (((k.later s1).later s2).later s3).now rh3 (.bl false) t3
  | true =>
    rw [if_pos rfl]
    exact ⟨ρ, h3, _, ((rs.stp rh s1).stp rh1 s2).stp rh2 s3, rh3, t3, fun c h4 t4 cv H4 s4 r4 rh4 => ⟨q, c, h4, Qp, (r2.stp rh2 s3).stp rh3 s4, r4, rh4, t4, (((k.later s1).later s2).later s3).later s4⟩⟩
theorem qe_ch {op op' : CmpOp} {r r' : Z2} (ho : QO X (compareOp op) r) (ho' : QO X (compareOp op') r') (ha : QE X a ta) (hb : QE X b tb) (hc : QE X c tc) (hm : lastMarks [op, op'] [b, c] = false) :
    QE X (.Compare a [op, op'] [b, c] pos) (zCh r r' ta tb tc) := peI (pe_chain ho ho' ha hb hc hm) fun _ _ _ x => le_ch x
theorem qt_ch {op op' : CmpOp} {r r' : Z2} (ho : QO X (compareOp op) r) (ho' : QO X (compareOp op') r') (ha : QE X a ta) (hb : QE X b tb) (hc : QE X c tc) (hm : lastMarks [op, op'] [b, c] = false) :
    QT X (.Compare a [op, op'] [b, c] pos) (ztB (zCh r r' ta tb tc)) := ptI (pt_chain ho ho' ha hb hc hm) fun σ H Q ⟨ρ, h, Qp, rs, rh, t, k⟩ => le_ch ⟨ρ, h, _, rs, rh, t, fun p h1 t1 v H1 s1 r1 rh1 => by
    cases p <;> first | (exact False.elim t1) | skip
    cases r1
    exact ⟨_, rfl, k _ _ t1 H1 s1 rh1⟩⟩

/-! ### calls of built-ins -/
def zCall (r : ZC) (t : ZA) : ZE := fun ρ h Q => t ρ h fun ps h1 => r ps h1 Q
theorem le_cb {P : Program} {w : World} {K : PySem.W.Frag} {t : ZA} {r : ZC} {σ : L2.St} {H : Hp} {Q : VK} (x : LE P w K (zCall r t) σ H Q) : tCB (LC P w K r) (LA P w K t) σ H Q := by
  obtain ⟨ρ, h, Qp, rs, rh, t, k⟩ := x
  exact ⟨ρ, h, _, rs, rh, t, fun ps h1 t1 vs H1 s1 r1 rh1 => ⟨ps, h1, Qp, r1, rh1, t1, k.later s1⟩⟩
theorem qe_callB {id : String} {x : Str} {p : Pos} {r : ZC} {t : ZA} (hc : QC X (.builtin id) r) (hg : Gl X x) (hm : X.mg x = none) (hv : bootBuiltins x = some (.builtin id)) (ha : QA X (e :: es) t) (hn : x ≠ "__name__") (hdb : (x == ("__debug__" : Str)) = false)
    (he : starEach (e :: es) X.env = (false, eval e X.env) :: starEach es X.env) (hpl : (backTo pos (starEach es X.env)).any (·.1) = false) : QE X (.Call (.Name x p) (e :: es) [] pos) (zCall r t) :=
  peI (pe_callB hc hg hm hv ha hn hdb he hpl) fun _ _ _ x => le_cb x
theorem qe_callTy {T : String} {x : Str} {p : Pos} {r : ZC} {t : ZA} (hc : QC X (.type T) r) (hg : Gl X x) (hm : X.mg x = none) (hv : bootBuiltins x = some (.type T)) (ha : QA X (e :: es) t) (hn : x ≠ "__name__") (hdb : (x == ("__debug__" : Str)) = false)
    (he : starEach (e :: es) X.env = (false, eval e X.env) :: starEach es X.env) (hpl : (backTo pos (starEach es X.env)).any (·.1) = false) : QE X (.Call (.Name x p) (e :: es) [] pos) (zCall r t) :=
  peI (pe_callTy hc hg hm hv ha hn hdb he hpl) fun _ _ _ x => le_cb x

def zLen : ZC
  | [.str x], h, Q => x.length ≤ sizeLine ∧ Q (.int x.length) h
  | [.tup xs], h, Q => Q (.int xs.length) h
  | [.ref a], h, Q => match h a with
    | some (.lst xs) => Q (.int xs.length) h
    | some (.dic _ _ kvs) => Q (.int kvs.length) h
    | _ => False
  | _, _, _ => False
theorem paired_len {α β : Type} {F : α → β → Prop} : ∀ {l : List α} {m : List β}, Paired F l m → l.length = m.length
  | _, _, .nil => rfl
  | _, _, .cons _ t => congrArg (· + 1) (paired_len t)
theorem rvs_one {K : PySem.W.Frag} {H : Hp} {vs : List V} {p : PV} (r : RVs K H vs [p]) : ∃ v, vs = [v] ∧ RV K H v p := by
  cases r with
  | cons a b => cases b; exact ⟨_, rfl, a⟩
theorem rvs_two {K : PySem.W.Frag} {H : Hp} {vs : List V} {p q : PV} (r : RVs K H vs [p, q]) : ∃ v u, vs = [v, u] ∧ RV K H v p ∧ RV K H u q := by
  cases r with
  | cons a b =>
    obtain ⟨u, rfl, c⟩ := rvs_one b
    exact ⟨_, _, rfl, a, c⟩
theorem qc_len : QC X (.builtin "len") zLen := by
  intro pins s σ H xs us Q I r ⟨ps, h, Qp, rp, rh, z, k⟩
  unfold zLen at z
  split at z
  · obtain ⟨v, rfl, r1⟩ := rvs_one rp
    cases r1
    rename_i x
    exact call_len_str pins s σ H _ us Q I r ⟨_, rfl, by simpa [Str.length] using z.1, by simpa [Str.length] using k.now rh (.int _) z.2⟩
  · obtain ⟨v, rfl, r1⟩ := rvs_one rp
    cases r1 with
    | tup s1 l1 q1 =>
      refine call_len_seq pins s σ H _ us Q I r ⟨_, _, rfl, .inr s1, ?_⟩
      rw [q1.length]
      exact k.now rh (.int _) z
  · rename_i a
    obtain ⟨v, rfl, r1⟩ := rvs_one rp
    cases r1
    split at z
    · rename_i xs ea
      obtain ⟨us', f1, l1, q1⟩ := rh a _ ea
      refine call_len_seq pins s σ H _ us Q I r ⟨_, _, rfl, .inl (SqL.of f1), ?_⟩
      rw [q1.length]
      exact k.now rh (.int _) z
    · rename_i t lk kvs ea
      cases t with
      | false =>
        obtain ⟨ds, f1, l1, q1⟩ := rh a _ ea
        obtain ⟨u, rfl, ru⟩ := vals1 r
        cases ru
        have hl := paired_len q1
        exact d_len I f1.rd fun t s' I' => ⟨.int kvs.length, H, I', ⟨t, by rw [hl]⟩, k.now rh (.int _) z⟩
      | true =>
        obtain ⟨ys, f1, l1, q1⟩ := rh a _ ea
        obtain ⟨g1, g2, g3⟩ := dic_of I f1.rd q1
        obtain ⟨u, rfl, ru⟩ := vals1 r
        cases ru
        have hl : (pairsH ys).length = kvs.length := by rw [pairsH_length, ← paired_len q1]
        have hn : (pairsH ys).length ≤ 16777216 := by rw [pairsH_length]; exact g2
        refine PyProof.Rows.call_len_slot (n := (pairsH ys).length) g3.typeIs PySem.F.slot_dict_len (fun Q' hq => len_keyed g1 ⟨ys, g3, rfl⟩ hq) (by omega) (by omega) ?_
        exact ⟨.int kvs.length, H, I.tok _, ⟨_, by rw [hl]⟩, k.now rh (.int _) z⟩
    · exact False.elim z
  · exact False.elim z
def zAbs : ZC
  | [.int i], h, Q => Q (.int (if i < 0 then -i else i)) h
  | _, _, _ => False
theorem qc_abs : QC X (.builtin "abs") zAbs := by
  intro pins s σ H xs us Q I r ⟨ps, h, Qp, rp, rh, z, k⟩
  unfold zAbs at z
  split at z
  · obtain ⟨v, rfl, r1⟩ := rvs_one rp
    cases r1
    exact call_abs pins s σ H _ us Q I r ⟨_, rfl, k.now rh (.int _) z⟩
  · exact False.elim z
def zInt : ZC
  | [.int i], h, Q => Q (.int i) h
  | [.bl b], h, Q => Q (.int (if b then 1 else 0)) h
  | _, _, _ => False
theorem qc_int : QC X (.type "int") zInt := by
  intro pins s σ H xs us Q I r ⟨ps, h, Qp, rp, rh, z, k⟩
  unfold zInt at z
  split at z
  · obtain ⟨v, rfl, r1⟩ := rvs_one rp
    cases r1
    exact call_int1 pins s σ H _ us Q I r (.inl ⟨_, rfl, k.now rh (.int _) z⟩)
  · obtain ⟨v, rfl, r1⟩ := rvs_one rp
    cases r1
    exact call_int1 pins s σ H _ us Q I r (.inr ⟨_, rfl, k.now rh (.int _) z⟩)
  · exact False.elim z
def zMax2 : ZC
  | [.int i, .int j], h, Q => Q (.int (if j > i then j else i)) h
  | _, _, _ => False
theorem qc_max2 (hc : X.calm = true) : QC X (.builtin "max") zMax2 := by
  intro pins s σ H xs us Q I r ⟨ps, h, Qp, rp, rh, z, k⟩
  unfold zMax2 at z
  split at z
  · obtain ⟨v, u, rfl, r1, r2⟩ := rvs_two rp
    cases r1; cases r2
    exact call_max2 hc pins s σ H _ us Q I r ⟨_, _, rfl, k.now rh (.int _) z⟩
  · exact False.elim z
def zMin2 : ZC
  | [.int i, .int j], h, Q => Q (.int (if j < i then j else i)) h
  | _, _, _ => False
theorem qc_min2 (hc : X.calm = true) : QC X (.builtin "min") zMin2 := by
  intro pins s σ H xs us Q I r ⟨ps, h, Qp, rp, rh, z, k⟩
  unfold zMin2 at z
  split at z
  · obtain ⟨v, u, rfl, r1, r2⟩ := rvs_two rp
    cases r1; cases r2
    exact call_min2 hc pins s σ H _ us Q I r ⟨_, _, rfl, k.now rh (.int _) z⟩
  · exact False.elim z
/-- tuple(x) -/
def zTupC : ZC
  | [.tup xs], h, Q => Q (.tup xs) h
  | [.ref a], h, Q => match h a with
    | some (.lst xs) => Q (.tup xs) h
    | _ => False
  | _, _, _ => False
theorem qc_tup : QC X (.type "tuple") zTupC := by
  intro pins s σ H xs us Q I r ⟨ps, h, Qp, rp, rh, z, k⟩
  unfold zTupC at z
  split at z
  · obtain ⟨v, rfl, r1⟩ := rvs_one rp
    cases r1 with
    | tup s1 l1 q1 => exact call_tuple_of pins s σ H _ us Q I r ⟨_, _, rfl, .inr ⟨s1, k.now rh (.tup s1 l1 q1) z⟩⟩
  · rename_i a
    obtain ⟨v, rfl, r1⟩ := rvs_one rp
    cases r1
    split at z
    · rename_i ys ea
      obtain ⟨us', f1, l1, q1⟩ := rh a _ ea
      exact call_tuple_of pins s σ H _ us Q I r ⟨_, _, rfl, .inl ⟨SqL.of f1, k.tup rh q1 l1 z⟩⟩
    · exact False.elim z
  · exact False.elim z
/-- list(x) -/
def zListC : ZC
  | [.tup xs], h, Q => ∀ p, h p = none → Q (.ref p) (up h p (.lst xs))
  | [.scr ns], h, Q => ns.length ≤ 63 → ∀ p, h p = none → Q (.ref p) (up h p (.lst (ns.map PV.int)))
  | [.ref a], h, Q => match h a with
    | some (.lst xs) => ∀ p, h p = none → Q (.ref p) (up h p (.lst xs))
    | some (.dic false none kvs) => ∀ p, h p = none → Q (.ref p) (up h p (.lst (kvs.map (·.1))))
    | _ => False
  | _, _, _ => False
theorem ents_keys {K : PySem.W.Frag} {H : Hp} : ∀ {kvs : List (PV × PV)} {ds : List (Key × V)}, Paired (EntK K H) kvs ds → RVs K H (ds.map fun kv => kV kv.1) (kvs.map (·.1))
  | _, _, .nil => .nil
  | _, _, .cons (a := kv) (b := x) q t => by
    refine .cons ?_ (ents_keys t)
    show RV K H (kV x.1) kv.1
    rw [q.1]
    cases e : x.1 with
    | inl i => exact .int i
    | inr z => have := RV.str (K := K) (H := H) z.cps.toList; rw [tS_of] at this; exact this
theorem qc_list (hc : X.calm = true) : QC X (.type "list") zListC := by
  intro pins s σ H xs us Q I r ⟨ps, h, Qp, rp, rh, z, k⟩
  unfold zListC at z
  split at z
  · obtain ⟨v, rfl, r1⟩ := rvs_one rp
    cases r1 with
    | tup s1 l1 q1 => exact call_list_of pins s σ H _ us Q I r ⟨_, _, rfl, .inr s1, k.lst rh q1 l1 z⟩
  · obtain ⟨v, rfl, r1⟩ := rvs_one rp
    cases r1 with
    | scr s1 l1 =>
      have hs : sizeLine = 16777216 := sizeLine_eq
      exact call_list_of pins s σ H _ us Q I r ⟨_, _, rfl, .inl s1.sq, k.lst rh RVs.ints (by rw [List.length_map]; omega) (z l1)⟩
  · rename_i a
    obtain ⟨v, rfl, r1⟩ := rvs_one rp
    cases r1
    split at z
    · rename_i ys ea
      obtain ⟨us', f1, l1, q1⟩ := rh a _ ea
      exact call_list_of pins s σ H _ us Q I r ⟨_, _, rfl, .inl (SqL.of f1), k.lst rh q1 l1 z⟩
    · rename_i kvs ea
      obtain ⟨ds, f1, l1, q1⟩ := rh a _ ea
      exact call_list_dK hc pins s σ H _ us Q I r ⟨a, ds, rfl, f1, k.lst rh (ents_keys q1) (by rw [List.length_map, ← paired_len q1]; exact l1) z⟩
    · exact False.elim z
  · exact False.elim z
/-- sum of intsP, all, any of truth values -/
def intsP : List PV → Option (List Int)
  | [] => some []
  | .int i :: r => (intsP r).map (i :: ·)
  | _ => none
def blsP : List PV → Option (List Bool)
  | [] => some []
  | .bl i :: r => (blsP r).map (i :: ·)
  | _ => none
theorem ints_rvs {K : PySem.W.Frag} {H : Hp} : ∀ {ps : List PV} {vs : List V} {ns : List Int}, RVs K H vs ps → intsP ps = some ns → vs = ns.map V.int
  | [], _, _, r, e => by simp [intsP] at e; subst e; cases r; rfl
  | p :: ps, _, _, r, e => by
    cases p <;> simp [intsP] at e
    obtain ⟨ns', e1, e2⟩ := e
    subst e2
    cases r with
    | cons a b => cases a; rw [ints_rvs b e1]; rfl
theorem bls_rvs {K : PySem.W.Frag} {H : Hp} : ∀ {ps : List PV} {vs : List V} {ns : List Bool}, RVs K H vs ps → blsP ps = some ns → vs = ns.map V.bl
  | [], _, _, r, e => by simp [blsP] at e; subst e; cases r; rfl
  | p :: ps, _, _, r, e => by
    cases p <;> simp [blsP] at e
    obtain ⟨ns', e1, e2⟩ := e
    subst e2
    cases r with
    | cons a b => cases a; rw [bls_rvs b e1]; rfl
def zSum : ZC
  | [.ref a], h, Q => match h a with
    | some (.lst xs) => ∃ ns, intsP xs = some ns ∧ Q (.int ns.sum) h
    | _ => False
  | _, _, _ => False
theorem qc_sum (hc : X.calm = true) : QC X (.builtin "sum") zSum := by
  intro pins s σ H xs us Q I r ⟨ps, h, Qp, rp, rh, z, k⟩
  unfold zSum at z
  split at z
  · rename_i a
    obtain ⟨v, rfl, r1⟩ := rvs_one rp
    cases r1
    split at z
    · rename_i ys ea
      obtain ⟨us', f1, l1, q1⟩ := rh a _ ea
      obtain ⟨ns, e, z⟩ := z
      have e2 := ints_rvs q1 e
      subst e2
      exact cr_sum hc pins s σ H _ us Q I r ⟨a, ns, rfl, SqL.of f1, k.now rh (.int _) z⟩
    · exact False.elim z
  · exact False.elim z
def zAll : ZC
  | [.ref a], h, Q => match h a with
    | some (.lst xs) => ∃ ns, blsP xs = some ns ∧ Q (.bl (ns.all id)) h
    | _ => False
  | _, _, _ => False
theorem qc_all (hc : X.calm = true) : QC X (.builtin "all") zAll := by
  intro pins s σ H xs us Q I r ⟨ps, h, Qp, rp, rh, z, k⟩
  unfold zAll at z
  split at z
  · rename_i a
    obtain ⟨v, rfl, r1⟩ := rvs_one rp
    cases r1
    split at z
    · rename_i ys ea
      obtain ⟨us', f1, l1, q1⟩ := rh a _ ea
      obtain ⟨ns, e, z⟩ := z
      have e2 := bls_rvs q1 e
      subst e2
      exact cr_all hc pins s σ H _ us Q I r ⟨a, ns, rfl, SqL.of f1, k.now rh (.bl _) z⟩
    · exact False.elim z
  · exact False.elim z
theorem pl_ints : ∀ ns : List Int, PyData.plainAll (ns.map PyData.int) = true
  | [] => rfl
  | n :: ns => by simp only [List.map_cons, PyData.plainAll, PyData.plain, pl_ints ns, Bool.and_self]
def zAny : ZC
  | [.ref a], h, Q => match h a with
    | some (.lst xs) => ∃ ns, blsP xs = some ns ∧ Q (.bl (ns.any id)) h
    | _ => False
  | [.tup ps], h, Q => ∃ ns, intsP ps = some ns ∧ Q (.bl (ns.any (· != 0))) h
  | _, _, _ => False
theorem qc_any (hc : X.calm = true) : QC X (.builtin "any") zAny := by
  intro pins s σ H xs us Q I r ⟨ps, h, Qp, rp, rh, z, k⟩
  unfold zAny at z
  split at z
  · rename_i a
    obtain ⟨v, rfl, r1⟩ := rvs_one rp
    cases r1
    split at z
    · rename_i ys ea
      obtain ⟨us', f1, l1, q1⟩ := rh a _ ea
      obtain ⟨ns, e, z⟩ := z
      have e2 := bls_rvs q1 e
      subst e2
      exact cr_any hc pins s σ H _ us Q I r ⟨a, ns, rfl, SqL.of f1, k.now rh (.bl _) z⟩
    · exact False.elim z
  · rename_i ys
    obtain ⟨ns, e, z⟩ := z
    obtain ⟨v, rfl, r1⟩ := rvs_one rp
    cases r1 with
    | tup sq l1 q1 =>
      have e2 := ints_rvs q1 e
      subst e2
      obtain ⟨u, rfl, ru⟩ := r.one
      cases ru
      obtain ⟨its, rv, p, _⟩ := I.tuple sq
      refine PySem.W.any_tuple_data (I.ok.hd hc) (show s.heap.IsTuple _ its.toArray from p) (xs := ns.map PyData.int) (as := []) ((RZ.intsAre_vals rv).reads s.heap) (pl_ints ns) (fun x hx => by obtain ⟨n, _, rfl⟩ := List.mem_map.mp hx; trivial) fun h' tk keep => ⟨.bl (ns.any (· != 0)), H, I.kept keep, ?_, k.now rh (.bl _) z⟩
      show Value.bool _ = Value.bool _
      rw [List.any_map]
      rfl
  · exact False.elim z
end
end G

namespace G
open PySem PySem.Spec PyProof.Rows L2

/-! ### isinstance(x, T) -/
inductive Ty | int | tuple | str | bool | list | dict
  deriving DecidableEq, Repr
def Ty.name : Ty → String
  | .int => "int" | .tuple => "tuple" | .str => "str" | .bool => "bool" | .list => "list" | .dict => "dict"
def Ty.nm : Ty → Str
  | .int => Str.ofString "int" | .tuple => Str.ofString "tuple" | .str => Str.ofString "str" | .bool => Str.ofString "bool" | .list => Str.ofString "list" | .dict => Str.ofString "dict"
def zIsaV (T : Ty) : PV → PH → (Bool → Prop) → Prop
  | .non, _, Q => Q false
  | .bl _, _, Q => Q (decide (T = .bool) || decide (T = .int))
  | .int _, _, Q => Q (decide (T = .int))
  | .str _, _, Q => Q (decide (T = .str))
  | .tup _, _, Q => Q (decide (T = .tuple))
  | .ref a, h, Q => match h a with
    | some (.lst _) => Q (decide (T = .list))
    | some (.dic false none _) => Q (decide (T = .dict))
    | _ => False
  | .scr _, _, _ => False
def zIsa (T : Ty) (t : ZE) : ZE := fun ρ h Q => t ρ h fun p h1 => zIsaV T p h1 fun b => Q (.bl b) h1
theorem ty_boot (T : Ty) : bootBuiltins T.nm = some (.type T.name) := by cases T <;> decide +kernel
theorem kit_a (a : String) (T : Ty) : a ∈ ["NoneType", "bool", "int", "str", "tuple", "list", "dict"] → kitB a T.name = some (decide (a = T.name) || (decide (a = "bool") && decide (T = .int))) := by
  intro h
  simp only [List.mem_cons, List.not_mem_nil, or_false] at h
  rcases h with rfl | rfl | rfl | rfl | rfl | rfl | rfl <;> cases T <;> decide +kernel
section
variable {X : Cx} {e a b c : Expr} {es rest : List Expr} {t ta tb tc : ZE} {pos p1 p2 : Pos}
theorem rv_ty {P : Program} {w : World} {K : PySem.W.Frag} {H : Hp} {h : PH} {v : V} {p : PV} {T : Ty} {Q : Bool → Prop} (rh : RH P w K H h) (r : RV K H v p) (z : zIsaV T p h Q) :
    ∃ (n : String) (b : Bool), TyX K H v (.type n) ∧ PySem.W.kitOne K (.type n) (.type T.name) = some b ∧ Q b := by
  have k : ∀ n, n ∈ ["NoneType", "bool", "int", "str", "tuple", "list", "dict"] → ∀ b, (decide (n = T.name) || (decide (n = "bool") && decide (T = .int))) = b → PySem.W.kitOne K (.type n) (.type T.name) = some b := fun n hn b e => by
    rw [← e]; exact kit_ty (kit_a n T hn)
  cases p
  case non => cases r; exact ⟨_, _, .base .non, k _ (by simp) false (by cases T <;> decide), z⟩
  case bl => cases r; exact ⟨_, _, .base (.bl _), k _ (by simp) _ (by cases T <;> decide), z⟩
  case int => cases r; exact ⟨_, _, .base (.int _), k _ (by simp) _ (by cases T <;> decide), z⟩
  case str => cases r; exact ⟨_, _, .base (.str _), k _ (by simp) _ (by cases T <;> decide), z⟩
  case tup =>
    cases r with
    | tup s l q =>
      rcases s with (s | ⟨o, s⟩) | ⟨o, its, n, s, c, _⟩
      · exact ⟨_, _, .base (.tup s), k _ (by simp) _ (by cases T <;> decide), z⟩
      · exact ⟨_, _, .fTuple s, k _ (by simp) _ (by cases T <;> decide), z⟩
      · exact ⟨_, _, .kTuple s c, k _ (by simp) _ (by cases T <;> decide), z⟩
  case ref a =>
    cases r
    simp only [zIsaV] at z
    cases ea : h a with
    | none => rw [ea] at z; exact False.elim z
    | some o =>
      rw [ea] at z
      cases o with
      | ins C fs => exact False.elim z
      | lst xs =>
        obtain ⟨us, f1, _⟩ := rh a _ ea
        exact ⟨_, _, .base (.lst f1), k _ (by simp) _ (by cases T <;> decide), z⟩
      | dic t lk kvs =>
        cases t <;> cases lk <;> first | (exact False.elim z) | skip
        · obtain ⟨us, f1, _⟩ := rh a _ ea
          exact ⟨_, _, .base (.dK f1), k _ (by simp) _ (by cases T <;> decide), z⟩
  case scr => exact False.elim z
theorem qe_isa {T : Ty} (hg : Gl X "isinstance") (hm : X.mg "isinstance" = none) (hgT : Gl X T.nm) (hmT : X.mg T.nm = none) (hn : T.nm ≠ "__name__") (hdT : (T.nm == ("__debug__" : Str)) = false) (ha : QE X a ta)
    (h1 : starEach [a, .Name T.nm p2] X.env = (false, eval a X.env) :: starEach [.Name T.nm p2] X.env) (h2 : starEach [.Name T.nm p2] X.env = (false, eval (.Name T.nm p2) X.env) :: starEach [] X.env)
    (hpl : (backTo pos (starEach [.Name T.nm p2] X.env)).any (·.1) = false) : QE X (.Call (.Name "isinstance" p1) [a, .Name T.nm p2] [] pos) (zIsa T ta) := by
  have hT : PE X (.Name T.nm p2) (tC (.ty T.name)) := pe_bltn hgT hmT (ty_boot T) rfl hn hdT
  refine peI (pe_callB call_isi hg hm (by decide +kernel) (pa_cons ha (pa_cons hT pa_nil h2) h1) (by decide) (by decide) h1 hpl) fun σ H Q ⟨ρ, h, Qp, rs, rh, t, k⟩ => ⟨ρ, h, _, rs, rh, t, fun p h1 t1 v H1 s1 r1 rh1 => ?_⟩
  obtain ⟨n, b, g1, g2, g3⟩ := rv_ty rh1 r1 t1
  exact ⟨v, .ty T.name, _, _, b, rfl, .ty _, g1, g2, (k.later s1).now rh1 (.bl b) g3⟩

/-! ### methods of built-in types -/
def tyP (T : String) : PV → PH → Prop
  | .str _, _ => T = "str"
  | .ref a, h => match h a with
    | some (.lst _) => T = "list"
    | some (.dic _ _ _) => T = "dict"
    | _ => False
  | _, _ => False
theorem tyP_is {pins : List (Addr × Obj)} {σ : L2.St} {H : Hp} {s : Shared} {T : String} {x : V} {v : Value} {p : PV} {h : PH} (I : L2.Inv X pins σ H s) (rh : RH X.prog X.w X.K H h) (r : RelV x v) (rp : RV X.K H x p) (ty : tyP T p h) :
    s.TypeIs v T ∧ ∀ a, v = .ref a → ∃ ob, s.heap.get? a = some ob ∧ ob.dict = none := by
  cases p <;> first | (exact False.elim ty) | skip
  case str z =>
    cases rp
    exact tyV_is I r (show tyV X.K T (.str (tS z)) H from ty)
  case ref a =>
    cases rp
    simp only [tyP] at ty
    cases ea : h a with
    | none => rw [ea] at ty; exact False.elim ty
    | some o =>
      rw [ea] at ty
      cases o with
      | ins C fs => exact False.elim ty
      | lst xs =>
        obtain ⟨us, f1, _⟩ := rh a _ ea
        exact tyV_is I r (show tyV X.K T (.ref a) H from .inl ⟨ty, us, SqL.of f1⟩)
      | dic t lk kvs =>
        cases t
        · obtain ⟨us, f1, _⟩ := rh a _ ea
          cases r
          cases ty
          obtain ⟨_, hd, vs, _, dd⟩ := dk_rd I.hok f1.rd
          refine ⟨dd.typeIs, fun b eb => ?_⟩
          cases eb
          obtain ⟨o, es, ep, ho, hx, _⟩ := dd
          exact ⟨o, ho, hx.2.1⟩
        · obtain ⟨us, f1, _, q⟩ := rh a _ ea
          cases r
          cases ty
          obtain ⟨g1, g2, g3⟩ := dic_of I f1.rd q
          refine ⟨g3.typeIs, fun b eb => ?_⟩
          cases eb
          obtain ⟨o, es, ep, ho, hx, _⟩ := g3
          exact ⟨o, ho, hx.2.1⟩
abbrev ZM := PV → List PV → PH → QV → Prop
abbrev QM (X : Cx) (id : String) (r : ZM) : Prop := MtR X id (fun x xs H Q => ∃ p ps h Qp, RV X.K H x p ∧ RVs X.K H xs ps ∧ RH X.prog X.w X.K H h ∧ r p ps h Qp ∧ Thn X.prog X.w X.K h H Qp Q)
def zMt (T : String) (r : ZM) (to : ZE) (t : ZA) : ZE := fun ρ h Q => to ρ h fun p h1 => tyP T p h1 ∧ t ρ h1 fun ps h2 => r p ps h2 Q
variable {o : Expr} {to : ZE} {ta' : ZA} {name : Str} {apos cpos : Pos} {T id : String} {r : ZM}
theorem qe_bm (pa : PlainAttrs T) (slot : Slot T name id) (hty : typeOf (.builtin id) = pure (.type "method_descriptor")) (hm : QM X id r) (ho : QE X o to) (ha : QA X (e :: es) ta')
    (hbase : attributeBase o name X.env (eval o X.env) = eval o X.env)
    (hfew : ((backTo cpos (starEach (e :: es) X.env)).all (fun x => !x.1) && (backToKw cpos (keywordEach [] X.env)).all (fun x => x.1.isSome)
      && decide ((e :: es).length + ([] : List Keyword).length + (if ([] : List Keyword).isEmpty then 0 else 1) < 30)) = true)
    (hline : (apos.endLine == cpos.line) = true) (hs : starEach (e :: es) X.env = (false, eval e X.env) :: starEach es X.env) (hplain : (backTo cpos (starEach es X.env)).any (·.1) = false) :
    QE X (.Call (.Attribute o name apos) (e :: es) [] cpos) (zMt T r to ta') := by
  refine ⟨fun pins s σ H Q I hh => ?_⟩
  obtain ⟨ρ, h, Qp, rs, rh, t, k⟩ := hh
  refine wpAny_Call_method_late hbase hfew hline rfl (thn (ho.run pins s σ H (fun x H1 => ∃ p h1, Stp h H h1 H1 ∧ RV X.K H1 x p ∧ RH X.prog X.w X.K H1 h1 ∧ tyP T p h1 ∧ ta' ρ h1 fun ps h2 => r p ps h2 Qp) I ⟨ρ, h, _, rs, rh, t, fun p h1 t1 v H1 s1 r1 rh1 => ⟨p, h1, s1, r1, rh1, t1.1, t1.2⟩⟩)
    fun v s1 ⟨x, H1, I1, r1, p, h1, st1, rp, rh1, ty, q1⟩ => ?_)
  obtain ⟨g1, g2⟩ := tyP_is I1 rh1 r1 rp ty
  refine ⟨T, id, pa, slot, hty, g1, g2, ?_⟩
  have hA := ha.run cpos pins s1 σ H1 (fun vs H2 => ∃ ps h2, Stp h1 H1 h2 H2 ∧ RVs X.K H2 vs ps ∧ RH X.prog X.w X.K H2 h2 ∧ r p ps h2 Qp) I1 ⟨ρ, h1, _, rs.stp rh st1, rh1, q1, fun ps h2 t2 vs H2 s2 r2 rh2 => ⟨ps, h2, s2, r2, rh2, t2⟩⟩
  rw [hs] at hA ⊢
  refine Calls.callWith_builtin (by show (false || (backTo cpos (starEach es X.env)).any (·.1)) = false; rw [hplain] <;> rfl) (Calls.evalArgs_plain ?_)
  exact thn hA fun us s2 ⟨vs, H2, I2, r2, ps, h2, st2, rps, rh2, q2⟩ => hm pins s2 σ H2 x vs v us Q I2 r1 r2 ⟨p, ps, h2, Qp, rp.stp rh1 st2, rps, rh2, q2, (k.later st1).later st2⟩
theorem qe_bm0 (pa : PlainAttrs T) (slot : Slot T name id) (hty : typeOf (.builtin id) = pure (.type "method_descriptor")) (hm : QM X id r) (ho : QE X o to)
    (hbase : attributeBase o name X.env (eval o X.env) = eval o X.env) (hline : (apos.endLine == cpos.line) = true) : QE X (.Call (.Attribute o name apos) [] [] cpos) (zMt T r to zaNil) := by
  refine ⟨fun pins s σ H Q I hh => ?_⟩
  obtain ⟨ρ, h, Qp, rs, rh, t, k⟩ := hh
  refine wpAny_Call_method0_late hbase hline (thn (ho.run pins s σ H (fun x H1 => ∃ p h1, Stp h H h1 H1 ∧ RV X.K H1 x p ∧ RH X.prog X.w X.K H1 h1 ∧ tyP T p h1 ∧ r p [] h1 Qp) I ⟨ρ, h, _, rs, rh, t, fun p h1 t1 v H1 s1 r1 rh1 => ⟨p, h1, s1, r1, rh1, t1.1, t1.2⟩⟩)
    fun v s1 ⟨x, H1, I1, r1, p, h1, st1, rp, rh1, ty, q1⟩ => ?_)
  obtain ⟨g1, g2⟩ := tyP_is I1 rh1 r1 rp ty
  exact ⟨T, id, pa, slot, hty, g1, g2, Calls.callWith_builtin rfl (PySem.evalArgs_none (hm pins s1 σ H1 x [] v [] Q I1 r1 .nil ⟨p, [], h1, Qp, rp, .nil, rh1, q1, k.later st1⟩))⟩

def zAppend : ZM
  | .ref l, [y], h, Q => match h l with
    | some (.lst xs) => xs.length < sizeLine ∧ Q .non (up h l (.lst (xs ++ [y])))
    | _ => False
  | _, _, _, _ => False
theorem qm_append : QM X "list.append" zAppend := by
  intro pins s σ H x xs v us Q I rx rv ⟨p, ps, h, Qp, rp, rps, rh, z, k⟩
  unfold zAppend at z
  split at z
  · rename_i l y
    cases rp
    obtain ⟨u, rfl, ru⟩ := rvs_one rps
    split at z
    · rename_i ys ea
      obtain ⟨us', f1, l1, q1⟩ := rh l _ ea
      refine mt_append pins s σ H _ _ v us Q I rx rv ⟨l, us', u, rfl, rfl, f1, by rw [q1.length]; exact z.1, ?_⟩
      exact k.put rh ea (q1.append (.cons ru .nil)) (by rw [List.length_append, List.length_singleton, q1.length]; exact z.1) .non z.2
    · exact False.elim z
  · exact False.elim z
/-- list.extend of a tuple, whatever else the tuple's object bears -/
theorem ext_tup (l : Addr) (xs : Array Value) (n : Nat) (b : Addr) (ys : Array Value) (m : Nat) (dd : Option Addr) (sl : Array (Option Value)) (c1 : ¬(!xs.isEmpty && Builtin.List.listTooLong (xs.size + ys.size)) = true) (c2 : xs.size ≤ sizeLine) (c3 : xs.size + ys.size ≤ sizeLine + 1) :
    Meets (Builtin.«list.extend» ⟨[.ref l, .ref b], []⟩) (fun _ R s => s.heap.get? l = some { cls := .type "list", data := .seq xs n } ∧
      s.heap.get? b = some { cls := .type "tuple", dict := dd, data := .seq ys m, slots := sl } ∧ R (.ok (.ret Value.none)) { s with heap := s.heap.update l (Obj.mapSeq fun x => x ++ ys), toks := s.toks }) :=
  .of_wp fun prog w A R s hx => by
    obtain ⟨hp, gg, dr, tk, os⟩ := s
    obtain ⟨hl, hb, hx⟩ := hx
    have e1 := AutoSeq1.idx_int
    have e2 := AutoSeq1.sub_tuple_tuple
    have e3 := AutoSeq1.sub_list_list
    have e4 := AutoSeq1.sub_tuple_list
    have e5 := AutoSeq1.sub_list_tuple
    have ez : (xs ++ ys).size ≤ sizeLine + 1 := by simpa using c3
    wp_walk using (wpAny_updateSeq hl rfl (hz := c2) (_hz' := ez)), wpAny_loadPart' hl, wpAny_loadPart' hb
    exact ⟨_, rfl, hx⟩
def zExtend : ZM
  | .ref l, [.ref b], h, Q => match h l, h b with
    | some (.lst xs), some (.lst ys) => xs.length + ys.length ≤ sizeLine ∧ Q .non (up h l (.lst (xs ++ ys)))
    | _, _ => False
  | .ref l, [.tup ys], h, Q => match h l with
    | some (.lst xs) => xs.length + ys.length ≤ sizeLine ∧ Q .non (up h l (.lst (xs ++ ys)))
    | _ => False
  | _, _, _, _ => False
theorem qm_extend : QM X "list.extend" zExtend := by
  intro pins s σ H x xs v us Q I rx rv ⟨p, ps, h, Qp, rp, rps, rh, z, k⟩
  unfold zExtend at z
  split at z
  · rename_i l b
    cases rp
    obtain ⟨u, rfl, ru⟩ := rvs_one rps
    cases ru
    split at z
    · rename_i ys zs ea eb
      obtain ⟨us', f1, l1, q1⟩ := rh l _ ea
      obtain ⟨ws', f2, l2, q2⟩ := rh b _ eb
      refine mt_extend pins s σ H _ _ v us Q I rx rv ⟨l, b, us', ws', rfl, rfl, f1, f2, by rw [q1.length, q2.length]; exact z.1, ?_⟩
      exact k.put rh ea (q1.append q2) (by rw [List.length_append, q1.length, q2.length]; exact z.1) .non z.2
    · exact False.elim z
  · rename_i l ys
    cases rp
    obtain ⟨u, rfl, ru⟩ := rvs_one rps
    cases ru with
    | tup s1 l2 q2 =>
    split at z
    · rename_i zs ea
      obtain ⟨us', f1, l1, q1⟩ := rh l _ ea
      cases rx
      obtain ⟨w', rfl, rw'⟩ := rv.one
      cases rw'
      obtain ⟨zz, its, n, r, hl, e⟩ := I.lstM f1
      obtain ⟨its2, r2, ⟨⟨c2, d2, dt2, sl2⟩, e2, hc2, n2, hd2⟩, hz2⟩ := I.tuple s1
      simp only at hc2 hd2
      subst hc2 hd2
      have hl2 := r2.length
      have hlq := q2.length
      have hlq1 := q1.length
      have hsz : its.toArray.size + its2.toArray.size ≤ sizeLine := by rw [List.size_toArray, List.size_toArray]; omega
      have hlong : ¬ (!its.toArray.isEmpty && Builtin.List.listTooLong (its.toArray.size + its2.toArray.size)) = true := by
        rw [notLongL hsz, Bool.and_false]
        exact Bool.false_ne_true
      refine call_meets F.slot_list_extend ⟨_, e, rfl⟩ F.entry_list_extend (F.args_list_extend_2 _ _) (ext_tup l its.toArray n _ its2.toArray n2 d2 sl2 hlong (by rw [List.size_toArray]; omega) (by omega)) ⟨e, e2, ?_⟩
      refine ⟨.non, _, I.lset (its' := its ++ its2) f1 e (by simp) (r.append r2) ?_, rfl, ?_⟩
      · rw [List.length_append]
        simp only [List.size_toArray] at hsz
        omega
      · exact k.put rh ea (q1.append q2) (by rw [List.length_append, hlq, hlq1]; exact z.1) .non z.2
    · exact False.elim z
  · exact False.elim z
def zInsert : ZM
  | .ref l, [.int i, y], h, Q => match h l with
    | some (.lst xs) => xs.length < sizeLine ∧ 0 ≤ i ∧ i < 2 ^ 63 ∧ Q .non (up h l (.lst (xs.take i.toNat ++ [y] ++ xs.drop i.toNat)))
    | _ => False
  | _, _, _, _ => False
theorem qm_insert : QM X "list.insert" zInsert := by
  intro pins s σ H x xs v us Q I rx rv ⟨p, ps, h, Qp, rp, rps, rh, z, k⟩
  unfold zInsert at z
  split at z
  · rename_i l i y
    cases rp
    obtain ⟨u, u2, rfl, ru, ru2⟩ := rvs_two rps
    cases ru
    split at z
    · rename_i ys ea
      obtain ⟨us', f1, l1, q1⟩ := rh l _ ea
      refine mt_insert pins s σ H _ _ v us Q I rx rv ⟨l, us', i, u2, rfl, rfl, f1, by rw [q1.length]; exact z.1, z.2.1, z.2.2.1, ?_⟩
      refine k.put rh ea (((q1.take _).append (.cons ru2 .nil)).append (q1.drop _)) ?_ .non z.2.2.2
      have := q1.length
      have := z.1
      rw [List.length_append, List.length_append, List.length_take, List.length_drop, List.length_singleton]; omega
    · exact False.elim z
  · exact False.elim z
/-- xs.index(y), y is there -/
def zIndex : ZM
  | .ref l, [y], h, Q => match h l with
    | some (.lst xs) => y.pl = true ∧ y.dp ≤ 64 ∧ PV.pls xs = true ∧ PV.dps xs ≤ 63 ∧ y ∈ xs ∧ Q (.int (xs.findIdx (fun x => decide (x = y)) : Nat)) h
    | _ => False
  | _, _, _, _ => False
theorem pls_mem {xs : List PV} (h : PV.pls xs = true) {x : PV} (m : x ∈ xs) : x.pl = true := by
  induction xs with
  | nil => cases m
  | cons y ys ih =>
    simp only [PV.pls, Bool.and_eq_true] at h
    rcases List.mem_cons.mp m with rfl | m
    · exact h.1
    · exact ih h.2 m
theorem Ds_get {xs : List PV} {i : Nat} : (PV.Ds xs)[i]? = (xs[i]?).map PV.D := by
  induction xs generalizing i with
  | nil => simp [PV.Ds]
  | cons x xs ih => cases i <;> simp [PV.Ds, ih]
theorem qm_index (hu : X.A.units + 65 < cLine) : QM X "list.index" zIndex := by
  intro pins s σ H x xs v us Q I rx rv ⟨p, ps, h, Qp, rp, rps, rh, z, k⟩
  unfold zIndex at z
  split at z
  · rename_i l y
    cases rp
    obtain ⟨u, rfl, ru⟩ := rvs_one rps
    split at z
    · rename_i ys ea
      obtain ⟨us', f1, l1, q1⟩ := rh l _ ea
      obtain ⟨z1, z2, z3, z4, z5, z⟩ := z
      have hlt : ys.findIdx (fun x => decide (x = y)) < ys.length := List.findIdx_lt_length_of_exists ⟨y, z5, by simp⟩
      have hat := List.findIdx_getElem (xs := ys) (p := fun x => decide (x = y)) (w := hlt)
      have hat' : ys[ys.findIdx (fun x => decide (x = y))] = y := of_decide_eq_true hat
      refine mt_indexD hu pins s σ H _ _ v us Q I rx rv ⟨l, u, y.D, PV.Ds ys, _, y.D, rfl, rfl, .lst (SqL.of f1) (q1.dp _ _ z3), ru.dp _ _ z1, PV.shapedL z3 z4, PV.shaped z1 z2, ?_, ?_, ?_, k.now rh (.int _) z⟩
      · rw [Ds_get, List.getElem?_eq_getElem hlt, hat']; rfl
      · rw [PV.D_eqv _ _ z1 z1, PV.beq_dec]; simp
      · intro m z' hm hz
        rw [Ds_get, List.getElem?_eq_getElem (Nat.lt_trans hm hlt)] at hz
        cases hz
        have hmem := List.getElem_mem (Nat.lt_trans hm hlt)
        rw [PV.D_eqv _ _ (pls_mem z3 hmem) z1, PV.beq_dec]
        have := List.not_of_lt_findIdx (p := fun x => decide (x = y)) hm
        simpa using this
    · exact False.elim z
  · exact False.elim z
/-- d.get(k), d.get(k, x) -/
def zDget : ZM
  | .ref a, [k], h, Q => match h a with
    | some (.dic t _ kvs) => keyOk t k = true ∧ Q ((dget kvs k).getD .non) h
    | _ => False
  | .ref a, [k, x], h, Q => match h a with
    | some (.dic t _ kvs) => keyOk t k = true ∧ Q ((dget kvs k).getD x) h
    | _ => False
  | _, _, _, _ => False
theorem qm_dget (hu : X.A.units + 64 < cLine) : QM X "dict.get" zDget := by
  intro pins s σ H x xs v us Q I rx rv ⟨p, ps, h, Qp, rp, rps, rh, z, k⟩
  unfold zDget at z
  split at z
  · rename_i a q
    cases rp
    obtain ⟨y, rfl, ry⟩ := rvs_one rps
    split at z
    · rename_i t lk kvs ea
      obtain ⟨hk, z⟩ := z
      cases rx
      obtain ⟨u1, rfl, ru⟩ := rv.one
      cases t with
      | false =>
        obtain ⟨ds, f1, l1, r⟩ := rh a _ ea
        have hk' : q.leaf = true := hk
        have g : DGet H a y (valV ds (keyOf q)) := .inl ⟨ds, keyOf q, f1.rd, kV_of hk' ry, rfl⟩
        refine d_get1 (by omega) I g ru fun w' s3 I3 rw' => ⟨_, H, I3, rw', ?_⟩
        rcases ent_atK hk' r with ⟨e1, e2⟩ | ⟨q', v', e1, e2, r'⟩
        · rw [e1] at z; rw [e2]; exact k.now rh .non z
        · rw [e1] at z; rw [e2]; exact k.now rh r' z
      | true =>
        obtain ⟨ds, f1, l1, r⟩ := rh a _ ea
        obtain ⟨k', hk1, hk2⟩ := keyT hk
        obtain ⟨b, eb⟩ := keyT_ref hk ry
        subst eb
        cases ru
        obtain ⟨g1, g2, g3⟩ := dic_of I f1.rd r
        refine get_keyed (knd := nestedKind X.prog X.w) (by show X.A.units + 1 + 8 < cLine; omega) ⟨ry.nested I _ _ _ _ hk1 rfl, hk2⟩ g1 ⟨ds, g3, rfl⟩ ?_
        rw [valueAt_pairsH]
        rcases ent_at hk1 r with ⟨e1, e2⟩ | ⟨q', b', u', v', e1, e2, r1, r2⟩
        · rw [e1] at z; rw [e2]; exact ⟨.non, H, I.tok _, rfl, k.now rh .non z⟩
        · rw [e1] at z; rw [e2]; exact ⟨v', H, I.tok _, r1, k.now rh r2 z⟩
    · exact False.elim z
  · rename_i a q d
    cases rp
    obtain ⟨y, yd, rfl, ry, rd⟩ := rvs_two rps
    split at z
    · rename_i t lk kvs ea
      obtain ⟨hk, z⟩ := z
      cases rx
      obtain ⟨u1, u2, rfl, ru, ru2⟩ := rv.two
      cases t with
      | false =>
        obtain ⟨ds, f1, l1, r⟩ := rh a _ ea
        have hk' : q.leaf = true := hk
        have g : DGet H a y (valV ds (keyOf q)) := .inl ⟨ds, keyOf q, f1.rd, kV_of hk' ry, rfl⟩
        refine d_get2 (by omega) I g ru ru2 fun w' s3 I3 rw' => ⟨_, H, I3, rw', ?_⟩
        rcases ent_atK hk' r with ⟨e1, e2⟩ | ⟨q', v', e1, e2, r'⟩
        · rw [e1] at z; rw [e2]; exact k.now rh rd z
        · rw [e1] at z; rw [e2]; exact k.now rh r' z
      | true =>
        obtain ⟨ds, f1, l1, r⟩ := rh a _ ea
        obtain ⟨k', hk1, hk2⟩ := keyT hk
        obtain ⟨b, eb⟩ := keyT_ref hk ry
        subst eb
        cases ru
        obtain ⟨g1, g2, g3⟩ := dic_of I f1.rd r
        refine getOr_keyed (knd := nestedKind X.prog X.w) (by show X.A.units + 1 + 8 < cLine; omega) ⟨ry.nested I _ _ _ _ hk1 rfl, hk2⟩ g1 ⟨ds, g3, rfl⟩ ?_
        rw [valueAt_pairsH]
        rcases ent_at hk1 r with ⟨e1, e2⟩ | ⟨q', b', u', v', e1, e2, r1, r2⟩
        · rw [e1] at z; rw [e2]; exact ⟨yd, H, I.tok _, ru2, k.now rh rd z⟩
        · rw [e1] at z; rw [e2]; exact ⟨v', H, I.tok _, r1, k.now rh r2 z⟩
    · exact False.elim z
  · exact False.elim z
end
end G

namespace G
open PySem PySem.Spec PyProof.Rows L2

structure ZEnds where
  nx : Ev → PH → Prop
  rt : QV
  bk : Ev → PH → Prop := fun _ _ => False
  ct : Ev → PH → Prop := fun _ _ => False
abbrev ZS := ZEnds → Ev → PH → Prop
abbrev ZG := PV → Ev → PH → (Ev → PH → Prop) → Prop
abbrev ZGs := List PV → Ev → PH → (Ev → PH → Prop) → Prop
abbrev ZI := Ev → PH → (Nat → Nat → PH → Prop) → Prop
section
variable (P : Program) (w : World) (K : PySem.W.Frag)
def ThnS (h : PH) (H : Hp) (Q : Ev → PH → Prop) (R : L2.St → Hp → Prop) : Prop := ∀ ρ' h', Q ρ' h' → ∀ σ' H', Stp h H h' H' → RS K H' σ' ρ' → RH P w K H' h' → R σ' H'
structure EndsOk (h : PH) (H : Hp) (Z : ZEnds) (D : Ends) : Prop where
  nx : ThnS P w K h H Z.nx D.nx
  rt : Thn P w K h H Z.rt D.rt
  bk : ThnS P w K h H Z.bk D.bk
  ct : ThnS P w K h H Z.ct D.ct
def LS (t : ZS) : TS := fun D σ H => ∃ ρ h Z, RS K H σ ρ ∧ RH P w K H h ∧ t Z ρ h ∧ EndsOk P w K h H Z D
def LG (g : ZG) : TG := fun v σ H Q => ∃ p ρ h Qz, RV K H v p ∧ RS K H σ ρ ∧ RH P w K H h ∧ g p ρ h Qz ∧ ThnS P w K h H Qz Q
def LGs (g : ZGs) : TGs := fun vs σ H Q => ∃ ps ρ h Qz, RVs K H vs ps ∧ RS K H σ ρ ∧ RH P w K H h ∧ g ps ρ h Qz ∧ ThnS P w K h H Qz Q
end
abbrev QS (X : Cx) (s : Stmt) (t : ZS) : Prop := PS X s (LS X.prog X.w X.K t)
abbrev QSs (X : Cx) (s : List Stmt) (t : ZS) : Prop := PSs X s (LS X.prog X.w X.K t)
abbrev QG (X : Cx) (e : Expr) (g : ZG) : Prop := PG X e (LG X.prog X.w X.K g)
abbrev QGs (X : Cx) (e : List Expr) (g : ZGs) : Prop := PGs X e (LGs X.prog X.w X.K g)
theorem psI {X : Cx} {e : Stmt} {t t' : TS} (h : PS X e t) (i : ∀ D σ H, t' D σ H → t D σ H) : PS X e t' := ⟨fun pins s σ H D I q => h.run pins s σ H D I (i D σ H q)⟩
theorem pssI {X : Cx} {e : List Stmt} {t t' : TS} (h : PSs X e t) (i : ∀ D σ H, t' D σ H → t D σ H) : PSs X e t' := ⟨fun pins s σ H D I q => h.run pins s σ H D I (i D σ H q)⟩
theorem pgI {X : Cx} {e : Expr} {t t' : TG} (h : PG X e t) (i : ∀ v σ H Q, t' v σ H Q → t v σ H Q) : PG X e t' := ⟨fun pins s σ H v u Q I r q => h.run pins s σ H v u Q I r (i v σ H Q q)⟩
theorem pgsI {X : Cx} {e : List Expr} {t t' : TGs} (h : PGs X e t) (i : ∀ v σ H Q, t' v σ H Q → t v σ H Q) : PGs X e t' := ⟨fun pins s σ H v u Q I r q => h.run pins s σ H v u Q I r (i v σ H Q q)⟩
section
variable {P : Program} {w : World} {K : PySem.W.Frag} {h h1 : PH} {H H1 : Hp} {Z : ZEnds} {D : Ends}
theorem ThnS.later {Q : Ev → PH → Prop} {R : L2.St → Hp → Prop} (k : ThnS P w K h H Q R) (s : Stp h H h1 H1) : ThnS P w K h1 H1 Q R := fun ρ' h' q σ' H' s' rs rh => k ρ' h' q σ' H' (s.trans s') rs rh
theorem EndsOk.later (k : EndsOk P w K h H Z D) (s : Stp h H h1 H1) : EndsOk P w K h1 H1 Z D := ⟨k.nx.later s, k.rt.later s, k.bk.later s, k.ct.later s⟩
/-- another way on -/
theorem EndsOk.nxt (k : EndsOk P w K h H Z D) {N : Ev → PH → Prop} {M : L2.St → Hp → Prop} (n : ThnS P w K h H N M) : EndsOk P w K h H { Z with nx := N } { D with nx := M } := ⟨n, k.rt, k.bk, k.ct⟩
end
section
variable {X : Cx} {e a b c : Expr} {es : List Expr} {st : Stmt} {rest ss tt : List Stmt} {t u : ZS} {te ta tb : ZE} {tc : ZT} {g : ZG} {gs : ZGs} {pos : Pos}
/-! ### blocks -/
def zNext : ZS := fun D ρ h => D.nx ρ h
def zSeq (t u : ZS) : ZS := fun D ρ h => t { D with nx := u D } ρ h
theorem qss_nil : QSs X [] zNext := pssI pss_nil fun D σ H ⟨ρ, h, Z, rs, rh, t, k⟩ => k.nx _ _ t _ _ (Stp.refl _ _) rs rh
theorem qss_cons (h1 : QS X st t) (h2 : QSs X rest u) : QSs X (st :: rest) (zSeq t u) := pssI (pss_cons h1 h2) fun D σ H ⟨ρ, h, Z, rs, rh, t, k⟩ =>
  ⟨ρ, h, _, rs, rh, t, k.nxt fun ρ' h' q σ' H' s rs' rh' => ⟨ρ', h', Z, rs', rh', q, k.later s⟩⟩
theorem qss_one (h1 : QS X st t) : QSs X [st] t := pss_one h1
def zBrk : ZS := fun D ρ h => D.bk ρ h
def zCont : ZS := fun D ρ h => D.ct ρ h
theorem qs_pass : QS X (.Pass pos) zNext := psI ps_pass fun D σ H ⟨ρ, h, Z, rs, rh, t, k⟩ => k.nx _ _ t _ _ (Stp.refl _ _) rs rh
theorem qs_brk : QS X (.Break pos) zBrk := psI ps_break fun D σ H ⟨ρ, h, Z, rs, rh, t, k⟩ => k.bk _ _ t _ _ (Stp.refl _ _) rs rh
theorem qs_cont : QS X (.Continue pos) zCont := psI ps_continue fun D σ H ⟨ρ, h, Z, rs, rh, t, k⟩ => k.ct _ _ t _ _ (Stp.refl _ _) rs rh
def zDrop (te : ZE) : ZS := fun D ρ h => te ρ h fun _ h1 => D.nx ρ h1
theorem qs_expr (he : QE X e te) (hs : swapsWith e none pos.line X.env = pure false) : QS X (.Expr e pos) (zDrop te) := psI (ps_expr he hs) fun D σ H ⟨ρ, h, Z, rs, rh, t, k⟩ =>
  ⟨ρ, h, _, rs, rh, t, fun p h1 t1 v H1 s1 r1 rh1 => k.nx _ _ t1 _ _ s1 (rs.stp rh s1) rh1⟩
def zRet (te : ZE) : ZS := fun D ρ h => te ρ h D.rt
theorem qs_ret (he : QE X e te) : QS X (.Return (some e) pos) (zRet te) := psI (ps_ret he) fun D σ H ⟨ρ, h, Z, rs, rh, t, k⟩ => ⟨ρ, h, _, rs, rh, t, k.rt⟩
def zRetN : ZS := fun D _ h => D.rt .non h
theorem qs_retN : QS X (.Return none pos) zRetN := psI ps_retN fun D σ H ⟨ρ, h, Z, rs, rh, t, k⟩ => k.rt.now rh .non t
def zIfS (c : ZT) (t u : ZS) : ZS := fun D ρ h => c ρ h fun b h1 => if b = true then t D ρ h1 else u D ρ h1
theorem qs_if (hc : QT X c tc) (ha : QSs X ss t) (hb : QSs X tt u) : QS X (.If c ss tt pos) (zIfS tc t u) := psI (ps_if hc ha hb) fun D σ H ⟨ρ, h, Z, rs, rh, t, k⟩ =>
  ⟨ρ, h, _, rs, rh, t, fun b h1 t1 H1 s1 rh1 => by
    cases b with
    | true => rw [if_pos rfl] at t1 ⊢; exact ⟨ρ, h1, Z, rs.stp rh s1, rh1, t1, k.later s1⟩
    | false => rw [if_neg Bool.false_ne_true] at t1 ⊢; exact ⟨ρ, h1, Z, rs.stp rh s1, rh1, t1, k.later s1⟩⟩
/-! ### targets -/
def zgName (i : Nat) : ZG := fun p ρ h Q => Q (ρ.set i (some p)) h
theorem qg_name {i : Nat} {x : Str} (hN : X.N.Nodup) (hi : X.N[i]? = some x) (hx : Loc X.env.scope x) (hf : X.fn x = true ∨ X.env.scope.names.lookup x = some .local) : QG X (.Name x pos) (zgName i) :=
  pgI (pg_name hN hi hx hf) fun v σ H Q ⟨p, ρ, h, Qz, r, rs, rh, q, k⟩ => k _ _ q _ _ (Stp.refl _ _) (rs.set r i) rh
def zgNil : ZGs := fun ps ρ h Q => ps = [] ∧ Q ρ h
def zgCons (g : ZG) (gs : ZGs) : ZGs := fun ps ρ h Q => match ps with
  | p :: r => g p ρ h fun ρ' h' => gs r ρ' h' Q
  | [] => False
theorem qgs_nil : QGs X [] zgNil := pgsI pgs_nil fun vs σ H Q ⟨ps, ρ, h, Qz, r, rs, rh, ⟨e, q⟩, k⟩ => by
  subst e; cases r
  exact ⟨rfl, k _ _ q _ _ (Stp.refl _ _) rs rh⟩
theorem qgs_cons (h1 : QG X e g) (h2 : QGs X es gs) (hs : (assignEach (e :: es) X.env).map (·.2) = assign e X.env :: (assignEach es X.env).map (·.2)) : QGs X (e :: es) (zgCons g gs) :=
  pgsI (pgs_cons h1 h2 hs) fun vs σ H Q ⟨ps, ρ, h, Qz, r, rs, rh, q, k⟩ => by
    cases r with
    | nil => exact False.elim q
    | cons r1 r2 => exact ⟨_, _, rfl, _, ρ, h, _, r1, rs, rh, q, fun ρ' h' q' σ' H' s rs' rh' => ⟨_, ρ', h', Qz, r2.stp rh s, rs', rh', q', k.later s⟩⟩
def zgTup (n : Nat) (gs : ZGs) : ZG := fun p ρ h Q => match p with
  | .tup xs => xs.length = n ∧ gs xs ρ h Q
  | _ => False
theorem qg_tup {n k : Nat} (hc : X.calm = true) (hg : QGs X es gs) (hn : (assignEach es X.env).length = n) (hst : (assignEach es X.env).findIdx? (·.1) = none) : QG X (.Tuple es k pos) (zgTup n gs) :=
  pgI (pg_tup hc hg hn hst) fun v σ H Q ⟨p, ρ, h, Qz, r, rs, rh, q, k⟩ => by
    cases p <;> first | (exact False.elim q) | skip
    cases r with
    | tup s l qq => exact ⟨_, _, rfl, s, by rw [qq.length]; exact q.1, _, ρ, h, Qz, qq, rs, rh, q.2, k⟩
/-- o[i] = v by values -/
abbrev ZSet := PV → PV → PV → PH → (PH → Prop) → Prop
def zSet : ZSet
  | .ref a, k, v, h, Q => match h a, k with
    | some (.lst xs), .int i => ∃ j, ixN xs.length i = some j ∧ Q (up h a (.lst (xs.set j v)))
    | some (.dic t none kvs), k => keyOk t k = true ∧ kvs.length < sizeLine ∧ Q (up h a (.dic t none (dput kvs k v)))
    | _, _ => False
  | _, _, _, _, _ => False
theorem qset (hu : X.A.units + 64 < cLine) : PSet X (fun o i v H Q => ∃ po pi pv h Qz, RV X.K H o po ∧ RV X.K H i pi ∧ RV X.K H v pv ∧ RH X.prog X.w X.K H h ∧ zSet po pi pv h Qz ∧ ∀ h', Qz h' → ∀ H', Stp h H h' H' → RH X.prog X.w X.K H' h' → Q H') := by
  intro pins s σ H o i v ov iv u Q I ro ri rv ⟨po, pi, pv, h, Qz, qo, qi, qv, rh, z, k⟩
  cases po <;> first | (exact False.elim z) | skip
  rename_i a
  cases qo
  simp only [zSet] at z
  cases ea : h a with
  | none => rw [ea] at z; exact False.elim z
  | some ob =>
    rw [ea] at z
    cases ob with
    | ins C fs => cases pi <;> exact False.elim z
    | lst xs =>
      cases pi <;> first | (exact False.elim z) | skip
      cases qi
      obtain ⟨j, e, z⟩ := z
      obtain ⟨us, f1, l1, q1⟩ := rh a _ ea
      refine set_list pins s σ H _ _ _ ov iv u Q I ro ri rv ⟨a, us, _, j, rfl, rfl, f1, by rw [q1.length]; exact e, ?_⟩
      have st : Stp h H (up h a (.lst (xs.set j pv))) (upd H a (.lst (us.set j v))) := stp_set ea
      exact k _ z _ st (rh.put st ⟨_, upd_same, by rw [List.length_set]; exact l1, (q1.set qv j).stp rh st⟩)
    | dic t lk kvs =>
      cases lk with
      | some l => cases pi <;> exact False.elim z
      | none =>
        obtain ⟨hk, hl, z'⟩ := (show keyOk t pi = true ∧ kvs.length < sizeLine ∧ Qz (up h a (.dic t none (dput kvs pi pv))) by cases pi <;> exact z)
        clear z
        cases ro
        have hl' := len_dput kvs pi pv
        cases t with
        | false =>
          obtain ⟨ds, f1, l1, r⟩ := rh a _ ea
          have hk' : pi.leaf = true := hk
          have f1' : H a = some (.dK ds) := f1
          have g : DPut H a i v (upd H a (.dK (putK ds (keyOf pi) v))) := .inl ⟨ds, keyOf pi, f1', kV_of hk' qi, by rw [← paired_len r]; exact hl, rfl⟩
          refine d_setItem (by omega) I g ri rv fun s4 I4 => ⟨_, I4, ?_⟩
          have st : Stp h H (up h a (.dic false none (dput kvs pi pv))) (upd H a (.dK (putK ds (keyOf pi) v))) := stp_set ea
          refine k _ z' _ st (rh.put st ⟨_, (show LkAt _ _ none _ from upd_same), by omega, ?_⟩)
          exact Paired.mapP (ent_putK hk' qv r) fun _ _ q => ⟨q.1, q.2.stp rh st⟩
        | true =>
          obtain ⟨xs, f1, l1, r⟩ := rh a _ ea
          obtain ⟨k', hk1, hk2⟩ := keyT hk
          obtain ⟨b, eb⟩ := keyT_ref hk qi
          subst eb
          cases ri
          obtain ⟨g1, g2, g3⟩ := dic_of I f1.rd r
          have f1' : H a = some (.ext (dphi X.prog X.w a xs)) := f1
          have st : Stp h H (up h a (.dic true none (dput kvs pi pv))) (upd H a (.ext (dphi X.prog X.w a (storedH xs k' b u)))) := stp_set ea
          refine wpAny_setItem_heap (knd := nestedKind X.prog X.w) (by show X.A.units + 1 + 8 < cLine; omega) ⟨qi.nested I _ _ _ _ hk1 rfl, hk2⟩ g3 (fun h' hm' hs => ?_) g2
          have hle := len_storedH xs k' b u
          have hxl : xs.length = kvs.length := (paired_len r).symm
          obtain ⟨o', es, ep, ho', hx', hd', he', hi', hn'⟩ := hm'
          have new : ObjOk X.prog X.w (upd H a (.ext (dphi X.prog X.w a (storedH xs k' b u)))) h' a (.ext (dphi X.prog X.w a (storedH xs k' b u))) := by
            refine ⟨⟨g1, by omega, o', es, ep, ho', hx', hd', he', hn'⟩, ⟨o', ho'⟩, fun h1 h2 ⟨c1, c2, o1, es1, ep1, c3, c4⟩ hk => ⟨c1, c2, o1, es1, ep1, hk o1 c3, c4⟩⟩
          have I4 := I.write (x := a) (e := a) (t' := s.toks + (nestedKind X.prog X.w).draws k') (by rw [f1']; trivial) (.inl rfl) (fun c v hc e => (hs.2 c hc).trans e) ⟨o', ho'⟩ new
          refine ⟨_, I4, k _ z' _ st (rh.put st ⟨_, (show LkAt _ _ none _ from upd_same), by omega, ?_⟩)⟩
          exact Paired.mapP (ent_put hk1 hk2 qi rv qv r) fun _ _ ⟨c1, c2, c3, v', c4, c5⟩ => ⟨c1, c2, c3.stp rh st, v', c4, c5.stp rh st⟩
def zgSub (to ti : ZE) : ZG := fun p ρ h Q => to ρ h fun o h1 => ti ρ h1 fun i h2 => zSet o i p h2 fun h3 => Q ρ h3
theorem qg_sub {o i : Expr} {to ti : ZE} (hu : X.A.units + 64 < cLine) (ho : QE X o to) (hi : QE X i ti)
    (ha : ∀ v, assign (.Subscript o i pos) X.env v = (do
      let ov ← holding [v] (eval o X.env)
      let iv ← holding [v, ov] (eval i X.env)
      standAt pos
      holding [v, ov, iv] (setItem ov iv v)
      release [v, ov, iv] [])) : QG X (.Subscript o i pos) (zgSub to ti) :=
  pgI (pg_sub ho hi (qset hu) ha) fun v σ H Q ⟨p, ρ, h, Qz, r, rs, rh, q, k⟩ => ⟨ρ, h, _, rs, rh, q, fun po h1 t1 ov H1 s1 r1 rh1 => ⟨ρ, h1, _, rs.stp rh s1, rh1, t1, fun pi h2 t2 iv H2 s2 r2 rh2 =>
    ⟨po, pi, p, h2, _, r1.stp rh1 s2, r2, (r.stp rh s1).stp rh1 s2, rh2, t2, fun h' q' H' s' rh' => k _ _ q' _ _ ((s1.trans s2).trans s') (((rs.stp rh s1).stp rh1 s2).stp rh2 s') rh'⟩⟩⟩
/-- target = value -/
def zAsg (te : ZE) (g : ZG) : ZS := fun D ρ h => te ρ h fun p h1 => g p ρ h1 D.nx
theorem qs_asg {tg : Expr} (he : QE X e te) (hg : QG X tg g) (hs : swapsWithSole [tg] e pos.line X.env = pure false) (hw : swappedStores [tg] e X.env = pure none) (h1 : (assignEach [tg] X.env).map (·.2) = [assign tg X.env]) :
    QS X (.Assign [tg] e pos) (zAsg te g) := psI (ps_asg he hg hs hw h1) fun D σ H ⟨ρ, h, Z, rs, rh, t, k⟩ => ⟨ρ, h, _, rs, rh, t, fun p h1 t1 v H1 s1 r1 rh1 => ⟨p, ρ, h1, Z.nx, r1, rs.stp rh s1, rh1, t1, k.nx.later s1⟩⟩
theorem qs_set {i : Nat} {x : Str} {pos' : Pos} (hN : X.N.Nodup) (hi : X.N[i]? = some x) (hx : Loc X.env.scope x) (he : QE X e te) (hs : swapsWith e (some (.Name x pos')) pos.line X.env = pure false) (hf : X.fn x = true ∨ X.env.scope.names.lookup x = some .local) :
    QS X (.Assign [.Name x pos'] e pos) (zAsg te (zgName i)) := psI (ps_set hN hi hx he hs hf) fun D σ H ⟨ρ, h, Z, rs, rh, t, k⟩ => ⟨ρ, h, _, rs, rh, t, fun p h1 t1 v H1 s1 r1 rh1 => k.nx _ _ t1 _ _ s1 ((rs.stp rh s1).set r1 i) rh1⟩
/-- a, b = x, y -/
def zPar (i j : Nat) (ta : ZA) : ZS := fun D ρ h => ta ρ h fun ps h1 => match ps with
  | [p, q] => D.nx ((ρ.set i (some p)).set j (some q)) h1
  | _ => False
theorem qs_par {i j : Nat} {x y : Str} {ta : ZA} {px py pt : Pos} {kt k2 pt2} (hc : X.calm = true) (hN : X.N.Nodup) (hi : X.N[i]? = some x) (hj : X.N[j]? = some y) (hij : i ≠ j)
    (hx : X.env.scope.names.lookup x = some .local) (hy : X.env.scope.names.lookup y = some .local) (ha : QA X [a, b] ta)
    (hw : swappedStores [.Tuple [.Name x px, .Name y py] kt pt] (.Tuple [a, b] k2 pt2) X.env = pure (some [x, y]))
    (hs : swapsWithSole [.Tuple [.Name x px, .Name y py] kt pt] (.Tuple [a, b] k2 pt2) pos.line X.env = pure false) :
    QS X (.Assign [.Tuple [.Name x px, .Name y py] kt pt] (.Tuple [a, b] k2 pt2) pos) (zPar i j ta) := psI (ps_par hc hN hi hj hij hx hy ha hw hs) fun D σ H ⟨ρ, h, Z, rs, rh, t, k⟩ =>
  ⟨ρ, h, _, rs, rh, t, fun ps h1 t1 vs H1 s1 r1 rh1 => by
    split at t1
    · obtain ⟨v, u, rfl, q1, q2⟩ := rvs_two r1
      exact ⟨v, u, rfl, k.nx _ _ t1 _ _ s1 (((rs.stp rh s1).set q1 i).set q2 j) rh1⟩
    · exact False.elim t1⟩
/-- name += e, of ints -/
def zAug (i : Nat) (te : ZE) (f : Int → Int → Int) : ZS := fun D ρ h => ∃ x, ρ[i]? = some (some (.int x)) ∧ te ρ h fun p h1 => match p with
  | .int y => D.nx (ρ.set i (some (.int (f x y)))) h1
  | _ => False
theorem qs_aug {i : Nat} {x : Str} {op : Operator} {f : Int → Int → Int} {pos' : Pos} (hN : X.N.Nodup) (hi : X.N[i]? = some x) (hx : Loc X.env.scope x) (he : QE X e te) (ho : PIp X op (ipI f)) (hf : X.fn x = true ∨ X.env.scope.names.lookup x = some .local) :
    QS X (.AugAssign (.Name x pos') op e pos) (zAug i te f) := psI (ps_aug hN hi hx he ho hf) fun D σ H ⟨ρ, h, Z, rs, rh, ⟨n, e1, t⟩, k⟩ => by
  obtain ⟨v, e2, r⟩ := rs.2 _ _ e1
  cases r
  refine ⟨_, e2, ρ, h, _, rs, rh, t, fun p h1 t1 v H1 s1 r1 rh1 => ?_⟩
  cases p <;> first | (exact False.elim t1) | skip
  cases r1
  exact ⟨_, _, rfl, rfl, k.nx _ _ t1 _ _ s1 ((rs.stp rh s1).set (.int _) i) rh1⟩
/-! ### while -/
def zWhile (c : ZT) (tb : ZS) : ZS := fun D ρ h => ∃ W : Nat → Ev → PH → Prop, (∃ m, W m ρ h) ∧ ∀ m ρ h, W m ρ h →
  c ρ h fun b h1 => if b = true then ∃ N : Ev → PH → Prop, (∀ ρ' h', N ρ' h' → ∃ m' h2, m' < m ∧ Sub h2 h' ∧ W m' ρ' h2) ∧ tb { D with nx := N, ct := N, bk := D.nx } ρ h1 else D.nx ρ h1
theorem stp_sub {h h' h2 : PH} {H H' : Hp} (s : Stp h H h' H') (u : Sub h2 h') : Stp h H h2 H' := fun b o e n => by
  obtain ⟨a1, a2⟩ := s b o e n
  refine ⟨a1, ?_⟩
  cases q : h2 b with
  | none => rfl
  | some v => rw [u b v q] at a2; cases a2
theorem qs_while {body : List Stmt} (hp : PassesOwn (model X.prog X.w) X.A X.env X.xe) (hc : QT X c tc) (hb : QSs X body t) : QS X (.While c body [] pos) (zWhile tc t) :=
  psI (ps_while hp hc hb) fun D σ H ⟨ρ, h, Z, rs, rh, ⟨W, ⟨m0, w0⟩, turn⟩, k⟩ => by
    refine ⟨fun m σ' H' => ∃ ρ' h', RS X.K H' σ' ρ' ∧ RH X.prog X.w X.K H' h' ∧ Stp h H h' H' ∧ W m ρ' h', ⟨m0, ρ, h, rs, rh, Stp.refl _ _, w0⟩, ?_⟩
    rintro m σ1 H1 ⟨ρ1, h1, rs1, rh1, s1, w1⟩
    refine ⟨ρ1, h1, _, rs1, rh1, turn m ρ1 h1 w1, fun b h2 t2 H2 s2 rh2 => ?_⟩
    cases b with
    | false =>
      rw [if_neg Bool.false_ne_true] at t2 ⊢
      exact k.nx _ _ t2 _ _ (s1.trans s2) (rs1.stp rh1 s2) rh2
    | true =>
      rw [if_pos rfl] at t2 ⊢
      obtain ⟨N, hN, t2⟩ := t2
      have s12 := s1.trans s2
      have nn : ThnS X.prog X.w X.K h2 H2 N (fun σ' H' => ∃ ρ' h', RS X.K H' σ' ρ' ∧ RH X.prog X.w X.K H' h' ∧ Stp h H h' H' ∧ N ρ' h') := fun ρ' h' q σ' H' s rs' rh' => ⟨ρ', h', rs', rh', s12.trans s, q⟩
      refine ⟨fun σ' H' => ∃ ρ' h', RS X.K H' σ' ρ' ∧ RH X.prog X.w X.K H' h' ∧ Stp h H h' H' ∧ N ρ' h', ?_, ρ1, h2, _, rs1.stp rh1 s2, rh2, t2, ⟨nn, k.rt.later s12, k.nx.later s12, nn⟩⟩
      rintro σ' H' ⟨ρ', h', rs', rh', s', n'⟩
      obtain ⟨m', h3, hm, u, w'⟩ := hN ρ' h' n'
      exact ⟨m', hm, ρ', h3, rs', rh'.sub u, stp_sub s' u, w'⟩
end
end G

namespace G
open PySem PySem.Spec PyProof.Rows L2

/-! ### what a loop walks -/
structure ZIt where
  go : Nat → PH → Prop
  yld : Nat → PH → PV → Prop
  stop : Nat → PH → Prop
/-- fixed values -/
def ZitV (ps : List PV) : ZIt := ⟨fun i _ => i < ps.length, fun i _ p => ps[i]? = some p, fun i _ => ps.length ≤ i⟩
/-- the list at a as it stands at each turn -/
def ZitL (a : Addr) : ZIt := ⟨fun i h => ∃ xs x, h a = some (.lst xs) ∧ xs[i]? = some x, fun i h p => ∀ xs, h a = some (.lst xs) → xs[i]? = some p, fun i h => ∃ xs, h a = some (.lst xs) ∧ xs.length ≤ i⟩
/-- lo, lo + 1, .. -/
def ZitR (lo : Int) (n : Nat) : ZIt := ⟨fun i _ => i < n, fun i _ p => p = .int (lo + i), fun i _ => n ≤ i⟩
/-- the keys of the locked dict at a -/
def ZitK (a : Addr) (t : Bool) (lk : Obj × HO) (kvs : List (PV × PV)) : ZIt :=
  ⟨fun i h => h a = some (.dic t (some lk) kvs) ∧ i < kvs.length, fun i _ p => ∃ kv, kvs[i]? = some kv ∧ p = kv.1, fun i h => h a = some (.dic t (some lk) kvs) ∧ kvs.length ≤ i⟩
def Cor (P : Program) (w : World) (K : PySem.W.Frag) (h0 : PH) (H0 : Hp) (J : It) (Z : ZIt) : Prop := ∀ i h H, Stp h0 H0 h H → RH P w K H h →
  (Z.go i h → J.go i H) ∧ (Z.stop i h → J.stop i H) ∧ (Z.go i h → ∀ x H', J.yld i H x H' → ∃ p, Z.yld i h p ∧ Stp h H h H' ∧ RV K H' x p ∧ RH P w K H' h)
abbrev ZSrc := Ev → PH → (ZIt → PH → Prop) → Prop
def LIs (P : Program) (w : World) (K : PySem.W.Frag) (wz : ZSrc) : TI := fun σ H R => ∃ ρ h Rz, RS K H σ ρ ∧ RH P w K H h ∧ wz ρ h Rz ∧ ∀ Z h', Rz Z h' → ∀ J H', Stp h H h' H' → RH P w K H' h' → Cor P w K h' H' J Z → R J H'
abbrev QI (X : Cx) (tg iter : Expr) (wz : ZSrc) : Prop := PI X tg iter (LIs X.prog X.w X.K wz)
theorem piI {X : Cx} {tg e : Expr} {t t' : TI} (h : PI X tg e t) (i : ∀ σ H Q, t' σ H Q → t σ H Q) : PI X tg e t' := ⟨fun pins s σ H Q I q => h.run pins s σ H Q I (i σ H Q q)⟩
section
variable {X : Cx} {tg e a b : Expr} {te : ZE} {ta : ZA} {pos : Pos}
/-- any of: a list, a tuple, a locked dict -/
def iAnyV (K : PySem.W.Frag) (tl : TE) : TI := fun σ H R => tl σ H fun x H1 => ∃ a, x = .ref a ∧ ((∃ xs, SqL K H1 a xs ∧ R (Itl K a) H1) ∨ (∃ xs, SqT K H1 a xs ∧ R (Itt K a) H1) ∨ ∃ o kvs, H1 a = some (.frz o (.dK kvs)) ∧ R (Itk a o kvs) H1)
theorem pi_anyV {l : Expr} {tl : TE} (hl : PE X l tl) : PI X tg l (iAnyV X.K tl) := by
  refine ⟨fun pins s σ H R I h => ?_⟩
  refine thn (hl.run pins s σ H _ I h) fun v s1 ⟨x, H1, I1, r1, q1⟩ => ?_
  obtain ⟨a, e, q⟩ := q1
  subst e
  cases r1
  rcases q with ⟨xs, hq, q⟩ | ⟨xs, hq, q⟩ | ⟨o, kvs, hd, q⟩
  · obtain ⟨its, rv, p, hz⟩ := I1.list hq
    exact wpAny_pyIter_list p.isList (pi_one (tk := s1.toks) I1 _ (turn_list a _) ⟨_, Heap.get?_push_size _ rfl, rfl, rfl⟩ q)
  · obtain ⟨its, rv, p, hz⟩ := I1.tuple hq
    exact wpAny_pyIter_tuple (show s1.heap.IsTuple a its.toArray from p) (pi_one (tk := s1.toks) I1 _ (turn_tuple a _) ⟨_, Heap.get?_push_size _ rfl, rfl, rfl⟩ q)
  · obtain ⟨hs, hgd, hx, es, ep, vs, hdt, hsz, kv, hm⟩ := I1.frzK hd
    refine iter_keys hs hgd hx hdt (pi_one (tk := s1.toks) I1 _ (turn_keys _ hdt) ⟨_, Heap.get?_push_size _ rfl, rfl, ?_⟩ q)
    rw [hsz] <;> rfl
def zsAny (te : ZE) : ZSrc := fun ρ h R => te ρ h fun p h1 => match p with
  | .tup ps => R (ZitV ps) h1
  | .ref a => (match h1 a with
    | some (.lst _) => R (ZitL a) h1
    | some (.dic false (some lk) kvs) => R (ZitK a false lk kvs) h1
    | _ => False)
  | _ => False
theorem cor_tup {P : Program} {w : World} {K : PySem.W.Frag} {h0 : PH} {H0 : Hp} {a : Addr} {xs : List V} {ps : List PV} (rh0 : RH P w K H0 h0) (s : SqT K H0 a xs) (inj : ∀ {H : Hp} {ys : List V}, SqT K H a xs → SqT K H a ys → ys = xs) (r : RVs K H0 xs ps) : Cor P w K h0 H0 (Itt K a) (ZitV ps) := fun i h H st rh => by
  have s1 := SqT.stp rh0 st s
  have r1 := r.stp rh0 st
  refine ⟨fun g => ?_, fun g => ⟨xs, s1, by rw [r1.length]; exact g⟩, fun g x H' y => ?_⟩
  · have hlt : i < xs.length := by rw [r1.length]; exact g
    exact ⟨xs, xs[i], s1, List.getElem?_eq_getElem hlt⟩
  · obtain ⟨rfl, y⟩ := y
    obtain ⟨p, e, rv⟩ := r1.getV (y xs s1)
    exact ⟨p, e, Stp.refl _ _, rv, rh⟩
theorem cor_tup' {P : Program} {w : World} {K : PySem.W.Frag} {h0 : PH} {H0 : Hp} {a : Addr} {xs : List V} {ps : List PV} (rh0 : RH P w K H0 h0) (s : SqT K H0 a xs) (r : RVs K H0 xs ps) : Cor P w K h0 H0 (Itt K a) (ZitV ps) := fun i h H st rh => by
  have s1 := SqT.stp rh0 st s
  have r1 := r.stp rh0 st
  refine ⟨fun g => ?_, fun g => ⟨xs, s1, by rw [r1.length]; exact g⟩, fun g x H' y => ?_⟩
  · have hlt : i < xs.length := by rw [r1.length]; exact g
    exact ⟨xs, xs[i], s1, List.getElem?_eq_getElem hlt⟩
  · obtain ⟨rfl, y⟩ := y
    obtain ⟨p, e, rv⟩ := r1.getV (y xs s1)
    exact ⟨p, e, Stp.refl _ _, rv, rh⟩
theorem cor_list {P : Program} {w : World} {K : PySem.W.Frag} {h0 : PH} {H0 : Hp} {a : Addr} : Cor P w K h0 H0 (Itl K a) (ZitL a) := fun i h H st rh => by
  refine ⟨fun ⟨ps, p, e, e2⟩ => ?_, fun ⟨ps, e, hl⟩ => ?_, fun ⟨ps, p, e, e2⟩ x H' y => ?_⟩
  · obtain ⟨us, f1, l1, q1⟩ := rh a _ e
    obtain ⟨v, g1, g2⟩ := q1.get e2
    exact ⟨us, v, SqL.of f1, g1⟩
  · obtain ⟨us, f1, l1, q1⟩ := rh a _ e
    exact ⟨us, SqL.of f1, by rw [q1.length]; exact hl⟩
  · obtain ⟨rfl, y⟩ := y
    obtain ⟨us, f1, l1, q1⟩ := rh a _ e
    obtain ⟨v, g1, g2⟩ := q1.get e2
    have : x = v := Option.some.inj ((y us (SqL.of f1)).symm.trans g1)
    subst this
    exact ⟨p, fun xs ex => by rw [e] at ex; cases ex; exact e2, Stp.refl _ _, g2, rh⟩
theorem cor_keys {P : Program} {w : World} {K : PySem.W.Frag} {h0 : PH} {H0 : Hp} {a : Addr} {o : Obj} {ds : List (Key × V)} {kvs : List (PV × PV)} (r : Paired (EntK K H0) kvs ds) : Cor P w K h0 H0 (Itk a o ds) (ZitK a false (o, .dK ds) kvs) := fun i h H st rh => by
  have hl := paired_len r
  have at_ : h a = some (.dic false (some (o, .dK ds)) kvs) → H a = some (.frz o (.dK ds)) := fun e => by
    obtain ⟨ds', f1, _⟩ := rh a _ e
    obtain ⟨f1, f2⟩ := f1
    cases f1
    exact f2
  refine ⟨fun ⟨e, e2⟩ => ⟨at_ e, by omega⟩, fun ⟨e, e2⟩ => ⟨at_ e, by omega⟩, fun ⟨e, e2⟩ x H' y => ?_⟩
  obtain ⟨rfl, k, v, y1, rfl⟩ := y
  obtain ⟨kv, f1, f2⟩ : ∃ kv, kvs[i]? = some kv ∧ EntK K H0 kv (k, v) := by
    have hlt : i < kvs.length := e2
    obtain ⟨b, g1, g2⟩ := paired_get r (List.getElem?_eq_getElem hlt)
    rw [y1] at g1; cases g1
    exact ⟨_, List.getElem?_eq_getElem hlt, g2⟩
  refine ⟨kv.1, ⟨kv, f1, rfl⟩, Stp.refl _ _, ?_, rh⟩
  have e3 : kv.1 = kP k := f2.1
  rw [e3]
  cases k with
  | inl i => exact .int i
  | inr z => have := RV.str (K := K) (H := H') z.cps.toList; rw [tS_of] at this; exact this
theorem qi_any (he : QE X e te) : QI X tg e (zsAny te) :=
  piI (pi_anyV he) fun σ H R ⟨ρ, h, Rz, rs, rh, t, k⟩ => ⟨ρ, h, _, rs, rh, t, fun p h1 t1 v H1 s1 r1 rh1 => by
    cases p <;> first | (exact False.elim t1) | skip
    case tup ps =>
      cases r1 with
      | tup s l q => exact ⟨_, rfl, .inr (.inl ⟨_, s, k _ _ t1 _ _ s1 rh1 (cor_tup' rh1 s q)⟩)⟩
    case ref a =>
      simp only at t1
      cases r1
      split at t1
      · rename_i xs ea
        obtain ⟨us, f1, l1, q1⟩ := rh1 a _ ea
        exact ⟨a, rfl, .inl ⟨us, SqL.of f1, k _ _ t1 _ _ s1 rh1 cor_list⟩⟩
      · rename_i lk kvs ea
        obtain ⟨ds, f1, l1, q1⟩ := rh1 a _ ea
        obtain ⟨o, u⟩ := lk
        obtain ⟨f1, f2⟩ := f1
        subst f1
        exact ⟨a, rfl, .inr (.inr ⟨o, ds, f2, k _ _ t1 _ _ s1 rh1 (cor_keys q1)⟩)⟩
      · exact False.elim t1⟩
def zsR1 (ta : ZA) : ZSrc := fun ρ h R => ta ρ h fun ps h1 => match ps with
  | [.int j] => -(2 ^ 62) ≤ j ∧ j < 2 ^ 62 ∧ R (ZitR 0 j.toNat) h1
  | _ => False
def zsR2 (ta : ZA) : ZSrc := fun ρ h R => ta ρ h fun ps h1 => match ps with
  | [.int i, .int j] => (-(2 ^ 62) ≤ i ∧ i < 2 ^ 62 ∧ -(2 ^ 62) ≤ j ∧ j < 2 ^ 62) ∧ R (ZitR i (j - i).toNat) h1
  | _ => False
theorem cor_rng {P : Program} {w : World} {K : PySem.W.Frag} {h0 : PH} {H0 : Hp} {lo : Int} {n : Nat} : Cor P w K h0 H0 (Itr lo n) (ZitR lo n) := fun i h H st rh =>
  ⟨fun g => g, fun g => g, fun g x H' ⟨y1, y2⟩ => by subst y1; subst y2; exact ⟨_, rfl, Stp.refl _ _, .int _, rh⟩⟩
theorem qi_r1 {p : Pos} (hg : Gl X "range") (hm : X.mg "range" = none) (ha : QA X [a] ta) (hs : starEach [a] X.env = [(false, eval a X.env)]) : QI X tg (.Call (.Name "range" p) [a] [] pos) (zsR1 ta) :=
  piI (pi_range1 hg hm ha hs) fun σ H R ⟨ρ, h, Rz, rs, rh, t, k⟩ => ⟨ρ, h, _, rs, rh, t, fun ps h1 t1 vs H1 s1 r1 rh1 => by
    split at t1
    · obtain ⟨v, rfl, q⟩ := rvs_one r1
      cases q
      exact ⟨_, rfl, t1.1, t1.2.1, k _ _ t1.2.2 _ _ s1 rh1 cor_rng⟩
    · exact False.elim t1⟩
theorem qi_r2 {p : Pos} (hg : Gl X "range") (hm : X.mg "range" = none) (ha : QA X [a, b] ta) (hs : starEach [a, b] X.env = [(false, eval a X.env), (false, eval b X.env)]) (hs2 : starEach [b] X.env = [(false, eval b X.env)]) : QI X tg (.Call (.Name "range" p) [a, b] [] pos) (zsR2 ta) :=
  piI (pi_range2 hg hm ha hs hs2) fun σ H R ⟨ρ, h, Rz, rs, rh, t, k⟩ => ⟨ρ, h, _, rs, rh, t, fun ps h1 t1 vs H1 s1 r1 rh1 => by
    split at t1
    · obtain ⟨v, u, rfl, q, q2⟩ := rvs_two r1
      cases q; cases q2
      exact ⟨_, _, rfl, t1.1, k _ _ t1.2 _ _ s1 rh1 cor_rng⟩
    · exact False.elim t1⟩
/-! ### for -/
def zFor (wz : ZSrc) (g : ZG) (tb : ZS) : ZS := fun D ρ h => wz ρ h fun Z h1 => ∃ W : Nat → Nat → Ev → PH → Prop, (∃ m, W 0 m ρ h1) ∧ ∀ i m ρ h, W i m ρ h →
  (Z.stop i h ∧ D.nx ρ h) ∨ (Z.go i h ∧ ∃ N : Ev → PH → Prop, (∀ ρ' h', N ρ' h' → ∃ m' h2, m' < m ∧ Sub h2 h' ∧ W (i + 1) m' ρ' h2) ∧ ∀ p, Z.yld i h p → g p ρ h fun ρ2 h2 => tb { D with nx := N, ct := N, bk := D.nx } ρ2 h2)
theorem qs_for {iter : Expr} {body : List Stmt} {wz : ZSrc} {g : ZG} {tb : ZS} (hp : PassesOwn (model X.prog X.w) X.A X.env X.xe) (hc : X.calm = true) (hi : QI X tg iter wz) (hg : QG X tg g) (hb : QSs X body tb) (hs : ∀ x, foldedSetIterable iter X.env x = pure x) :
    QS X (.For tg iter body [] pos) (zFor wz g tb) := psI (ps_for hp hc hi hg hb hs) fun D σ H ⟨ρ, h, Zd, rs, rh, t, k⟩ => ⟨ρ, h, _, rs, rh, t, fun Z h1 t1 J H1 s1 rh1 cor => by
  obtain ⟨W, ⟨m0, w0⟩, turn⟩ := t1
  refine ⟨fun i m σ' H' => ∃ ρ' h', RS X.K H' σ' ρ' ∧ RH X.prog X.w X.K H' h' ∧ Stp h1 H1 h' H' ∧ W i m ρ' h', ⟨m0, ρ, h1, rs.stp rh s1, rh1, Stp.refl _ _, w0⟩, ?_⟩
  rintro i m σ2 H2 ⟨ρ2, h2, rs2, rh2, s2, w2⟩
  obtain ⟨c1, c2, c3⟩ := cor i h2 H2 s2 rh2
  rcases turn i m ρ2 h2 w2 with ⟨st, q⟩ | ⟨go, N, hN, step⟩
  · exact .inl ⟨c2 st, k.nx _ _ q _ _ (s1.trans s2) rs2 rh2⟩
  · refine .inr ⟨c1 go, fun σ' H' => ∃ ρ' h', RS X.K H' σ' ρ' ∧ RH X.prog X.w X.K H' h' ∧ Stp h1 H1 h' H' ∧ N ρ' h', ?_, fun x H3 y => ?_⟩
    · rintro σ' H' ⟨ρ', h', rs', rh', s', n'⟩
      obtain ⟨m', h3, hm, u, w'⟩ := hN ρ' h' n'
      exact ⟨m', hm, ρ', h3, rs', rh'.sub u, stp_sub s' u, w'⟩
    · obtain ⟨p, y1, s3, rx, rh3⟩ := c3 go x H3 y
      have s123 := (s1.trans s2).trans s3
      refine ⟨p, ρ2, h2, _, rx, rs2.stp rh2 s3, rh3, step p y1, fun ρ4 h4 q4 σ4 H4 s4 rs4 rh4 => ⟨ρ4, h4, _, rs4, rh4, q4, ?_⟩⟩
      have sA := s123.trans s4
      have sB := (s2.trans s3).trans s4
      have nn : ThnS X.prog X.w X.K h4 H4 N (fun σ' H' => ∃ ρ' h', RS X.K H' σ' ρ' ∧ RH X.prog X.w X.K H' h' ∧ Stp h1 H1 h' H' ∧ N ρ' h') := fun ρ' h' q σ' H' s rs' rh' => ⟨ρ', h', rs', rh', sB.trans s, q⟩
      exact ⟨nn, k.rt.later sA, k.nx.later sA, nn⟩⟩
/-- the loop over what is known ahead, turn by turn -/
def forV (g : ZG) (tb : ZS) (D : ZEnds) : List PV → Ev → PH → Prop
  | [], ρ, h => D.nx ρ h
  | p :: ps, ρ, h => g p ρ h fun ρ2 h2 => tb { D with nx := fun ρ' h' => ∃ h2, Sub h2 h' ∧ forV g tb D ps ρ' h2, ct := fun ρ' h' => ∃ h2, Sub h2 h' ∧ forV g tb D ps ρ' h2, bk := D.nx } ρ2 h2
theorem for_vals {g : ZG} {tb : ZS} {D : ZEnds} {ps : List PV} {ρ : Ev} {h : PH} (x : forV g tb D ps ρ h) :
    ∃ W : Nat → Nat → Ev → PH → Prop, (∃ m, W 0 m ρ h) ∧ ∀ i m ρ h, W i m ρ h → ((ZitV ps).stop i h ∧ D.nx ρ h) ∨ ((ZitV ps).go i h ∧ ∃ N : Ev → PH → Prop, (∀ ρ' h', N ρ' h' → ∃ m' h2, m' < m ∧ Sub h2 h' ∧ W (i + 1) m' ρ' h2) ∧
      ∀ p, (ZitV ps).yld i h p → g p ρ h fun ρ2 h2 => tb { D with nx := N, ct := N, bk := D.nx } ρ2 h2) := by
  refine ⟨fun i m ρ h => m = ps.length - i ∧ i ≤ ps.length ∧ forV g tb D (ps.drop i) ρ h, ⟨ps.length, by simp, Nat.zero_le _, x⟩, ?_⟩
  rintro i m ρ h ⟨rfl, hi, q⟩
  by_cases hlt : i < ps.length
  · refine .inr ⟨hlt, fun ρ' h' => ∃ h2, Sub h2 h' ∧ forV g tb D (ps.drop (i + 1)) ρ' h2, fun ρ' h' ⟨h2, u, n⟩ => ⟨ps.length - (i + 1), h2, by omega, u, rfl, hlt, n⟩, fun p y => ?_⟩
    have e : ps[i]? = some p := y
    rw [List.drop_eq_getElem_cons hlt] at q
    rw [List.getElem?_eq_getElem hlt] at e
    cases e
    exact q
  · have e : i = ps.length := by omega
    subst e
    rw [List.drop_length] at q
    exact .inl ⟨Nat.le_refl _, q⟩
/-- .. over a range -/
theorem for_rng {g : ZG} {tb : ZS} {D : ZEnds} {lo : Int} {n : Nat} {ρ : Ev} {h : PH} (x : forV g tb D ((List.range n).map fun i : Nat => PV.int (lo + (i : Int))) ρ h) :
    ∃ W : Nat → Nat → Ev → PH → Prop, (∃ m, W 0 m ρ h) ∧ ∀ i m ρ h, W i m ρ h → ((ZitR lo n).stop i h ∧ D.nx ρ h) ∨ ((ZitR lo n).go i h ∧ ∃ N : Ev → PH → Prop, (∀ ρ' h', N ρ' h' → ∃ m' h2, m' < m ∧ Sub h2 h' ∧ W (i + 1) m' ρ' h2) ∧
      ∀ p, (ZitR lo n).yld i h p → g p ρ h fun ρ2 h2 => tb { D with nx := N, ct := N, bk := D.nx } ρ2 h2) := by
  obtain ⟨W, w0, turn⟩ := for_vals x
  refine ⟨W, w0, fun i m ρ h w => ?_⟩
  rcases turn i m ρ h w with ⟨a, b⟩ | ⟨a, N, b, c⟩
  · exact .inl ⟨by simpa [ZitV, ZitR] using a, b⟩
  · have a' : i < n := by simpa [ZitV] using a
    exact .inr ⟨a', N, b, fun p y => c p (by
      have y' : p = .int (lo + i) := y
      subst y'
      simp [ZitV, a'])⟩
/-- .. over a list that the body leaves as it is: it is asked at each turn -/
def forL (g : ZG) (tb : ZS) (D : ZEnds) (a : Addr) (all : List PV) : List PV → Ev → PH → Prop
  | [], ρ, h => h a = some (.lst all) ∧ D.nx ρ h
  | p :: ps, ρ, h => h a = some (.lst all) ∧ g p ρ h fun ρ2 h2 => tb { D with nx := fun ρ' h' => ∃ h2, Sub h2 h' ∧ forL g tb D a all ps ρ' h2, ct := fun ρ' h' => ∃ h2, Sub h2 h' ∧ forL g tb D a all ps ρ' h2, bk := D.nx } ρ2 h2
theorem for_list {g : ZG} {tb : ZS} {D : ZEnds} {a : Addr} {ps : List PV} {ρ : Ev} {h : PH} (x : forL g tb D a ps ps ρ h) :
    ∃ W : Nat → Nat → Ev → PH → Prop, (∃ m, W 0 m ρ h) ∧ ∀ i m ρ h, W i m ρ h → ((ZitL a).stop i h ∧ D.nx ρ h) ∨ ((ZitL a).go i h ∧ ∃ N : Ev → PH → Prop, (∀ ρ' h', N ρ' h' → ∃ m' h2, m' < m ∧ Sub h2 h' ∧ W (i + 1) m' ρ' h2) ∧
      ∀ p, (ZitL a).yld i h p → g p ρ h fun ρ2 h2 => tb { D with nx := N, ct := N, bk := D.nx } ρ2 h2) := by
  refine ⟨fun i m ρ h => m = ps.length - i ∧ i ≤ ps.length ∧ forL g tb D a ps (ps.drop i) ρ h, ⟨ps.length, by simp, Nat.zero_le _, x⟩, ?_⟩
  rintro i m ρ h ⟨rfl, hi, q⟩
  by_cases hlt : i < ps.length
  · rw [List.drop_eq_getElem_cons hlt] at q
    refine .inr ⟨⟨ps, _, q.1, List.getElem?_eq_getElem hlt⟩, fun ρ' h' => ∃ h2, Sub h2 h' ∧ forL g tb D a ps (ps.drop (i + 1)) ρ' h2, fun ρ' h' ⟨h2, u, n⟩ => ⟨ps.length - (i + 1), h2, by omega, u, rfl, hlt, n⟩, fun p y => ?_⟩
    have e := y ps q.1
    rw [List.getElem?_eq_getElem hlt] at e
    cases e
    exact q.2
  · have e : i = ps.length := by omega
    subst e
    rw [List.drop_length] at q
    exact .inl ⟨⟨ps, q.1, Nat.le_refl _⟩, q.2⟩
/-- .. over the keys of a locked dict -/
def forK (g : ZG) (tb : ZS) (D : ZEnds) (a : Addr) (o : PO) : List PV → Ev → PH → Prop
  | [], ρ, h => h a = some o ∧ D.nx ρ h
  | p :: ps, ρ, h => h a = some o ∧ g p ρ h fun ρ2 h2 => tb { D with nx := fun ρ' h' => ∃ h2, Sub h2 h' ∧ forK g tb D a o ps ρ' h2, ct := fun ρ' h' => ∃ h2, Sub h2 h' ∧ forK g tb D a o ps ρ' h2, bk := D.nx } ρ2 h2
theorem for_keys {g : ZG} {tb : ZS} {D : ZEnds} {a : Addr} {t : Bool} {lk : Obj × HO} {kvs : List (PV × PV)} {ρ : Ev} {h : PH} (x : forK g tb D a (.dic t (some lk) kvs) (kvs.map Prod.fst) ρ h) :
    ∃ W : Nat → Nat → Ev → PH → Prop, (∃ m, W 0 m ρ h) ∧ ∀ i m ρ h, W i m ρ h → ((ZitK a t lk kvs).stop i h ∧ D.nx ρ h) ∨ ((ZitK a t lk kvs).go i h ∧ ∃ N : Ev → PH → Prop, (∀ ρ' h', N ρ' h' → ∃ m' h2, m' < m ∧ Sub h2 h' ∧ W (i + 1) m' ρ' h2) ∧
      ∀ p, (ZitK a t lk kvs).yld i h p → g p ρ h fun ρ2 h2 => tb { D with nx := N, ct := N, bk := D.nx } ρ2 h2) := by
  refine ⟨fun i m ρ h => m = kvs.length - i ∧ i ≤ kvs.length ∧ forK g tb D a (.dic t (some lk) kvs) ((kvs.map Prod.fst).drop i) ρ h, ⟨kvs.length, by simp, Nat.zero_le _, x⟩, ?_⟩
  rintro i m ρ h ⟨rfl, hi, q⟩
  by_cases hlt : i < kvs.length
  · have hlt' : i < (kvs.map Prod.fst).length := by simpa using hlt
    rw [List.drop_eq_getElem_cons hlt'] at q
    refine .inr ⟨⟨q.1, hlt⟩, fun ρ' h' => ∃ h2, Sub h2 h' ∧ forK g tb D a (.dic t (some lk) kvs) ((kvs.map Prod.fst).drop (i + 1)) ρ' h2, fun ρ' h' ⟨h2, u, n⟩ => ⟨kvs.length - (i + 1), h2, by omega, u, rfl, hlt, n⟩, fun p y => ?_⟩
    obtain ⟨kv, e, rfl⟩ := y
    rw [List.getElem?_eq_getElem hlt] at e
    cases e
    have q2 := q.2
    rw [List.getElem_map] at q2
    exact q2
  · have e : i = kvs.length := by omega
    subst e
    rw [List.drop_of_length_le (by simp)] at q
    exact .inl ⟨⟨q.1, Nat.le_refl _⟩, q.2⟩
/-! ### locks -/
def zLock (t : ZS) : ZS := fun D ρ h => ∃ a tt kvs, h a = some (.dic tt none kvs) ∧ ∀ lk, t ⟨fun ρ' h' => h' a = some (.dic tt (some lk) kvs) ∧ D.nx ρ' (up h' a (.dic tt none kvs)), fun v h' => h' a = some (.dic tt (some lk) kvs) ∧ D.rt v (up h' a (.dic tt none kvs)),
  fun ρ' h' => h' a = some (.dic tt (some lk) kvs) ∧ D.bk ρ' (up h' a (.dic tt none kvs)), fun ρ' h' => h' a = some (.dic tt (some lk) kvs) ∧ D.ct ρ' (up h' a (.dic tt none kvs))⟩ ρ (up h a (.dic tt (some lk) kvs))
theorem lk_of {P : Program} {w : World} {K : PySem.W.Frag} {h : PH} {H : Hp} {a : Addr} {t : Bool} {kvs : List (PV × PV)} (rh : RH P w K H h) (e : h a = some (.dic t none kvs)) : ∃ u, H a = some u ∧ Mut (some u) ∧ ∀ od, RO P w K (upd H a (.frz od u)) a (.dic t (some (od, u)) kvs) ∧ Stp h H (up h a (.dic t (some (od, u)) kvs)) (upd H a (.frz od u)) := by
  cases t with
  | false =>
    obtain ⟨ds, f1, l1, r⟩ := rh a _ e
    refine ⟨.dK ds, f1, trivial, fun od => ?_⟩
    have st : Stp h H (up h a (.dic false (some (od, .dK ds)) kvs)) (upd H a (.frz od (.dK ds))) := stp_set e
    exact ⟨⟨ds, ⟨rfl, upd_same⟩, l1, Paired.mapP r fun _ _ q => ⟨q.1, q.2.stp rh st⟩⟩, st⟩
  | true =>
    obtain ⟨ds, f1, l1, r⟩ := rh a _ e
    refine ⟨.ext (dphi P w a ds), f1, trivial, fun od => ?_⟩
    have st : Stp h H (up h a (.dic true (some (od, .ext (dphi P w a ds))) kvs)) (upd H a (.frz od (.ext (dphi P w a ds)))) := stp_set e
    exact ⟨⟨ds, ⟨rfl, upd_same⟩, l1, Paired.mapP r fun _ _ ⟨c1, c2, c3, v', c4, c5⟩ => ⟨c1, c2, c3.stp rh st, v', c4, c5.stp rh st⟩⟩, st⟩
theorem unlk_of {P : Program} {w : World} {K : PySem.W.Frag} {h : PH} {H : Hp} {a : Addr} {t : Bool} {od : Obj} {u : HO} {kvs : List (PV × PV)} (rh : RH P w K H h) (e : h a = some (.dic t (some (od, u)) kvs)) :
    H a = some (.frz od u) ∧ Stp h H (up h a (.dic t none kvs)) (upd H a u) ∧ RH P w K (upd H a u) (up h a (.dic t none kvs)) := by
  have st : Stp h H (up h a (.dic t none kvs)) (upd H a u) := stp_set e
  cases t with
  | false =>
    obtain ⟨ds, ⟨f1, f2⟩, l1, r⟩ := rh a _ e
    subst f1
    exact ⟨f2, st, rh.put st ⟨ds, upd_same, l1, Paired.mapP r fun _ _ q => ⟨q.1, q.2.stp rh st⟩⟩⟩
  | true =>
    obtain ⟨ds, ⟨f1, f2⟩, l1, r⟩ := rh a _ e
    subst f1
    exact ⟨f2, st, rh.put st ⟨ds, upd_same, l1, Paired.mapP r fun _ _ ⟨c1, c2, c3, v', c4, c5⟩ => ⟨c1, c2, c3.stp rh st, v', c4, c5.stp rh st⟩⟩⟩
theorem qs_lock {st : Stmt} {t : ZS} (hs : QS X st t) : QS X st (zLock t) := psI (ps_lock hs) fun D σ H ⟨ρ, h, Z, rs, rh, ⟨a, tt, kvs, e, q⟩, k⟩ => by
  obtain ⟨u, e1, mu, ro⟩ := lk_of rh e
  refine ⟨a, u, e1, mu, fun od => ?_⟩
  obtain ⟨ro, s0⟩ := ro od
  have rh0 := rh.put s0 ro
  refine ⟨ρ, _, _, rs.stp rh s0, rh0, q (od, u), ⟨fun ρ' h' n σ' H' s rs' rh' => ?_, fun p h' n v H' s r' rh' => ?_, fun ρ' h' n σ' H' s rs' rh' => ?_, fun ρ' h' n σ' H' s rs' rh' => ?_⟩⟩
  · obtain ⟨n1, n2⟩ := n
    obtain ⟨g1, g2, g3⟩ := unlk_of rh' n1
    exact ⟨g1, k.nx _ _ n2 _ _ ((s0.trans s).trans g2) (rs'.stp rh' g2) g3⟩
  · obtain ⟨n1, n2⟩ := n
    obtain ⟨g1, g2, g3⟩ := unlk_of rh' n1
    exact ⟨g1, k.rt _ _ n2 _ _ ((s0.trans s).trans g2) (r'.stp rh' g2) g3⟩
  · obtain ⟨n1, n2⟩ := n
    obtain ⟨g1, g2, g3⟩ := unlk_of rh' n1
    exact ⟨g1, k.bk _ _ n2 _ _ ((s0.trans s).trans g2) (rs'.stp rh' g2) g3⟩
  · obtain ⟨n1, n2⟩ := n
    obtain ⟨g1, g2, g3⟩ := unlk_of rh' n1
    exact ⟨g1, k.ct _ _ n2 _ _ ((s0.trans s).trans g2) (rs'.stp rh' g2) g3⟩
def zLockE (t : ZE) : ZE := fun ρ h Q => ∃ a tt kvs, h a = some (.dic tt none kvs) ∧ ∀ lk, t ρ (up h a (.dic tt (some lk) kvs)) fun v h' => h' a = some (.dic tt (some lk) kvs) ∧ Q v (up h' a (.dic tt none kvs))
theorem qe_lock {e : Expr} {t : ZE} (hs : QE X e t) : QE X e (zLockE t) := peI (pe_lock hs) fun σ H Q ⟨ρ, h, Qp, rs, rh, ⟨a, tt, kvs, e, q⟩, k⟩ => by
  obtain ⟨u, e1, mu, ro⟩ := lk_of rh e
  refine ⟨a, u, e1, mu, fun od => ?_⟩
  obtain ⟨ro, s0⟩ := ro od
  have rh0 := rh.put s0 ro
  refine ⟨ρ, _, _, rs.stp rh s0, rh0, q (od, u), fun p h' n v H' s r' rh' => ?_⟩
  obtain ⟨n1, n2⟩ := n
  obtain ⟨g1, g2, g3⟩ := unlk_of rh' n1
  exact ⟨g1, k _ _ n2 _ _ ((s0.trans s).trans g2) (r'.stp rh' g2) g3⟩
end
end G

namespace G
open PySem PySem.Spec PyProof.Rows L2

/-! ### targets of loops: names, tuples of targets -/
mutual
inductive Tg where
  | nm (i : Nat)
  | tp (ts : Tgs)
inductive Tgs where
  | nil
  | cons (t : Tg) (ts : Tgs)
end
def Tgs.len : Tgs → Nat
  | .nil => 0
  | .cons _ ts => ts.len + 1
mutual
def Tg.z : Tg → ZG
  | .nm i => zgName i
  | .tp ts => zgTup ts.len (Tgs.z ts)
def Tgs.z : Tgs → ZGs
  | .nil => zgNil
  | .cons t ts => zgCons (Tg.z t) (Tgs.z ts)
end
mutual
def Tg.t (K : PySem.W.Frag) : Tg → TG
  | .nm i => gName i
  | .tp ts => gTup K ts.len (Tgs.t K ts)
def Tgs.t (K : PySem.W.Frag) : Tgs → TGs
  | .nil => gNil
  | .cons t ts => gCons (Tg.t K t) (Tgs.t K ts)
end
mutual
def Tg.slots : Tg → List Nat
  | .nm i => [i]
  | .tp ts => Tgs.slots ts
def Tgs.slots : Tgs → List Nat
  | .nil => []
  | .cons t ts => Tg.slots t ++ Tgs.slots ts
end
def zwipe (ρ : Ev) : List Nat → Ev
  | [] => ρ
  | v :: vs => (zwipe ρ vs).set v none
theorem wipe_set {i : Nat} {x : Option V} : ∀ {vs : List Nat} {σ : L2.St}, i ∈ vs → wipe (σ.set i x) vs = wipe σ vs
  | [], _, h => by cases h
  | v :: vs, σ, h => by
    simp only [wipe]
    by_cases hv : i ∈ vs
    · rw [wipe_set hv]
    · rcases List.mem_cons.mp h with rfl | h
      · have : ∀ (us : List Nat) (τ : L2.St), i ∉ us → wipe (τ.set i x) us = (wipe τ us).set i x := by
          intro us
          induction us with
          | nil => intro τ _; rfl
          | cons u us ih =>
            intro τ hn
            simp only [List.mem_cons, not_or] at hn
            simp only [wipe]
            rw [ih τ hn.2, List.set_comm _ _ hn.1]
        rw [this vs σ hv, List.set_set]
      · exact absurd h hv
section
variable {P : Program} {w : World} {K : PySem.W.Frag}
mutual
theorem Tg.ok : ∀ (t : Tg) {v : V} {p : PV} {σ : L2.St} {ρ : Ev} {H : Hp} {h : PH} {Qz : Ev → PH → Prop} {Q : L2.St → Hp → Prop} {vs : List Nat}, (∀ i ∈ t.slots, i ∈ vs) → RV K H v p → RS K H σ ρ → RH P w K H h → t.z p ρ h Qz →
    (∀ ρ' h', Qz ρ' h' → ∀ σ', RS K H σ' ρ' → wipe σ' vs = wipe σ vs → h' = h → Q σ' H) → t.t K v σ H Q
  | .nm i, v, p, σ, ρ, H, h, Qz, Q, vs, hs, rv, rs, rh, z, k => k _ _ z _ (rs.set rv i) (wipe_set (hs i (by simp [Tg.slots]))) rfl
  | .tp ts, v, p, σ, ρ, H, h, Qz, Q, vs, hs, rv, rs, rh, z, k => by
    simp only [Tg.z] at z
    cases p <;> first | (exact False.elim z) | skip
    rename_i ps
    cases rv with
    | tup s l q => exact ⟨_, _, rfl, s, by rw [q.length]; exact z.1, Tgs.ok ts hs q rs rh z.2 k⟩
theorem Tgs.ok : ∀ (t : Tgs) {v : List V} {p : List PV} {σ : L2.St} {ρ : Ev} {H : Hp} {h : PH} {Qz : Ev → PH → Prop} {Q : L2.St → Hp → Prop} {vs : List Nat}, (∀ i ∈ t.slots, i ∈ vs) → RVs K H v p → RS K H σ ρ → RH P w K H h → t.z p ρ h Qz →
    (∀ ρ' h', Qz ρ' h' → ∀ σ', RS K H σ' ρ' → wipe σ' vs = wipe σ vs → h' = h → Q σ' H) → t.t K v σ H Q
  | .nil, v, p, σ, ρ, H, h, Qz, Q, vs, hs, rv, rs, rh, z, k => by
    simp only [Tgs.z, zgNil] at z
    obtain ⟨e, z⟩ := z
    subst e; cases rv
    exact ⟨rfl, k _ _ z _ rs rfl rfl⟩
  | .cons t ts, v, p, σ, ρ, H, h, Qz, Q, vs, hs, rv, rs, rh, z, k => by
    simp only [Tgs.z] at z
    cases rv with
    | nil => exact False.elim z
    | cons r1 r2 =>
      refine ⟨_, _, rfl, Tg.ok t (fun i hi => hs i (by simp [Tgs.slots, hi])) r1 rs rh z fun ρ' h' q' σ' rs' hw e => ?_⟩
      subst e
      refine Tgs.ok ts (fun i hi => hs i (by simp [Tgs.slots, hi])) r2 rs' rh q' fun ρ2 h2 q2 σ2 rs2 hw2 e2 => ?_
      exact k ρ2 h2 q2 σ2 rs2 (hw2.trans hw) e2
end
theorem RS.wipe {H : Hp} {σ : L2.St} {ρ : Ev} (rs : RS K H σ ρ) : ∀ vs : List Nat, RS K H (wipe σ vs) (zwipe ρ vs)
  | [] => rs
  | v :: vs => by
    have ih := RS.wipe rs vs
    simp only [L2.wipe, zwipe]
    refine ⟨by rw [List.length_set, List.length_set]; exact ih.1, fun i p e => ?_⟩
    by_cases hi : v = i
    · subst hi
      by_cases hl : v < (zwipe ρ vs).length
      · rw [List.getElem?_set_self hl] at e; cases e
      · rw [List.getElem?_eq_none (by simpa using hl)] at e; cases e
    · rw [List.getElem?_set_ne hi] at e
      obtain ⟨u, a, b⟩ := ih.2 i p e
      exact ⟨u, by rw [List.getElem?_set_ne hi]; exact a, b⟩
end
abbrev QTs (X : Cx) (ifs : List Expr) (t : ZT) : Prop := PTs X ifs (LT X.prog X.w X.K t)
def ztYes : ZT := fun _ h Q => Q true h
theorem qts_nil {X : Cx} : QTs X [] ztYes := ⟨fun pins s σ H Q I ⟨ρ, h, Qp, rs, rh, t, k⟩ => pts_nil.run pins s σ H Q I (k _ _ t H (Stp.refl _ _) rh)⟩
theorem qts_one {X : Cx} {c : Expr} {t : ZT} (h : QT X c t) : QTs X [c] t := pts_one h

/-! ### list comprehensions -/
def zLc (wz : ZSrc) (g : ZG) (tt : ZT) (te : ZE) (vs : List Nat) : ZE := fun ρ h Q => wz ρ h fun Z h1 => ∃ W : Nat → Nat → List PV → PH → Prop, (∃ m, W 0 m [] h1) ∧ ∀ i m acc h, W i m acc h →
  (Z.stop i h ∧ ∀ D, h D = none → Q (.ref D) (up h D (.lst acc))) ∨ (Z.go i h ∧ acc.length < sizeLine ∧ ∃ Nx : List PV → PH → Prop, (∀ acc' h', Nx acc' h' → ∃ m' h2, m' < m ∧ Sub h2 h' ∧ W (i + 1) m' acc' h2) ∧
    ∀ p, Z.yld i h p → g p (zwipe ρ vs) h fun ρ2 h2 => tt ρ2 h2 fun b h3 => if b = true then te ρ2 h3 fun y h4 => Nx (acc ++ [y]) h4 else Nx acc h3)
section
variable {X : Cx}
theorem sub_free {h h2 : PH} {D : Addr} (u : Sub h2 h) (n : h D = none) : h2 D = none := by
  cases e : h2 D with
  | none => rfl
  | some o => rw [u D o e] at n; cases n
theorem rh_hid {P : Program} {w : World} {K : PySem.W.Frag} {H : Hp} {h : PH} {D : Addr} {us : List V} {acc : List PV} (rh : RH P w K H h) (nD : h D = none) (e : H D = some (.lst us)) (ru : RVs K H us acc) (hl : us.length ≤ sizeLine) : RH P w K H (up h D (.lst acc)) := fun a v ea => by
  by_cases ha : a = D
  · subst ha; rw [up_same] at ea; cases ea; exact ⟨us, e, hl, ru⟩
  · rw [up_ne ha] at ea; exact rh a v ea
theorem rh_hid_put {P : Program} {w : World} {K : PySem.W.Frag} {H : Hp} {h : PH} {D : Addr} {us : List V} {acc : List PV} {o : HO} (rh : RH P w K H h) (nD : h D = none) (e : H D = some (.lst us)) (ru : RVs K H us acc) (hl : us.length ≤ sizeLine) : RH P w K (upd H D o) h := fun a v ea => by
  have ha : a ≠ D := fun z => by rw [z, nD] at ea; cases ea
  exact (rh a v ea).keep (rh_hid rh nD e ru hl) (stp_set (u := .lst []) up_same) (upd_ne ha)
/-- the heart: from the trees' reading to the values' -/
theorem le_lc {P : Program} {w : World} {K : PySem.W.Frag} {wz : ZSrc} {t : Tg} {tt : ZT} {te : ZE} {vs : List Nat} {σ : L2.St} {H : Hp} {Q : VK} (hv : ∀ i ∈ t.slots, i ∈ vs) (x : LE P w K (zLc wz t.z tt te vs) σ H Q) :
    tLc (LIs P w K wz) (t.t K) (LT P w K tt) (LE P w K te) vs σ H Q := by
  obtain ⟨ρ, h, Qp, rs, rh, x, k⟩ := x
  refine ⟨ρ, h, _, rs, rh, x, fun Z h1 t1 J H1 s1 rh1 cor D nD => ?_⟩
  obtain ⟨W, ⟨m0, w0⟩, turn⟩ := t1
  have nD1 : h1 D = none := rh1.free nD
  have sD : Stp h1 H1 h1 (upd H1 D (.lst [])) := stp_new0 nD
  -- what holds between turns
  refine ⟨fun i m H2 => ∃ acc us h2, RH P w K H2 h2 ∧ Stp h1 H1 h2 H2 ∧ h2 D = none ∧ H2 D = some (.lst us) ∧ RVs K H2 us acc ∧ us.length ≤ sizeLine ∧ W i m acc h2, ⟨m0, [], [], h1, rh1.new0 nD, sD, nD1, upd_same, .nil, Nat.zero_le _, w0⟩, ?_⟩
  rintro i m H2 ⟨acc, us, h2, rh2, s2, nD2, eD, ru, hl, w2⟩
  have s12 := s1.trans s2
  obtain ⟨c1, c2, c3⟩ := cor i h2 H2 s2 rh2
  rcases turn i m acc h2 w2 with ⟨st, q⟩ | ⟨go, hacc, Nx, hN, step⟩
  · refine .inl ⟨c2 st, ?_⟩
    have s3 : Stp h H (up h2 D (.lst acc)) H2 := fun b o e n => by
      obtain ⟨e1, n1⟩ := s1 b o e n
      obtain ⟨e2, n2⟩ := s2 b o e1 n1
      have hb : b ≠ D := fun z => by rw [z, nD] at e1; cases e1
      exact ⟨e2, by rw [up_ne hb]; exact n2⟩
    exact k _ _ (q D nD2) _ _ s3 (.ref D) (rh_hid rh2 nD2 eD ru hl)
  · refine .inr ⟨c1 go, fun H' => ∃ acc us h2, RH P w K H' h2 ∧ Stp h1 H1 h2 H' ∧ h2 D = none ∧ H' D = some (.lst us) ∧ RVs K H' us acc ∧ us.length ≤ sizeLine ∧ Nx acc h2, ?_, fun x H3 y => ?_⟩
    · rintro H' ⟨acc', us', h', rh', s', n', e', r', l', nx⟩
      obtain ⟨m', h3, hm, u, w'⟩ := hN acc' h' nx
      exact ⟨m', hm, acc', us', h3, rh'.sub u, stp_sub s' u, sub_free u n', e', r', l', w'⟩
    · obtain ⟨p, y1, s3, rx, rh3⟩ := c3 go x H3 y
      have rs3 := ((rs.stp rh s1).stp rh1 s2).stp rh2 s3
      obtain ⟨eD3, _⟩ := s3 D _ eD nD2
      have ru3 := ru.stp rh2 s3
      refine Tg.ok t hv rx (rs3.wipe vs) rh3 (step p y1) fun ρ4 h4 q4 σ4 rs4 hw e4 => ?_
      subst e4
      refine ⟨?_, ρ4, _, _, rs4, rh3, q4, fun b h5 q5 H5 s5 rh5 => ?_⟩
      · rw [hw]
        have idem : ∀ (us : List Nat) (τ : L2.St), wipe (wipe τ us) us = wipe τ us := by
          intro us
          induction us with
          | nil => intro τ; rfl
          | cons u us ih =>
            intro τ
            simp only [wipe]
            by_cases hu : u ∈ us
            · rw [wipe_set hu, ih]
            · have : ∀ (ws : List Nat) (τ : L2.St), u ∉ ws → wipe (τ.set u none) ws = (wipe τ ws).set u none := by
                intro ws
                induction ws with
                | nil => intro τ _; rfl
                | cons z ws ih2 =>
                  intro τ hn
                  simp only [List.mem_cons, not_or] at hn
                  simp only [wipe]
                  rw [ih2 τ hn.2, List.set_comm _ _ hn.1]
              rw [this us _ hu, ih, List.set_set]
        exact idem vs σ
      · obtain ⟨eD5, nD5⟩ := s5 D _ eD3 nD2
        have s125 := (s2.trans s3).trans s5
        cases b with
        | false =>
          rw [if_neg Bool.false_ne_true] at q5 ⊢
          exact ⟨acc, us, h5, rh5, s125, nD5, eD5, ru3.stp rh3 s5, hl, q5⟩
        | true =>
          rw [if_pos rfl] at q5 ⊢
          refine ⟨ρ4, h5, _, rs4.stp rh3 s5, rh5, q5, fun yv h6 q6 v6 H6 s6 r6 rh6 => ?_⟩
          obtain ⟨eD6, nD6⟩ := s6 D _ eD5 nD5
          have hlen : us.length < sizeLine := by rw [ru.length]; exact hacc
          have ru6 := (ru3.stp rh3 s5).stp rh5 s6
          have nD1' : H1 D = none := nD
          refine ⟨us, eD6, hlen, acc ++ [yv], us ++ [v6], h6, rh_hid_put rh6 nD6 eD6 ru6 hl, fun b o e n => ?_, nD6, upd_same, ?_, by rw [List.length_append, List.length_singleton]; omega, q6⟩
          · obtain ⟨e1, n1⟩ := (s125.trans s6) b o e n
            have hb : b ≠ D := fun z => by rw [z, nD1'] at e; cases e
            exact ⟨by rw [upd_ne hb]; exact e1, n1⟩
          · exact (ru6.append (.cons r6 .nil)).stp (rh_hid rh6 nD6 eD6 ru6 hl) (stp_set (u := .lst []) up_same)
end
end G

namespace G
open PySem PySem.Spec PyProof.Rows L2
section
variable {X : Cx}
theorem peI' {X : Cx} {e : Expr} {t t' : TE} (h : PE X e t) (i : ∀ σ H Q, t' σ H Q → t σ H Q) : PE X e t' := peI h i
variable {elt kx vx tg iter : Expr} {ifs : List Expr} {scope : Scope} {own : List (Str × Nat)} {pos spos : Pos} {wz : ZSrc} {t : Tg} {tt : ZT} {te tk tv : ZE}
/-- within the block -/
abbrev InB (X : Cx) (scope : Scope) (M : Cx → Prop) : Prop := ∀ (s : Shared) (H : Hp) (C : Addr) (cl : List (Str × Addr)) (fp : List Addr), M (X.blk s H scope (compEnvC scope cl C X.env) fp)
theorem qe_lc (hc : X.calm = true) (hN : X.N.Nodup) (hi : QI X tg iter wz) (ok : blkC X.N X.env.scope scope own = true) (hv : (t.slots.all fun i => (own.map (·.2)).contains i) = true)
    (hg : InB X scope fun Y => PG Y tg (t.t X.K)) (ht : InB X scope fun Y => QTs Y ifs tt) (he : InB X scope fun Y => QE Y elt te) (hs : ∀ x, foldedSetIterable iter X.env x = pure x) :
    QE X (.ListComp elt [⟨tg, iter, ifs, 0⟩] scope pos) (zLc wz t.z tt te (own.map (·.2))) := by
  have hv' : ∀ i ∈ t.slots, i ∈ own.map (·.2) := fun i hi => by simpa using List.all_eq_true.mp hv i hi
  exact peI (pe_lc (wi := LIs X.prog X.w X.K wz) (g := t.t X.K) (tt := LT X.prog X.w X.K tt) (te := LE X.prog X.w X.K te) hc hN hi (blkOk_by ok) hg ht he hs) fun σ H Q x => le_lc hv' x
theorem le_asg {P : Program} {w : World} {K : PySem.W.Frag} {te : ZE} {i : Nat} {D : Ends} {σ : L2.St} {H : Hp} (x : LS P w K (zAsg te (zgName i)) D σ H) : LE P w K te σ H fun v H1 => D.nx (σ.set i (some v)) H1 := by
  obtain ⟨ρ, h, Z, rs, rh, t, k⟩ := x
  exact ⟨ρ, h, _, rs, rh, t, fun p h1 t1 v H1 s1 r1 rh1 => k.nx _ _ t1 _ _ s1 ((rs.stp rh s1).set r1 i) rh1⟩
theorem qs_setLc {i : Nat} {y : Str} {py : Pos} (hc : X.calm = true) (hN : X.N.Nodup) (hy : X.N[i]? = some y) (hyl : X.env.scope.names.lookup y = some .local)
    (hsw : swapsWith (.ListComp elt [⟨tg, iter, ifs, 0⟩] scope pos) (some (.Name y py)) spos.line X.env = pure true)
    (hi : QI X tg iter wz) (ok : blkC X.N X.env.scope scope own = true) (hv : (t.slots.all fun i => (own.map (·.2)).contains i) = true)
    (hg : InB X scope fun Y => PG Y tg (t.t X.K)) (ht : InB X scope fun Y => QTs Y ifs tt) (he : InB X scope fun Y => QE Y elt te) (hs : ∀ x, foldedSetIterable iter X.env x = pure x) :
    QS X (.Assign [.Name y py] (.ListComp elt [⟨tg, iter, ifs, 0⟩] scope pos) spos) (zAsg (zLc wz t.z tt te (own.map (·.2))) (zgName i)) := by
  have hv' : ∀ i ∈ t.slots, i ∈ own.map (·.2) := fun i hi => by simpa using List.all_eq_true.mp hv i hi
  exact psI (ps_setLc (i := i) (wi := LIs X.prog X.w X.K wz) (g := t.t X.K) (tt := LT X.prog X.w X.K tt) (te := LE X.prog X.w X.K te) hc hN hy hyl hsw hi (blkOk_by ok) hg ht he hs) fun D σ H x => le_lc hv' (le_asg x)

/-! ### dict comprehensions, the keys whole numbers or texts -/
def zDc (wz : ZSrc) (g : ZG) (tt : ZT) (tk tv : ZE) (vs : List Nat) : ZE := fun ρ h Q => wz ρ h fun Z h1 => ∃ W : Nat → Nat → List (PV × PV) → PH → Prop, (∃ m, W 0 m [] h1) ∧ ∀ i m acc h, W i m acc h →
  (Z.stop i h ∧ ∀ D, h D = none → Q (.ref D) (up h D (.dic false none acc))) ∨ (Z.go i h ∧ acc.length < sizeLine ∧ ∃ Nx : List (PV × PV) → PH → Prop, (∀ acc' h', Nx acc' h' → ∃ m' h2, m' < m ∧ Sub h2 h' ∧ W (i + 1) m' acc' h2) ∧
    ∀ p, Z.yld i h p → g p (zwipe ρ vs) h fun ρ2 h2 => tt ρ2 h2 fun b h3 => if b = true then tk ρ2 h3 fun y h4 => tv ρ2 h4 fun z h5 => y.leaf = true ∧ Nx (dput acc y z) h5 else Nx acc h3)
theorem wipe_idem (vs : List Nat) (τ : L2.St) : wipe (wipe τ vs) vs = wipe τ vs := by
  induction vs generalizing τ with
  | nil => rfl
  | cons u us ih =>
    simp only [wipe]
    by_cases hu : u ∈ us
    · rw [wipe_set hu, ih]
    · have : ∀ (ws : List Nat) (τ : L2.St), u ∉ ws → wipe (τ.set u none) ws = (wipe τ ws).set u none := by
        intro ws
        induction ws with
        | nil => intro τ _; rfl
        | cons z ws ih2 =>
          intro τ hn
          simp only [List.mem_cons, not_or] at hn
          simp only [wipe]
          rw [ih2 τ hn.2, List.set_comm _ _ hn.1]
      rw [this us _ hu, ih, List.set_set]
theorem rh_hidD {P : Program} {w : World} {K : PySem.W.Frag} {H : Hp} {h : PH} {D : Addr} {ds : List (Key × V)} {acc : List (PV × PV)} (rh : RH P w K H h) (nD : h D = none) (e : H D = some (.dK ds)) (ru : Paired (EntK K H) acc ds) (hl : acc.length ≤ sizeLine) : RH P w K H (up h D (.dic false none acc)) := fun a v ea => by
  by_cases ha : a = D
  · subst ha; rw [up_same] at ea; cases ea; exact ⟨ds, e, hl, ru⟩
  · rw [up_ne ha] at ea; exact rh a v ea
theorem rh_hidD_put {P : Program} {w : World} {K : PySem.W.Frag} {H : Hp} {h : PH} {D : Addr} {ds : List (Key × V)} {acc : List (PV × PV)} {o : HO} (rh : RH P w K H h) (nD : h D = none) (e : H D = some (.dK ds)) (ru : Paired (EntK K H) acc ds) (hl : acc.length ≤ sizeLine) : RH P w K (upd H D o) h := fun a v ea => by
  have ha : a ≠ D := fun z => by rw [z, nD] at ea; cases ea
  exact (rh a v ea).keep (rh_hidD rh nD e ru hl) (stp_set (u := .lst []) up_same) (upd_ne ha)
theorem ents_stp {P : Program} {w : World} {K : PySem.W.Frag} {h h' : PH} {H H' : Hp} (rh : RH P w K H h) (s : Stp h H h' H') {acc : List (PV × PV)} {ds : List (Key × V)} (r : Paired (EntK K H) acc ds) : Paired (EntK K H') acc ds :=
  Paired.mapP r fun _ _ z => ⟨z.1, z.2.stp rh s⟩
theorem le_dc {P : Program} {w : World} {K : PySem.W.Frag} {vs : List Nat} {σ : L2.St} {H : Hp} {Q : VK} (hv : ∀ i ∈ t.slots, i ∈ vs) (x : LE P w K (zDc wz t.z tt tk tv vs) σ H Q) :
    tDc (LIs P w K wz) (t.t K) (LT P w K tt) (LE P w K tk) (LE P w K tv) vs σ H Q := by
  obtain ⟨ρ, h, Qp, rs, rh, x, k⟩ := x
  refine ⟨ρ, h, _, rs, rh, x, fun Z h1 t1 J H1 s1 rh1 cor D nD => ?_⟩
  obtain ⟨W, ⟨m0, w0⟩, turn⟩ := t1
  have nD1 : h1 D = none := rh1.free nD
  have sD : Stp h1 H1 h1 (upd H1 D (.dK [])) := stp_new0 nD
  refine ⟨fun i m H2 => ∃ acc us h2, RH P w K H2 h2 ∧ Stp h1 H1 h2 H2 ∧ h2 D = none ∧ H2 D = some (.dK us) ∧ Paired (EntK K H2) acc us ∧ acc.length ≤ sizeLine ∧ W i m acc h2, ⟨m0, [], [], h1, rh1.new0 nD, sD, nD1, upd_same, .nil, Nat.zero_le _, w0⟩, ?_⟩
  rintro i m H2 ⟨acc, us, h2, rh2, s2, nD2, eD, ru, hl, w2⟩
  have s12 := s1.trans s2
  obtain ⟨c1, c2, c3⟩ := cor i h2 H2 s2 rh2
  rcases turn i m acc h2 w2 with ⟨st, q⟩ | ⟨go, hacc, Nx, hN, step⟩
  · refine .inl ⟨c2 st, ?_⟩
    have s3 : Stp h H (up h2 D (.dic false none acc)) H2 := fun b o e n => by
      obtain ⟨e1, n1⟩ := s1 b o e n
      obtain ⟨e2, n2⟩ := s2 b o e1 n1
      have hb : b ≠ D := fun z => by rw [z, nD] at e1; cases e1
      exact ⟨e2, by rw [up_ne hb]; exact n2⟩
    exact k _ _ (q D nD2) _ _ s3 (.ref D) (rh_hidD rh2 nD2 eD ru hl)
  · refine .inr ⟨c1 go, fun H' => ∃ acc us h2, RH P w K H' h2 ∧ Stp h1 H1 h2 H' ∧ h2 D = none ∧ H' D = some (.dK us) ∧ Paired (EntK K H') acc us ∧ acc.length ≤ sizeLine ∧ Nx acc h2, ?_, fun x H3 y => ?_⟩
    · rintro H' ⟨acc', us', h', rh', s', n', e', r', l', nx⟩
      obtain ⟨m', h3, hm, u, w'⟩ := hN acc' h' nx
      exact ⟨m', hm, acc', us', h3, rh'.sub u, stp_sub s' u, sub_free u n', e', r', l', w'⟩
    · obtain ⟨p, y1, s3, rx, rh3⟩ := c3 go x H3 y
      have rs3 := ((rs.stp rh s1).stp rh1 s2).stp rh2 s3
      obtain ⟨eD3, _⟩ := s3 D _ eD nD2
      have ru3 := ents_stp rh2 s3 ru
      refine Tg.ok t hv rx (rs3.wipe vs) rh3 (step p y1) fun ρ4 h4 q4 σ4 rs4 hw e4 => ?_
      subst e4
      refine ⟨?_, ρ4, _, _, rs4, rh3, q4, fun b h5 q5 H5 s5 rh5 => ?_⟩
      · rw [hw]; exact wipe_idem vs σ
      · obtain ⟨eD5, nD5⟩ := s5 D _ eD3 nD2
        have s125 := (s2.trans s3).trans s5
        have ru5 := ents_stp rh3 s5 ru3
        cases b with
        | false =>
          rw [if_neg Bool.false_ne_true] at q5 ⊢
          exact ⟨acc, us, h5, rh5, s125, nD5, eD5, ru5, hl, q5⟩
        | true =>
          rw [if_pos rfl] at q5 ⊢
          refine ⟨ρ4, h5, _, rs4.stp rh3 s5, rh5, q5, fun yk h6 q6 v6 H6 s6 r6 rh6 => ⟨ρ4, h6, _, (rs4.stp rh3 s5).stp rh5 s6, rh6, q6, fun yv h7 q7 v7 H7 s7 r7 rh7 => ?_⟩⟩
          obtain ⟨eD6, nD6⟩ := s6 D _ eD5 nD5
          obtain ⟨eD7, nD7⟩ := s7 D _ eD6 nD6
          have ru7 := ents_stp rh6 s7 (ents_stp rh5 s6 ru5)
          have nD1' : H1 D = none := nD
          obtain ⟨hk, q7⟩ := q7
          have st0 : Stp (up h7 D (.dic false none acc)) H7 (up (up h7 D (.dic false none acc)) D (.lst [])) (upd H7 D (.dK (putK us (keyOf yk) v7))) := stp_set up_same
          refine ⟨us, keyOf yk, kV_of hk (r6.stp rh6 s7), eD7, by rw [← paired_len ru7]; exact hacc, dput acc yk yv, _, h7, rh_hidD_put rh7 nD7 eD7 ru7 hl, fun b o e n => ?_, nD7, upd_same, ?_, by have := len_dput acc yk yv; omega, q7⟩
          · obtain ⟨e1, n1⟩ := ((s125.trans s6).trans s7) b o e n
            have hb : b ≠ D := fun z => by rw [z, nD1'] at e; cases e
            exact ⟨by rw [upd_ne hb]; exact e1, n1⟩
          · exact ents_stp (rh_hidD rh7 nD7 eD7 ru7 hl) st0 (ent_putK hk r7 ru7)
theorem qe_dc (hc : X.calm = true) (hN : X.N.Nodup) (hi : QI X tg iter wz) (ok : blkC X.N X.env.scope scope own = true) (hv : (t.slots.all fun i => (own.map (·.2)).contains i) = true)
    (hg : InB X scope fun Y => PG Y tg (t.t X.K)) (ht : InB X scope fun Y => QTs Y ifs tt) (hk : InB X scope fun Y => QE Y kx tk) (he : InB X scope fun Y => QE Y vx tv) (hs : ∀ x, foldedSetIterable iter X.env x = pure x) :
    QE X (.DictComp kx vx [⟨tg, iter, ifs, 0⟩] scope pos) (zDc wz t.z tt tk tv (own.map (·.2))) := by
  have hv' : ∀ i ∈ t.slots, i ∈ own.map (·.2) := fun i hi => by simpa using List.all_eq_true.mp hv i hi
  exact peI (pe_dc (wi := LIs X.prog X.w X.K wz) (g := t.t X.K) (tt := LT X.prog X.w X.K tt) (tk := LE X.prog X.w X.K tk) (tv := LE X.prog X.w X.K tv) hc hN hi (blkOk_by ok) hg ht hk he hs) fun σ H Q x => le_dc hv' x
theorem ps_setDc {i : Nat} {y : Str} {py : Pos} {wi : TI} {g : TG} {tt : TT} {tk tv : TE} (hc : X.calm = true) (hN : X.N.Nodup) (hy : X.N[i]? = some y) (hyl : X.env.scope.names.lookup y = some .local)
    (hsw : swapsWith (.DictComp kx vx [⟨tg, iter, ifs, 0⟩] scope pos) (some (.Name y py)) spos.line X.env = pure true) (hi : PI X tg iter wi) (ok : BlkOk X.N X.env.scope scope own)
    (hg : InB X scope fun Y => PG Y tg g) (ht : InB X scope fun Y => PTs Y ifs tt) (hk : InB X scope fun Y => PE Y kx tk) (he : InB X scope fun Y => PE Y vx tv) (hs : ∀ x, foldedSetIterable iter X.env x = pure x) :
    PS X (.Assign [.Name y py] (.DictComp kx vx [⟨tg, iter, ifs, 0⟩] scope pos) spos) (tAsg (tDc wi g tt tk tv (own.map (·.2))) (gName i)) := by
  refine ⟨fun pins s σ H D I h => ?_⟩
  rw [exec_Assign_Name_used _ _ _ _ hsw]
  refine wpAny_bind (wpAny_standAt (wpAny_bind ?_))
  show wpAny _ X.A (do let _ ← comprehension (.DictComp kx vx [⟨tg, iter, ifs, 0⟩] scope pos) scope X.env (firstIterPos [⟨tg, iter, ifs, 0⟩] pos) newDict false (eval iter X.env) (some (assign (.Name y py) X.env))) _ _ s
  have h : tDc wi g tt tk tv (own.map (·.2)) σ H (fun x H1 => gName i x σ H1 D.nx) := h
  refine wpAny_bind (thn (dc_core (Qf := fun _ s' => SP X pins D .next s') hc hN I hi ok hg ht hk he hs h fun L C s' m H' I' q hn f => ?_) fun _ s' hq => wpAny_pure (wpAny_pure hq))
  show wpAny _ _ (assign (.Name y py) X.env (.ref L)) _ _ _
  refine wpAny_assign_Name (store_ok2 (v := V.ref L) I' hN hy (.inl hyl) rfl (fun s2 I2 ⟨a, sb, ha⟩ => ?_) (.inr hyl))
  obtain ⟨f0, f1, f2, f3, f4, f5⟩ := f
  have haC : C ≠ a := by
    rcases ha with z | z
    · rw [z]; exact f1
    · exact fun e => f4 y a z e.symm
  refine ⟨m, hn.sameBut sb haC, fun h3 sb3 => ?_⟩
  exact ⟨_, H', I2.turned (t' := s2.toks) (fun b o hb e => (sb3.2 b hb).trans e) f0 f1 f3 f4 f5, q⟩
theorem sw_trueD {elt elt2 : Expr} {gs : List Comprehension} {scope : Scope} {pos py : Pos} {y : Str} {l : Nat} {env : Env} (hk : env.scope.kind = .function) (hy : env.scope.names.lookup y = some .local) (hl : (py.line == pos.line) = true)
    (ha : (scope.names.any fun (n, k) => n == y && (k == .local || k == .cell)) = false) : swapsWith (.DictComp elt elt2 gs scope pos) (some (.Name y py)) l env = pure true := by
  have ky : env.kindOf y = some .local := hy
  have hb : env.blockKind = .function := by unfold Env.blockKind; rw [hk]; rfl
  unfold swapsWith
  simp only [hb, ky, ha, Expr.pos, hl]
  rfl
theorem qs_setDc {i : Nat} {y : Str} {py : Pos} (hc : X.calm = true) (hN : X.N.Nodup) (hy : X.N[i]? = some y) (hyl : X.env.scope.names.lookup y = some .local)
    (hsw : swapsWith (.DictComp kx vx [⟨tg, iter, ifs, 0⟩] scope pos) (some (.Name y py)) spos.line X.env = pure true)
    (hi : QI X tg iter wz) (ok : blkC X.N X.env.scope scope own = true) (hv : (t.slots.all fun i => (own.map (·.2)).contains i) = true)
    (hg : InB X scope fun Y => PG Y tg (t.t X.K)) (ht : InB X scope fun Y => QTs Y ifs tt) (hk : InB X scope fun Y => QE Y kx tk) (he : InB X scope fun Y => QE Y vx tv) (hs : ∀ x, foldedSetIterable iter X.env x = pure x) :
    QS X (.Assign [.Name y py] (.DictComp kx vx [⟨tg, iter, ifs, 0⟩] scope pos) spos) (zAsg (zDc wz t.z tt tk tv (own.map (·.2))) (zgName i)) := by
  have hv' : ∀ i ∈ t.slots, i ∈ own.map (·.2) := fun i hi => by simpa using List.all_eq_true.mp hv i hi
  exact psI (ps_setDc (i := i) (wi := LIs X.prog X.w X.K wz) (g := t.t X.K) (tt := LT X.prog X.w X.K tt) (tk := LE X.prog X.w X.K tk) (tv := LE X.prog X.w X.K tv) hc hN hy hyl hsw hi (blkOk_by ok) hg ht hk he hs) fun D σ H x => le_dc hv' (le_asg x)

/-! ### {} -/
def zDn : ZE := fun _ h Q => ∃ t, ∀ p, h p = none → Q (.ref p) (up h p (.dic t none []))
theorem qe_dn : QE X (.Dict [] [] pos) zDn := by
  refine ⟨fun pins s σ H Q I ⟨ρ, h, Qp, rs, rh, ⟨t, q⟩, k⟩ => wpAny_Dict_empty ?_⟩
  have n := I.hok.fresh (Nat.le_refl s.heap.objs.size)
  cases t with
  | false =>
    have st : Stp h H (up h s.heap.objs.size (.dic false none [])) (upd H s.heap.objs.size (.dK [])) := stp_new rh n
    exact ⟨.ref s.heap.objs.size, _, I.laid (a := s.heap.objs.size) (o := .dK []) (t' := s.toks) (fun _ _ q => Heap.get?_push_of_some _ q) (Nat.le_refl _) (dk_empty s.heap I.big), rfl,
      k _ _ (q _ (rh.free n)) _ _ st (.ref _) (rh.put st ⟨[], (show LkAt _ _ none _ from upd_same), Nat.zero_le _, .nil⟩)⟩
  | true =>
    have st : Stp h H (up h s.heap.objs.size (.dic true none [])) (upd H s.heap.objs.size (.ext (dphi X.prog X.w s.heap.objs.size []))) := stp_new rh n
    refine ⟨.ref s.heap.objs.size, _, I.laid (a := s.heap.objs.size) (o := .ext (dphi X.prog X.w s.heap.objs.size [])) (h' := s.heap.push { cls := .type "dict", data := .dict #[] }) (t' := s.toks) (fun _ _ q => Heap.get?_push_of_some _ q) (Nat.le_refl _) ?_, rfl,
      k _ _ (q _ (rh.free n)) _ _ st (.ref _) (rh.put st ⟨[], (show LkAt _ _ none _ from upd_same), Nat.zero_le _, .nil⟩)⟩
    refine ⟨⟨beq_eq_false_iff_ne.mpr (Ne.symm (Nat.ne_of_lt I.big)), Nat.zero_le _, _, #[], 0, Heap.get?_push_size _ rfl, ⟨rfl, rfl, rfl⟩, rfl, rfl, List.nodup_nil⟩, ⟨_, Heap.get?_push_size _ rfl⟩, fun h1 h2 ⟨c1, c2, o1, es1, ep1, c3, c4⟩ hk => ⟨c1, c2, o1, es1, ep1, hk o1 c3, c4⟩⟩
end
end G

namespace G
open PySem PySem.Spec PyProof.Rows L2

/-! ### {k: v, ..} -/
def zPairs : List (ZE × ZE) → Ev → PH → (List (PV × PV) → PH → Prop) → Prop
  | [], _, h, Q => Q [] h
  | (tk, tv) :: r, ρ, h, Q => tk ρ h fun x h1 => tv ρ h1 fun y h2 => zPairs r ρ h2 fun ps h3 => Q ((x, y) :: ps) h3
def dputs (kvs more : List (PV × PV)) : List (PV × PV) := more.foldl (fun acc kv => dput acc kv.1 kv.2) kvs
def zDisp (trs : List (ZE × ZE)) : ZE := fun ρ h Q => zPairs trs ρ h fun ps h2 => (ps.all fun kv => kv.1.leaf) = true ∧ ∀ p, h2 p = none → Q (.ref p) (up h2 p (.dic false none (dputs [] ps)))
section
variable {P : Program} {w : World} {K : PySem.W.Frag}
abbrev RPs (K : PySem.W.Frag) (H : Hp) : List (PV × PV) → List (V × V) → Prop := Paired fun p v => RV K H v.1 p.1 ∧ RV K H v.2 p.2
theorem RPs.stp {h h' : PH} {H H' : Hp} (rh : RH P w K H h) (s : Stp h H h' H') {ps : List (PV × PV)} {vs : List (V × V)} (r : RPs K H ps vs) : RPs K H' ps vs := Paired.mapP r fun _ _ z => ⟨z.1.stp rh s, z.2.stp rh s⟩
theorem le_pairs : ∀ (trs : List (ZE × ZE)) {σ : L2.St} {H : Hp} {ρ : Ev} {h : PH} {Qp : List (PV × PV) → PH → Prop} {Q : List (V × V) → Hp → Prop}, RS K H σ ρ → RH P w K H h → zPairs trs ρ h Qp →
    (∀ ps h', Qp ps h' → ∀ vs H', Stp h H h' H' → RPs K H' ps vs → RH P w K H' h' → Q vs H') → tPairs (trs.map fun t => (LE P w K t.1, LE P w K t.2)) σ H Q
  | [], σ, H, ρ, h, Qp, Q, rs, rh, t, k => k _ _ t _ _ (Stp.refl _ _) .nil rh
  | (tk, tv) :: r, σ, H, ρ, h, Qp, Q, rs, rh, t, k => ⟨ρ, h, _, rs, rh, t, fun x h1 t1 v1 H1 s1 r1 rh1 => ⟨ρ, h1, _, rs.stp rh s1, rh1, t1, fun y h2 t2 v2 H2 s2 r2 rh2 =>
    le_pairs r ((rs.stp rh s1).stp rh1 s2) rh2 t2 fun ps h' q vs H' s r' rh' => k _ _ q _ _ ((s1.trans s2).trans s) (.cons ⟨(r1.stp rh1 s2).stp rh2 s, r2.stp rh2 s⟩ r') rh'⟩⟩
theorem ents_puts {H : Hp} {ps : List (PV × PV)} {vs : List (V × V)} (q : RPs K H ps vs) : ∀ {acc : List (PV × PV)} {ds : List (Key × V)}, (ps.all fun kv => kv.1.leaf) = true → Paired (EntK K H) acc ds →
    ∃ kvs : List (Key × V), vs = kvs.map (fun kv => (kV kv.1, kv.2)) ∧ Paired (EntK K H) (dputs acc ps) (mergeK ds kvs) := by
  unfold RPs at q
  induction q with
  | nil => intro acc ds _ r; exact ⟨[], rfl, r⟩
  | cons q t ih =>
    rename_i kv v _ _
    intro acc ds hl r
    simp only [List.all_cons, Bool.and_eq_true] at hl
    obtain ⟨kvs, e, r'⟩ := ih (acc := dput acc kv.1 kv.2) (ds := putK ds (keyOf kv.1) v.2) hl.2 (ent_putK hl.1 q.2 r)
    refine ⟨(keyOf kv.1, v.2) :: kvs, ?_, r'⟩
    rw [List.map_cons, ← e, ← kV_of hl.1 q.1]
theorem len_dputs : ∀ (ps acc : List (PV × PV)), (dputs acc ps).length ≤ acc.length + ps.length
  | [], acc => Nat.le_refl _
  | p :: ps, acc => by
    have h1 := len_dputs ps (dput acc p.1 p.2)
    have h2 := len_dput acc p.1 p.2
    show (dputs (dput acc p.1 p.2) ps).length ≤ _
    rw [List.length_cons]; omega
theorem zPairs_len : ∀ (trs : List (ZE × ZE)) {ρ : Ev} {h : PH} {Q : List (PV × PV) → PH → Prop}, True := fun _ _ _ _ => trivial
end
section
variable {X : Cx} {pos : Pos} {keys : List (Option Expr)} {values : List Expr}
abbrev QPs (X : Cx) (pos : Pos) (keys : List (Option Expr)) (values : List Expr) (trs : List (ZE × ZE)) : Prop := PPs X pos keys values (trs.map fun t => (LE X.prog X.w X.K t.1, LE X.prog X.w X.K t.2))
theorem qps_nil : QPs X pos [] [] [] := pps_nil
theorem qps_cons {k v : Expr} {ks : List (Option Expr)} {vs : List Expr} {tk tv : ZE} {trs : List (ZE × ZE)} (hk : QE X k tk) (hv : QE X v tv) (hr : QPs X pos ks vs trs) : QPs X pos (some k :: ks) (v :: vs) ((tk, tv) :: trs) := pps_cons hk hv hr
/-- a display of at most 15 -/
def zDispN (n : Nat) (trs : List (ZE × ZE)) : ZE := fun ρ h Q => zPairs trs ρ h fun ps h2 => ps.length ≤ 15 ∧ (ps.all fun kv => kv.1.leaf) = true ∧ ∀ p, h2 p = none → Q (.ref p) (up h2 p (.dic false none (dputs [] ps)))
theorem qe_disp {trs : List (ZE × ZE)} (h : QPs X pos keys values trs) (hall : keys.all (·.isSome) = true) (hl : keys.length = values.length) (h0 : keys ≠ []) (h15 : keys.length ≤ 15) : QE X (.Dict keys values pos) (zDispN 15 trs) :=
  peI (pe_disp h hall hl h0 h15) fun σ H Q ⟨ρ, h, Qp, rs, rh, t, k⟩ p n => by
    have s0 : Stp h H h (upd H p (.dK [])) := stp_new0 n
    have rh0 := rh.new0 (o := .dK []) n
    refine le_pairs trs (rs.stp rh s0) rh0 t fun ps h' ⟨q15, q1, q2⟩ vs H' s r' rh' => ?_
    obtain ⟨e1, n1⟩ := s p _ upd_same (rh.free n)
    obtain ⟨kvs, e, r''⟩ := ents_puts r' (acc := []) (ds := []) q1 .nil
    have hk : kvs.length = ps.length := by
      have a1 := paired_len r'
      have a2 := congrArg List.length e
      rw [List.length_map] at a2
      omega
    refine ⟨e1, kvs, e, by omega, ?_⟩
    have ln := len_dputs ps []
    have st1 : Stp (up h' p (.dic false none [])) H' (up (up h' p (.dic false none [])) p (.lst [])) (upd H' p (.dK (mergeK [] kvs))) := stp_set up_same
    have rhh : RH X.prog X.w X.K H' (up h' p (.dic false none [])) := rh_hidD rh' n1 e1 .nil (Nat.zero_le _)
    have st2 : Stp h H (up h' p (.dic false none (dputs [] ps))) (upd H' p (.dK (mergeK [] kvs))) := fun b o eb nb => by
      have hb : b ≠ p := fun z => by rw [z, n] at eb; cases eb
      obtain ⟨e2, n2⟩ := (s0.trans s) b o eb nb
      exact ⟨by rw [upd_ne hb]; exact e2, by rw [up_ne hb]; exact n2⟩
    refine k _ _ (q2 p n1) _ _ st2 (.ref p) ?_
    have rz : RH X.prog X.w X.K (upd H' p (.dK (mergeK [] kvs))) h' := rh_hidD_put rh' n1 e1 .nil (Nat.zero_le _)
    refine rh_hidD rz n1 upd_same (ents_stp rhh st1 r'') (by rw [sizeLine_eq]; simp at ln; omega)

/-! ### a module's constant -/
theorem qe_glob {x : Str} {v : V} {u : Value} {p : PV} (hg : Gl X x) (hm : X.mg x = some u) (r : RelV v u) (rv : ∀ H, RV X.K H v p) (hd : (x == ("__debug__" : Str)) = false) : QE X (.Name x pos) (zC p) :=
  peI (pe_glob hg hm r hd) fun σ H Q ⟨ρ, h, Qp, rs, rh, q, k⟩ => k.now rh (rv H) q
end

/-! ### defs of the text -/
/-- what a def's body answers: v behind it, some of the heap forgotten -/
def zFn (n m : Nat) (zb : ZS) : ZC := fun ps h Q => ps.length = m ∧ zb ⟨fun _ h' => ∃ h2, Sub h2 h' ∧ Q .non h2, fun v h' => ∃ h2, Sub h2 h' ∧ Q v h2, fun _ _ => False, fun _ _ => False⟩ (ps.map some ++ List.replicate (n - m) none) h
def spOf (P : Program) (w : World) (K : PySem.W.Frag) (r : ZC) : Sp := fun vs H Q _ => LC P w K r vs H Q
/-- the def x can be called; it does r -/
structure QF (P : Program) (w : World) (K : PySem.W.Frag) (mg : Str → Option Value) (base : Heap) (k : Nat) (x : Str) (n : Nat) (r : ZC) : Prop where
  ex : ∃ (f : Addr) (fd : FuncData) (ps : List Str), FnOk P w K mg base CX0 k f fd ps (spOf P w K r) ∧ mg x = some (.ref f) ∧ PySem.W.keepIn K (.ref f) = true ∧ Binds K fd ps []
theorem rs_start {K : PySem.W.Frag} {H : Hp} {vs : List V} {ps : List PV} (r : RVs K H vs ps) (N : List Str) : RS K H (L2.start N vs) (ps.map some ++ List.replicate (N.length - ps.length) none) := by
  have hl := r.length
  refine ⟨by unfold L2.start; simp [hl], fun i p e => ?_⟩
  by_cases hi : i < ps.length
  · rw [List.getElem?_append_left (by simpa using hi), List.getElem?_map] at e
    obtain ⟨q, e1, e2⟩ := Option.map_eq_some_iff.mp e
    cases e2
    obtain ⟨v, f1, f2⟩ := r.get e1
    refine ⟨v, ?_, f2⟩
    unfold L2.start
    rw [List.getElem?_append_left (by rw [List.length_map, hl]; exact hi), List.getElem?_map, f1]
    rfl
  · rw [List.getElem?_append_right (by simpa using hi), List.getElem?_replicate] at e
    split at e <;> cases e
section
variable {P : Program} {w : World} {K : PySem.W.Frag} {mg : Str → Option Value} {base : Heap}
theorem qf_def {x : Str} {st : Stmt} {f : Addr} {fd : FuncData} {N ps : List Str} {k n m : Nat} {zb : ZS} (F : Fun K x x st f fd) (S : FnScope N ps (defScope st)) (hb : Binds K fd ps []) (hg : mg x = some (.ref f)) (hn : N.length = n) (hm : ps.length = m)
    (body : ∀ (X : Cx), X.prog = P → X.w = w → X.K = K → X.mg = mg → X.base = base → Room k X.A → X.env.scope = defScope st → X.N = N → X.calm = true → (∀ y, X.fn y = true) → X.xe = (fun _ _ => False) → QSs X (defBody st) zb) :
    QF P w K mg base (k + 1) x m (zFn n m zb) := by
  refine ⟨f, fd, ps, F.ok S (fun vs H Q E h => ?_) (fun cdv A outer s H vs Q E hr h => ?_), hg, F.kp, hb⟩
  · obtain ⟨ps', h, Qp, rv, rh, ⟨hz1, hz⟩, kk⟩ := h
    rw [rv.length, hm]; exact hz1
  obtain ⟨ps', h, Qp, rv, rh, ⟨hz1, hz⟩, kk⟩ := h
  refine ⟨_, body _ rfl rfl rfl rfl rfl hr rfl rfl rfl (fun _ => rfl) rfl, _, h, _, rs_start rv N, rh, by rw [hz1, hn]; exact hz, ?_⟩
  refine ⟨fun ρ' h' ⟨h2, u, q⟩ σ' H' s rs rh' => ?_, fun p h' ⟨h2, u, q⟩ v H' s rv rh' => ?_, fun _ _ z => z.elim, fun _ _ z => z.elim⟩
  · exact kk _ _ q _ _ (stp_sub s u) .non (rh'.sub u)
  · exact kk _ _ q _ _ (stp_sub s u) rv (rh'.sub u)
variable {X : Cx} {e : Expr} {es : List Expr} {pos : Pos}
theorem qf_zero {x : Str} {st : Stmt} {f : Addr} {fd : FuncData} {ps : List Str} {m : Nat} (F : Fun K x x st f fd) (hb : Binds K fd ps []) (hg : mg x = some (.ref f)) : QF P w K mg base 0 x m (fun _ _ _ => False) := by
  refine ⟨f, fd, ps, ⟨fun vs H Q E h => ?_, fun A outer s H args us vs Q E hr e0 hb' r h => ?_⟩, hg, F.kp, hb⟩
  · obtain ⟨ps', h, Qp, rv, rh, z, kk⟩ := h; exact z.elim
  · obtain ⟨ps', h, Qp, rv, rh, z, kk⟩ := h; exact z.elim
theorem qe_own {x : Str} {k n : Nat} {r : ZC} {ta : ZA} {p : Pos} (F : QF X.prog X.w X.K X.mg X.base k x n r) (hr : Room k X.A) (hg : Gl X x) (ha : QA X (e :: es) ta)
    (hdb : (x == ("__debug__" : Str)) = false) (he : starEach (e :: es) X.env = (false, eval e X.env) :: starEach es X.env) (hpl : (backTo pos (starEach es X.env)).any (·.1) = false) : QE X (.Call (.Name x p) (e :: es) [] pos) (zCall r ta) := by
  obtain ⟨f, fd, ps, F, hm, kp, hb⟩ := F.ex
  exact peI (pe_call (E := E0) F hr hg hm kp hb .nil pass0 ha hdb he hpl) fun σ H Q ⟨ρ, h, Qp, rs, rh, t, k⟩ => ⟨ρ, h, _, rs, rh, t, fun ps' h1 t1 vs H1 s1 r1 rh1 => by
    show spOf X.prog X.w X.K r (vs ++ []) H1 Q E0
    rw [List.append_nil]
    exact ⟨ps', h1, Qp, r1, rh1, t1, k.later s1⟩⟩
theorem qe_own0 {x : Str} {k : Nat} {r : ZC} {p : Pos} (F : QF X.prog X.w X.K X.mg X.base k x 0 r) (hr : Room k X.A) (hg : Gl X x) (hdb : (x == ("__debug__" : Str)) = false) : QE X (.Call (.Name x p) [] [] pos) (zCall r zaNil) := by
  obtain ⟨f, fd, ps, F, hm, kp, hb⟩ := F.ex
  exact peI (pe_call0 (E := E0) F hr hg hm kp hb .nil pass0 hdb) fun σ H Q ⟨ρ, h, Qp, rs, rh, t, k⟩ => ⟨[], h, Qp, .nil, rh, t, k⟩
end
end G

namespace G
open PySem PySem.Spec PyProof.Rows L2

/-! ### the order of trees -/
mutual
def PV.lt? : PV → PV → Option Bool
  | .int a, .int b => some (decide (a < b))
  | .str x, .str y => some (decide (x < y))
  | .tup xs, .tup ys => PV.lts? xs ys
  | _, _ => none
def PV.lts? : List PV → List PV → Option Bool
  | [], ys => some (!ys.isEmpty)
  | _ :: _, [] => some false
  | x :: xs, y :: ys => if x = y then PV.lts? xs ys else PV.lt? x y
end
def tkc : List Nat → List Int
  | [] => [0]
  | c :: cs => ((c : Int) + 1) :: tkc cs
mutual
def PV.tk : PV → List Int
  | .int i => [0, i]
  | .str x => 1 :: tkc x
  | .tup xs => 2 :: PV.tks xs
  | .non => [3]
  | _ => [4]
def PV.tks : List PV → List Int
  | [] => [0]
  | x :: xs => 1 :: (PV.tk x ++ PV.tks xs)
end
/-- p ahead of q -/
def PV.o (p q : PV) : Bool := decide (p.tk < q.tk)
theorem app_lt (p a b : List Int) : (p ++ a < p ++ b) ↔ a < b := by
  induction p with
  | nil => exact Iff.rfl
  | cons x p ih => rw [List.cons_append, List.cons_append, List.cons_lt_cons_iff]; simp [ih]
theorem tkc_lt : ∀ {x y : List Nat}, x ≠ y → ∀ l m : List Int, (tkc x ++ l < tkc y ++ m) ↔ x < y
  | [], [], h, _, _ => absurd rfl h
  | [], c :: cs, _, l, m => by
    simp only [tkc, List.cons_append, List.nil_append, List.cons_lt_cons_iff]
    constructor
    · intro _; exact List.nil_lt_cons _ _
    · intro _; left; omega
  | c :: cs, [], _, l, m => by
    simp only [tkc, List.cons_append, List.nil_append, List.cons_lt_cons_iff]
    constructor
    · rintro (h | h) <;> omega
    · intro h; exact absurd h (by simp)
  | c :: cs, d :: ds, h, l, m => by
    simp only [tkc, List.cons_append, List.cons_lt_cons_iff]
    by_cases e : c = d
    · subst e
      have h' : cs ≠ ds := fun z => h (by rw [z])
      rw [tkc_lt h' l m]
      simp
    · constructor
      · rintro (h | h)
        · left; omega
        · omega
      · rintro (h | h)
        · left; omega
        · exact absurd h.1 e
mutual
theorem PV.lt_tk : ∀ (p q : PV) (k : Bool), PV.lt? p q = some k → p ≠ q → ∀ l m : List Int, decide (p.tk ++ l < q.tk ++ m) = k
  | .int a, q, k, h, ne, l, m => by
    cases q <;> simp only [PV.lt?, reduceCtorEq] at h
    rename_i b
    cases h
    have hab : a ≠ b := fun z => ne (by rw [z])
    simp only [PV.tk, List.cons_append, List.cons_lt_cons_iff, List.nil_append]
    rw [decide_eq_decide]
    constructor
    · rintro (h | ⟨_, h | h⟩) <;> omega
    · intro h; right; exact ⟨trivial, .inl h⟩
  | .str x, q, k, h, ne, l, m => by
    cases q <;> simp only [PV.lt?, reduceCtorEq] at h
    rename_i b
    cases h
    have hab : x ≠ b := fun z => ne (by rw [z])
    simp only [PV.tk, List.cons_append, List.cons_lt_cons_iff]
    rw [decide_eq_decide, tkc_lt hab]
    constructor
    · rintro (h | ⟨_, h⟩)
      · omega
      · exact h
    · intro h; right; exact ⟨trivial, h⟩
  | .tup xs, q, k, h, ne, l, m => by
    cases q <;> simp only [PV.lt?, reduceCtorEq] at h
    rename_i ys
    have hab : xs ≠ ys := fun z => ne (by rw [z])
    have := PV.lts_tk xs ys k h hab l m
    simp only [PV.tk, List.cons_append, List.cons_lt_cons_iff]
    rw [← this, decide_eq_decide]
    constructor
    · rintro (h | ⟨_, h⟩)
      · omega
      · exact h
    · intro h; right; exact ⟨trivial, h⟩
  | .non, q, _, h, _, _, _ => by cases q <;> simp [PV.lt?] at h
  | .bl _, q, _, h, _, _, _ => by cases q <;> simp [PV.lt?] at h
  | .ref _, q, _, h, _, _, _ => by cases q <;> simp [PV.lt?] at h
  | .scr _, q, _, h, _, _, _ => by cases q <;> simp [PV.lt?] at h
theorem PV.lts_tk : ∀ (p q : List PV) (k : Bool), PV.lts? p q = some k → p ≠ q → ∀ l m : List Int, decide (PV.tks p ++ l < PV.tks q ++ m) = k
  | [], [], _, _, ne, _, _ => absurd rfl ne
  | [], y :: ys, k, h, _, l, m => by
    simp only [PV.lts?, List.isEmpty_cons, Bool.not_false, Option.some.injEq] at h
    subst h
    simp [PV.tks, List.cons_lt_cons_iff]
  | x :: xs, [], k, h, _, l, m => by
    simp only [PV.lts?, Option.some.injEq] at h
    subst h
    simp [PV.tks, List.cons_lt_cons_iff]
  | x :: xs, y :: ys, k, h, ne, l, m => by
    simp only [PV.lts?] at h
    simp only [PV.tks, List.cons_append, List.append_assoc]
    by_cases e : x = y
    · subst e
      rw [if_pos rfl] at h
      have ne' : xs ≠ ys := fun z => ne (by rw [z])
      rw [← PV.lts_tk xs ys k h ne' l m, decide_eq_decide, List.cons_lt_cons_iff, app_lt]
      simp
    · rw [if_neg e] at h
      rw [← PV.lt_tk x y k h e (PV.tks xs ++ l) (PV.tks ys ++ m), decide_eq_decide, List.cons_lt_cons_iff]
      simp
end
mutual
theorem PV.lt_self : ∀ (p : PV) (k : Bool), PV.lt? p p = some k → k = false
  | .int a, k, h => by simp [PV.lt?] at h; exact h
  | .str x, k, h => by
    simp only [PV.lt?, Option.some.injEq] at h
    rw [← h]
    exact decide_eq_false (List.lt_irrefl x)
  | .tup xs, k, h => PV.lts_self xs k (by simpa [PV.lt?] using h)
  | .non, _, h => by simp [PV.lt?] at h
  | .bl _, _, h => by simp [PV.lt?] at h
  | .ref _, _, h => by simp [PV.lt?] at h
  | .scr _, _, h => by simp [PV.lt?] at h
theorem PV.lts_self : ∀ (p : List PV) (k : Bool), PV.lts? p p = some k → k = false
  | [], k, h => by simp [PV.lts?] at h; exact h
  | x :: xs, k, h => PV.lts_self xs k (by simpa [PV.lts?] using h)
end
theorem PV.o_of {p q : PV} {k : Bool} (h : PV.lt? p q = some k) : PV.o p q = k := by
  by_cases e : p = q
  · subst e
    rw [PV.lt_self _ _ h]
    unfold PV.o
    rw [decide_eq_false_iff_not]
    exact List.lt_irrefl _
  · have := PV.lt_tk p q k h e [] []
    rw [List.append_nil, List.append_nil] at this
    exact this
theorem PV.swo : SrtO.Swo PV.o := by
  refine ⟨fun x y h => ?_, fun x y z h1 h2 => ?_⟩
  · have := of_decide_eq_true h
    exact decide_eq_false (List.lt_asymm this)
  · have a := of_decide_eq_false h1
    have b := of_decide_eq_false h2
    refine decide_eq_false ?_
    rw [List.not_lt] at a b ⊢
    exact List.le_trans a b

/-! ### insertion sort -/
def insO (acc : List PV) (y : PV) : List PV := acc.takeWhile (fun x => !PV.o y x) ++ y :: acc.dropWhile (fun x => !PV.o y x)
def isort (xs : List PV) : List PV := xs.foldl insO []
theorem drop_all {y : PV} : ∀ {l : List PV}, SrtO.Srtd PV.o l → ∀ x ∈ l.dropWhile (fun x => !PV.o y x), PV.o y x = true
  | [], _, x, hx => by cases hx
  | z :: l, hs, x, hx => by
    rw [List.dropWhile_cons] at hx
    split at hx
    · exact drop_all (List.pairwise_cons.mp hs).2 x hx
    · rename_i h
      have hy : PV.o y z = true := by simpa using h
      exact PV.swo.lt_all hs hy x hx
theorem insO_ok {acc O1 : List PV} {y : PV} (hs : SrtO.Srtd PV.o acc) (hb : SrtO.Stb PV.o acc O1) : SrtO.Srtd PV.o (insO acc y) ∧ SrtO.Stb PV.o (insO acc y) (O1 ++ [y]) := by
  have e : acc.takeWhile (fun x => !PV.o y x) ++ acc.dropWhile (fun x => !PV.o y x) = acc := List.takeWhile_append_dropWhile
  have h1 : ∀ x ∈ acc.takeWhile (fun x => !PV.o y x), PV.o y x = false := fun x hx => by
    have := List.all_takeWhile (p := fun x => !PV.o y x) (l := acc)
    have := List.all_eq_true.mp this x hx
    simpa using this
  have h2 := drop_all (y := y) hs
  refine ⟨SrtO.ins_srtd PV.swo (by rw [e]; exact hs) h1 h2, SrtO.ins_stb PV.swo h2 (by rw [e]; exact hb)⟩
theorem isort_go : ∀ (xs acc O1 : List PV), SrtO.Srtd PV.o acc → SrtO.Stb PV.o acc O1 → SrtO.Srtd PV.o (xs.foldl insO acc) ∧ SrtO.Stb PV.o (xs.foldl insO acc) (O1 ++ xs)
  | [], acc, O1, h1, h2 => by rw [List.append_nil]; exact ⟨h1, h2⟩
  | x :: xs, acc, O1, h1, h2 => by
    obtain ⟨a, b⟩ := insO_ok (y := x) h1 h2
    have := isort_go xs _ _ a b
    rw [List.append_assoc] at this
    exact this
theorem isort_ok (xs : List PV) : SrtO.Srtd PV.o (isort xs) ∧ SrtO.Stb PV.o (isort xs) xs := isort_go xs [] [] List.Pairwise.nil (SrtO.Stb.refl _)
theorem isort_perm (xs : List PV) : (isort xs).Perm xs := (isort_ok xs).2.perm

/-! ### trees as they lie in the heap -/
mutual
def VP (h : Heap) : PV → Value → Prop
  | .non, u => u = .none
  | .int i, u => ∃ t, u = .int i t
  | .str x, u => ∃ t, u = .str (tS x) t
  | .tup ps, u => ∃ a o n vs, u = .ref a ∧ h.get? a = some o ∧ o.cls = .type "tuple" ∧ o.data = .seq vs n ∧ VPs h ps vs.toList
  | _, _ => False
def VPs (h : Heap) : List PV → List Value → Prop
  | [], us => us = []
  | p :: ps, us => ∃ u ur, us = u :: ur ∧ VP h p u ∧ VPs h ps ur
end
mutual
theorem VP.reads {h : Heap} : ∀ (p : PV) (u : Value), VP h p u → p.pl = true → ∃ as, Reads h u p.D as
  | .non, u, v, _ => by simp only [VP] at v; subst v; exact ⟨_, .none⟩
  | .int i, u, v, _ => by simp only [VP] at v; obtain ⟨t, rfl⟩ := v; exact ⟨_, .int _ _⟩
  | .str i, u, v, _ => by simp only [VP] at v; obtain ⟨t, rfl⟩ := v; exact ⟨_, .str _ _⟩
  | .tup ps, u, v, hp => by
    simp only [VP] at v
    obtain ⟨a, o, n, vs, rfl, e, c, d, r⟩ := v
    obtain ⟨as, q⟩ := VPs.reads ps _ r (by simpa [PV.pl] using hp)
    exact ⟨_, .tuple e c d q⟩
  | .bl _, _, v, _ => by simp [VP] at v
  | .ref _, _, v, _ => by simp [VP] at v
  | .scr _, _, v, _ => by simp [VP] at v
theorem VPs.reads {h : Heap} : ∀ (ps : List PV) (us : List Value), VPs h ps us → PV.pls ps = true → ∃ as, ReadsAll h us (PV.Ds ps) as
  | [], us, v, _ => by simp only [VPs] at v; subst v; exact ⟨_, .nil⟩
  | p :: ps, us, v, hp => by
    simp only [VPs] at v
    obtain ⟨u, ur, rfl, v1, v2⟩ := v
    simp only [PV.pls, Bool.and_eq_true] at hp
    obtain ⟨as, q⟩ := VP.reads p u v1 hp.1
    obtain ⟨bs, q2⟩ := VPs.reads ps ur v2 hp.2
    exact ⟨_, .cons q q2⟩
end
mutual
theorem VP.uniq {h : Heap} : ∀ (p q : PV) (u : Value), VP h p u → VP h q u → p = q
  | .non, q, u, v, w => by
    simp only [VP] at v; subst v
    cases q <;> simp [VP] at w ⊢
  | .int i, q, u, v, w => by
    simp only [VP] at v; obtain ⟨t, rfl⟩ := v
    cases q <;> simp [VP] at w ⊢
    exact w
  | .str i, q, u, v, w => by
    simp only [VP] at v; obtain ⟨t, rfl⟩ := v
    cases q <;> simp [VP] at w ⊢
    exact w
  | .tup ps, q, u, v, w => by
    simp only [VP] at v
    obtain ⟨a, o, n, vs, rfl, e, c, d, r⟩ := v
    cases q <;> simp only [VP, reduceCtorEq, exists_const] at w
    rename_i qs
    obtain ⟨a', o', n', vs', e1, e', c', d', r'⟩ := w
    cases e1
    rw [e] at e'; cases e'
    rw [d] at d'; cases d'
    rw [VPs.uniq ps qs _ r r']
  | .bl _, _, _, v, _ => by simp [VP] at v
  | .ref _, _, _, v, _ => by simp [VP] at v
  | .scr _, _, _, v, _ => by simp [VP] at v
theorem VPs.uniq {h : Heap} : ∀ (p q : List PV) (u : List Value), VPs h p u → VPs h q u → p = q
  | [], q, u, v, w => by
    simp only [VPs] at v; subst v
    cases q with
    | nil => rfl
    | cons _ _ => simp [VPs] at w
  | p :: ps, q, u, v, w => by
    simp only [VPs] at v
    obtain ⟨u, ur, rfl, v1, v2⟩ := v
    cases q with
    | nil => simp [VPs] at w
    | cons q qs =>
      simp only [VPs] at w
      obtain ⟨u', ur', e, w1, w2⟩ := w
      cases e
      rw [VP.uniq p q _ v1 w1, VPs.uniq ps qs _ v2 w2]
end
mutual
theorem VP.keep {h h' : Heap} (k : ∀ b o, h.get? b = some o → o.cls = .type "tuple" → h'.get? b = some o) : ∀ (p : PV) (u : Value), VP h p u → VP h' p u
  | .non, u, v => by simpa only [VP] using v
  | .int i, u, v => by simpa only [VP] using v
  | .str i, u, v => by simpa only [VP] using v
  | .tup ps, u, v => by
    simp only [VP] at v ⊢
    obtain ⟨a, o, n, vs, rfl, e, c, d, r⟩ := v
    exact ⟨a, o, n, vs, rfl, k _ _ e c, c, d, VPs.keep k ps _ r⟩
  | .bl _, _, v => by simp [VP] at v
  | .ref _, _, v => by simp [VP] at v
  | .scr _, _, v => by simp [VP] at v
theorem VPs.keep {h h' : Heap} (k : ∀ b o, h.get? b = some o → o.cls = .type "tuple" → h'.get? b = some o) : ∀ (p : List PV) (u : List Value), VPs h p u → VPs h' p u
  | [], u, v => by simpa only [VPs] using v
  | p :: ps, u, v => by
    simp only [VPs] at v ⊢
    obtain ⟨u, ur, rfl, v1, v2⟩ := v
    exact ⟨u, ur, rfl, VP.keep k p u v1, VPs.keep k ps ur v2⟩
end
theorem VPs.len {h : Heap} : ∀ {p : List PV} {u : List Value}, VPs h p u → u.length = p.length
  | [], u, v => by simp only [VPs] at v; subst v; rfl
  | p :: ps, u, v => by
    simp only [VPs] at v
    obtain ⟨u, ur, rfl, v1, v2⟩ := v
    simp [VPs.len v2]
section
variable {X : Cx} {pins : List (Addr × Obj)} {σ : L2.St} {H : Hp} {s : Shared}
mutual
theorem RV.vp (I : L2.Inv X pins σ H s) : ∀ (p : PV) (v : V) (u : Value), RV X.K H v p → p.pl = true → RelV v u → VP s.heap p u
  | .non, _, _, h, _, r => by cases h; simp only [VP]; exact r
  | .int i, _, _, h, _, r => by cases h; simp only [VP]; exact r
  | .str x, _, _, h, _, r => by cases h; simp only [VP]; exact r
  | .tup xs, _, _, h, hp, r => by
    cases h with
    | tup hs hl hr =>
      cases r
      obtain ⟨its, rv, ⟨o, ho, hc, n, hd⟩, _⟩ := I.tuple hs
      simp only [VP]
      exact ⟨_, o, n, _, rfl, ho, hc, hd, by simpa using RVs.vp I xs _ _ hr (by simpa [PV.pl] using hp) rv⟩
  | .bl _, _, _, _, h, _ => by simp [PV.pl] at h
  | .ref _, _, _, _, h, _ => by simp [PV.pl] at h
  | .scr _, _, _, _, h, _ => by simp [PV.pl] at h
theorem RVs.vp (I : L2.Inv X pins σ H s) : ∀ (ps : List PV) (vs : List V) (us : List Value), RVs X.K H vs ps → PV.pls ps = true → Vals vs us → VPs s.heap ps us
  | [], _, _, h, _, r => by cases h; cases r; simp only [VPs]
  | p :: ps, _, _, h, hp, r => by
    simp only [PV.pls, Bool.and_eq_true] at hp
    cases h with
    | cons h1 h2 =>
      cases r with
      | cons r1 r2 => simp only [VPs]; exact ⟨_, _, rfl, RV.vp I p _ _ h1 hp.1 r1, RVs.vp I ps _ _ h2 hp.2 r2⟩
end
end
end G

namespace G
open PySem PySem.Spec PyProof.Rows L2
open PySem.SeqAt
open AutoSeq1 (wpAny_loadPart')
open MeetsSeq MeetsSeq2 MeetsSeq3 SeqRoads2

/-! ### tuples compared: what lies behind the first place that differs is not looked at -/
def TLt (A : Around) (s : Shared) : List Value → List Value → Bool → Prop
  | [], ys, k => k = !ys.isEmpty
  | _ :: _, [], k => k = false
  | x :: xs, y :: ys, k => ∃ e, EqAt A s x y e ∧ (e = true → TLt A s xs ys k) ∧ (e = false → RcLt A s x y k)
theorem TLt.fin {A : Around} {s : Shared} : ∀ {xs ys : List Value} {k : Bool}, TLt A s xs ys k → xs = [] ∨ ys = [] → k = decide (xs.length < ys.length)
  | [], ys, k, h, _ => by
    have h' : k = !ys.isEmpty := h
    rw [h']; cases ys <;> simp
  | _ :: _, [], k, h, _ => by have h' : k = false := h; rw [h']; simp
  | _ :: _, _ :: _, _, _, h => by rcases h with h | h <;> cases h
section
theorem tup_ltF (l b : Addr) (items items2 : Array Value) (n n2 : Nat) (dd dd2 : Option Addr) (sl sl2 : Array (Option Value)) (k : Bool) :
    Meets (Builtin.«tuple.__lt__» ⟨[.ref l, .ref b], []⟩) fun A R s => s.heap.get? l = some { cls := .type "tuple", dict := dd, data := .seq items n, slots := sl } ∧
      s.heap.get? b = some { cls := .type "tuple", dict := dd2, data := .seq items2 n2, slots := sl2 } ∧ TLt A.in1 s items.toList items2.toList k ∧ R (.ok (.ret (.bool k))) s :=
  .of_wp fun prog w A R s hh => by
    obtain ⟨hp, g, d, tk, os⟩ := s; obtain ⟨hl, hb, ht, hR⟩ := hh
    have f2 := AutoSeq1.sub_tuple_tuple
    have hZ : (items.toList.zip items2.toList).length = min items.size items2.size := by simp
    wp_walk using wpAny_loadPart' hl, wpAny_loadPart' hb, wpAny_forIn_list _ (fun rest b s' => b.1 = none ∧ s' = ⟨hp, g, d, tk, os⟩ ∧ ∃ i, rest = (items.toList.zip items2.toList).drop i ∧ i ≤ min items.size items2.size ∧ TLt A.in1 ⟨hp, g, d, tk, os⟩ (items.toList.drop i) (items2.toList.drop i) k) _
    case turn =>
      rintro ⟨y, x⟩ rest b s' ⟨hb', rfl, i, hz, him, ht⟩
      have hlt : i < (items.toList.zip items2.toList).length := by
        by_cases h' : i < (items.toList.zip items2.toList).length
        · exact h'
        · rw [List.drop_of_length_le (Nat.le_of_not_lt h')] at hz; cases hz
      have hm : i < min items.size items2.size := by rw [← hZ]; exact hlt
      have h1 : i < items.toList.length := by simp; omega
      have h2 : i < items2.toList.length := by simp; omega
      rw [List.drop_eq_getElem_cons hlt, List.getElem_zip] at hz
      injection hz with hyx hrest
      injection hyx with ey ex
      rw [List.drop_eq_getElem_cons h1, List.drop_eq_getElem_cons h2] at ht
      obtain ⟨e, t1, t2, t3⟩ := ht
      rw [← ey, ← ex] at t1 t3
      refine wpAny_bind (t1 prog w _ _ ?_)
      cases e with
      | true =>
        have t2 := t2 rfl
        wp_walk
        exact ⟨rfl, rfl, i + 1, hrest, hm, t2⟩
      | false =>
        have t4 := t3 rfl prog w
        clear t3
        revert t4
        generalize richCompare CmpOp.Lt y x = rc
        intro t4
        wp_walk
        refine t4 _ _ ?_
        wp_walk
        exact ⟨_, rfl, hR⟩
    case fin =>
      rintro ⟨b1, b2⟩ s' ⟨hb', rfl, i, hz, him, ht⟩
      simp only at hb'
      subst hb'
      have hge : min items.size items2.size ≤ i := by
        by_cases h' : i < (items.toList.zip items2.toList).length
        · rw [List.drop_eq_getElem_cons h'] at hz; cases hz
        · rw [← hZ]; exact Nat.le_of_not_lt h'
      have hk := ht.fin (by
        by_cases hs : items.size ≤ items2.size
        · left; apply List.drop_of_length_le; simp; omega
        · right; apply List.drop_of_length_le; simp; omega)
      have hk2 : k = decide (items.size < items2.size) := by
        rw [hk, decide_eq_decide, List.length_drop, List.length_drop, Array.length_toList, Array.length_toList]
        omega
      wp_walk
      exact ⟨_, rfl, by simpa [Builtin.Tuple.tupleCompareSizes, ← hk2] using hR⟩
    case h =>
      exact ⟨rfl, rfl, 0, rfl, Nat.zero_le _, by simpa using ht⟩
end
theorem RcLt.tupF {A : Around} {s : Shared} {l b : Addr} {items items2 : Array Value} {k : Bool} (hl : s.heap.IsTuple l items) (hb : s.heap.IsTuple b items2) (hu : A.units < cLine) (ht : TLt A.in1 s items.toList items2.toList k) : RcLt A s (.ref l) (.ref b) k := fun prog w E Q h => by
  obtain ⟨⟨cls, dd, data, sl⟩, ho, hc, n, hd⟩ := id hl
  obtain ⟨⟨cls2, dd2, data2, sl2⟩, ho2, hc2, n2, hd2⟩ := id hb
  simp only at hc hd hc2 hd2
  subst hc hd hc2 hd2
  exact richCompare_meets_room (op := .Lt) ⟨_, ho, rfl⟩ ⟨_, ho2, rfl⟩ F.slot_tuple_lt F.entry_tuple_lt (F.args_tuple_lt_2 _ _) (tup_ltF l b items items2 n n2 dd dd2 sl sl2 k)
    ⟨ho, ho2, ht, show Value.bool k ≠ Value.notImplemented ∧ Q (.bool k) s from ⟨(fun x => nomatch x), h⟩⟩ hu

/-! ### by trees -/
theorem vp_eq {A : Around} {s : Shared} {p q : PV} {u v : Value} (hu : VP s.heap p u) (hv : VP s.heap q v) (pp : p.pl = true) (pq : q.pl = true) (hd : A.units + min p.dp q.dp < cLine) : EqAt A s u v (decide (p = q)) := by
  obtain ⟨as, r1⟩ := hu.reads _ _ pp
  obtain ⟨bs, r2⟩ := hv.reads _ _ pq
  rw [← PV.beq_dec, ← PV.D_eqv p q pp pq]
  exact eqAt_reads p.D q.D A s u v as bs r1 r2 (PV.D_lay _ pp) (PV.D_lay _ pq) (by rw [PV.D_depth, PV.D_depth]; exact hd)
mutual
theorem vp_lt : ∀ (p q : PV) (A : Around) (s : Shared) (u v : Value) (k : Bool), VP s.heap p u → VP s.heap q v → p.pl = true → q.pl = true → A.units + min p.dp q.dp < cLine → PV.lt? p q = some k → RcLt A s u v k
  | .int a, q, A, s, u, v, k, hu, hv, pp, pq, hd, hk => by
    cases q <;> simp only [PV.lt?, reduceCtorEq] at hk
    cases hk
    obtain ⟨as, r1⟩ := hu.reads _ _ pp
    obtain ⟨bs, r2⟩ := hv.reads _ _ pq
    have := PySem.W.rcLt_alike _ _ A s u v as bs r1 r2 (by simp [PV.D, PySem.W.alike]) (by simp [PV.D]) (by rw [PV.D_depth, PV.D_depth]; exact hd)
    rw [PV.D, PV.D, PySem.W.dataLt_int] at this
    exact this
  | .str x, q, A, s, u, v, k, hu, hv, pp, pq, hd, hk => by
    cases q <;> simp only [PV.lt?, reduceCtorEq] at hk
    cases hk
    obtain ⟨as, r1⟩ := hu.reads _ _ pp
    obtain ⟨bs, r2⟩ := hv.reads _ _ pq
    have := PySem.W.rcLt_alike _ _ A s u v as bs r1 r2 (by simp [PV.D, PySem.W.alike]) (by simp [PV.D]) (by rw [PV.D_depth, PV.D_depth]; exact hd)
    rw [PV.D, PV.D, PySem.W.dataLt_str] at this
    exact this
  | .tup ps, q, A, s, u, v, k, hu, hv, pp, pq, hd, hk => by
    cases q <;> simp only [PV.lt?, reduceCtorEq] at hk
    rename_i qs
    simp only [VP] at hu hv
    obtain ⟨a, o, n, vs, rfl, e, c, d, r⟩ := hu
    obtain ⟨a', o', n', vs', rfl, e', c', d', r'⟩ := hv
    simp only [PV.dp] at hd
    have h0 : A.units < cLine := by omega
    exact RcLt.tupF ⟨o, e, c, n, d⟩ ⟨o', e', c', n', d'⟩ h0 (vps_lt ps qs A.in1 s _ _ k r r' (by simpa [PV.pl] using pp) (by simpa [PV.pl] using pq) (by show A.units + 1 + _ < _; omega) hk)
  | .non, q, _, _, _, _, _, _, _, _, _, _, h => by cases q <;> simp [PV.lt?] at h
  | .bl _, q, _, _, _, _, _, _, _, _, _, _, h => by cases q <;> simp [PV.lt?] at h
  | .ref _, q, _, _, _, _, _, _, _, _, _, _, h => by cases q <;> simp [PV.lt?] at h
  | .scr _, q, _, _, _, _, _, _, _, _, _, _, h => by cases q <;> simp [PV.lt?] at h
theorem vps_lt : ∀ (ps qs : List PV) (A : Around) (s : Shared) (us vs : List Value) (k : Bool), VPs s.heap ps us → VPs s.heap qs vs → PV.pls ps = true → PV.pls qs = true → A.units + min (PV.dps ps) (PV.dps qs) < cLine → PV.lts? ps qs = some k → TLt A s us vs k
  | [], qs, A, s, us, vs, k, hu, hv, _, _, _, hk => by
    have hl := hv.len
    simp only [VPs] at hu
    subst hu
    simp only [PV.lts?, Option.some.injEq] at hk
    rw [← hk]
    show (!qs.isEmpty) = !vs.isEmpty
    cases qs <;> cases vs <;> simp at hl ⊢
  | p :: ps, [], A, s, us, vs, k, hu, hv, _, _, _, hk => by
    simp only [VPs] at hu hv
    obtain ⟨u, ur, rfl, v1, v2⟩ := hu
    subst hv
    simp only [PV.lts?, Option.some.injEq] at hk
    exact hk.symm
  | p :: ps, q :: qs, A, s, us, vs, k, hu, hv, pp, pq, hd, hk => by
    simp only [VPs] at hu hv
    obtain ⟨u, ur, rfl, v1, v2⟩ := hu
    obtain ⟨u', ur', rfl, w1, w2⟩ := hv
    simp only [PV.pls, Bool.and_eq_true] at pp pq
    simp only [PV.dps] at hd
    refine ⟨decide (p = q), vp_eq v1 w1 pp.1 pq.1 (by omega), fun e => ?_, fun e => ?_⟩
    · simp only [PV.lts?, if_pos (of_decide_eq_true e)] at hk
      exact vps_lt ps qs A s ur ur' k v2 w2 pp.2 pq.2 (by omega) hk
    · simp only [PV.lts?, if_neg (of_decide_eq_false e)] at hk
      exact vp_lt p q A s u u' k v1 w1 pp.1 pq.1 (by omega) hk
end
def PV.isTup : PV → Bool
  | .tup _ => true | _ => false
section
variable {prog : Program} {w : World} {A : Around} {E : Value → Shared → Prop} {s : Shared} {Q : Bool → Shared → Prop}
theorem vp_one {f : Bool} {p q : PV} {u v : Value} {k : Bool} (hu : VP s.heap p u) (hv : VP s.heap q v) (pp : p.pl = true) (pq : q.pl = true) (hd : A.units + min p.dp q.dp < cLine) (hk : PV.lt? p q = some k) (hf : f = true → p.isTup = false) (h : Q k s) :
    wpAny (model prog w) A (oneLt' f u v) Q E s := by
  cases f with
  | false => exact kat_one' (vp_lt p q A s u v k hu hv pp pq hd hk) h
  | true =>
    obtain ⟨as, r1⟩ := hu.reads _ _ pp
    obtain ⟨bs, r2⟩ := hv.reads _ _ pq
    cases p with
    | int a =>
      cases q <;> simp only [PV.lt?, reduceCtorEq] at hk
      cases hk
      refine PySem.W.oneLt_alike (fun _ xs => by simp [PV.D]) r1 r2 (by simp [PV.D, PySem.W.alike]) (by simp [PV.D]) (by rw [PV.D_depth, PV.D_depth]; exact hd) ?_
      rw [PV.D, PV.D, PySem.W.dataLt_int]; exact h
    | str a =>
      cases q <;> simp only [PV.lt?, reduceCtorEq] at hk
      cases hk
      refine PySem.W.oneLt_alike (fun _ xs => by simp [PV.D]) r1 r2 (by simp [PV.D, PySem.W.alike]) (by simp [PV.D]) (by rw [PV.D_depth, PV.D_depth]; exact hd) ?_
      rw [PV.D, PV.D, PySem.W.dataLt_str]; exact h
    | tup xs => exact absurd (hf rfl) (by simp [PV.isTup])
    | _ => cases q <;> simp [PV.lt?] at hk
where
  kat_one' {u v : Value} {k : Bool} (r : RcLt A s u v k) (h : Q k s) : wpAny (model prog w) A (oneLt' false u v) Q E s := by
    rw [oneLt'_eq]
    simp only [Bool.false_eq_true, if_false]
    exact wpAny_bind (r prog w E _ (wpAny_truthy_bool h))
/-- the first of a tuple -/
def hdTup : List PV → Bool
  | p :: _ => p.isTup
  | [] => false
theorem vps_kat {b fin : Bool} {k : Bool} : ∀ (ps qs : List PV) (i : Nat) (us vs : List Value), VPs s.heap ps us → VPs s.heap qs vs → PV.pls ps = true → PV.pls qs = true → A.units + min (PV.dps ps) (PV.dps qs) < cLine → PV.lts? ps qs = some k →
    (b = true → i = 0 → hdTup ps = false) → fin = decide (us.length < vs.length) → Q k s → PySem.W.KatLex prog w A b fin Q (us.zip vs) i s
  | [], qs, i, us, vs, hu, hv, _, _, _, hk, _, hf, h => by
    have hl := hv.len
    simp only [VPs] at hu
    subst hu
    simp only [PV.lts?, Option.some.injEq] at hk
    have e : fin = k := by
      rw [hf, ← hk]
      cases qs <;> cases vs <;> simp at hl ⊢
    subst e
    exact PySem.W.kat_nil h
  | p :: ps, [], i, us, vs, hu, hv, _, _, _, hk, _, hf, h => by
    simp only [VPs] at hu hv
    obtain ⟨u, ur, rfl, v1, v2⟩ := hu
    subst hv
    simp only [PV.lts?, Option.some.injEq] at hk
    have e : fin = k := by rw [hf, ← hk]; simp
    subst e
    exact PySem.W.kat_nil h
  | p :: ps, q :: qs, i, us, vs, hu, hv, pp, pq, hd, hk, hb, hf, h => by
    simp only [VPs] at hu hv
    obtain ⟨u, ur, rfl, v1, v2⟩ := hu
    obtain ⟨u', ur', rfl, w1, w2⟩ := hv
    simp only [PV.pls, Bool.and_eq_true] at pp pq
    simp only [PV.dps] at hd
    rw [List.zip_cons_cons]
    refine PySem.W.kat_cons (vp_eq v1 w1 pp.1 pq.1 (by omega) prog w _ _ ?_)
    by_cases e : p = q
    · rw [decide_eq_true e]
      simp only [PV.lts?, if_pos e] at hk
      exact PySem.W.kat_yes (vps_kat ps qs (i + 1) ur ur' v2 w2 pp.2 pq.2 (by omega) hk (fun _ z => absurd z (Nat.succ_ne_zero i)) (by rw [hf]; simp) h)
    · rw [decide_eq_false e]
      simp only [PV.lts?, if_neg e] at hk
      refine PySem.W.kat_no (vp_one v1 w1 pp.1 pq.1 (by omega) hk (fun z => ?_) h)
      rw [Bool.and_eq_true] at z
      exact hb z.1 (by simpa using z.2)
end
end G

set_option maxHeartbeats 4000001
namespace G
open PySem PySem.Spec
open PyProof.Rows L2
/-! ### texts that are sorted are what isort makes of them -/
theorem srtd_of_rising : ∀ (r : List Str) (p : Str), risingS p r = true → SrtO.Srtd PV.o ((p :: r).map fun z => PV.str z.cps.toList)
  | [], p, _ => by simp [SrtO.Srtd]
  | x :: r, p, h => by
    simp only [risingS, Bool.and_eq_true, Bool.not_eq_true', ltCps_eq, decide_eq_false_iff_not] at h
    have ih := srtd_of_rising r x h.2
    have st : ∀ {a b : List Nat}, ¬ b < a → PV.o (.str b) (.str a) = false := fun {a b} z => PV.o_of (show PV.lt? (.str b) (.str a) = some false by simp only [PV.lt?]; rw [decide_eq_false z])
    have ts : ∀ {a b : List Nat}, PV.o (.str b) (.str a) = false → ¬ b < a := fun {a b} z => by
      have q := PV.o_of (show PV.lt? (.str b) (.str a) = some (decide (b < a)) from rfl)
      rw [z] at q
      exact of_decide_eq_false q.symm
    rw [List.map_cons]
    refine List.pairwise_cons.mpr ⟨fun y hy => ?_, ih⟩
    rw [List.map_cons] at hy ih
    rcases List.mem_cons.mp hy with ey | hy
    · subst ey; exact st h.1
    · obtain ⟨z, hz, rfl⟩ := List.mem_map.mp hy
      have q := ts ((List.pairwise_cons.mp ih).1 _ hy)
      have a1 := List.not_lt.mp h.1
      have a2 := List.not_lt.mp q
      exact st (List.not_lt.mpr (List.le_trans a1 a2))
theorem str_anti {a b : List Nat} (h1 : PV.o (.str a) (.str b) = false) (h2 : PV.o (.str b) (.str a) = false) : a = b := by
  have e1 := PV.o_of (show PV.lt? (.str a) (.str b) = some (decide (a < b)) from rfl)
  have e2 := PV.o_of (show PV.lt? (.str b) (.str a) = some (decide (b < a)) from rfl)
  rw [h1] at e1
  rw [h2] at e2
  exact List.le_antisymm (List.not_lt.mp (of_decide_eq_false e2.symm)) (List.not_lt.mp (of_decide_eq_false e1.symm))
theorem sorted_isort {ks ys : List Str} (pm : ys.Perm ks) (s : sortedS ys = true) : (ys.map fun z => PV.str z.cps.toList) = isort (ks.map fun z => PV.str z.cps.toList) := by
  have sr : SrtO.Srtd PV.o (ys.map fun z => PV.str z.cps.toList) := by
    cases ys with
    | nil => simp [SrtO.Srtd]
    | cons y r => exact srtd_of_rising r y s
  have si := isort_ok (ks.map fun z => PV.str z.cps.toList)
  have pp : (ys.map fun z => PV.str z.cps.toList).Perm (isort (ks.map fun z => PV.str z.cps.toList)) := (pm.map _).trans si.2.perm.symm
  refine pp.eq_of_pairwise (le := fun x y => PV.o y x = false) (fun a b ha hb h1 h2 => ?_) sr si.1
  obtain ⟨x, _, rfl⟩ := List.mem_map.mp ha
  obtain ⟨y, _, rfl⟩ := List.mem_map.mp (si.2.perm.mem_iff.mp hb)
  rw [str_anti h2 h1]
end G

namespace G
open PySem PySem.Spec PyProof.Rows L2

def PV.isInt : PV → Bool
  | .int _ => true | _ => false
def PV.isStr : PV → Bool
  | .str _ => true | _ => false
def hd? : PV → Option PV
  | .tup (p :: _) => some p
  | _ => none
def hdAll (f : PV → Bool) (ps : List PV) : Bool := ps.all fun p => match hd? p with | some x => f x | none => false
/-- what sorted sorts -/
def sortOk (ps : List PV) : Bool := PV.pls ps && decide (PV.dps ps ≤ 60) && (ps.all fun p => ps.all fun q => (PV.lt? p q).isSome) &&
  (ps.all PV.isInt || ps.all PV.isStr || hdAll PV.isInt ps || hdAll PV.isStr ps || hdAll PV.isTup ps)
open Classical in
/-- the tree of a value in the heap -/
noncomputable def dec (h : Heap) (u : Value) : PV := if q : ∃ p, VP h p u then q.choose else .non
theorem dec_of {h : Heap} {p : PV} {u : Value} (v : VP h p u) : dec h u = p := by
  have q : ∃ p, VP h p u := ⟨p, v⟩
  unfold dec
  rw [dif_pos q]
  exact VP.uniq _ _ _ q.choose_spec v
noncomputable def ltD (h : Heap) (u v : Value) : Bool := PV.o (dec h u) (dec h v)
theorem ltD_swo (h : Heap) : SrtO.Swo (ltD h) := ⟨fun x y => PV.swo.asym _ _, fun x y z => PV.swo.tr _ _ _⟩
theorem vps_map {h : Heap} : ∀ {ps : List PV} {us : List Value}, VPs h ps us → us.map (dec h) = ps
  | [], us, v => by simp only [VPs] at v; subst v; rfl
  | p :: ps, us, v => by
    simp only [VPs] at v
    obtain ⟨u, ur, rfl, v1, v2⟩ := v
    rw [List.map_cons, dec_of v1, vps_map v2]
theorem vps_mem {h : Heap} : ∀ {ps : List PV} {us : List Value}, VPs h ps us → ∀ u ∈ us, ∃ p ∈ ps, VP h p u
  | [], us, v => by simp only [VPs] at v; subst v; intro u hu; cases hu
  | p :: ps, us, v => by
    simp only [VPs] at v
    obtain ⟨u, ur, rfl, v1, v2⟩ := v
    intro x hx
    rcases List.mem_cons.mp hx with rfl | hx
    · exact ⟨p, List.mem_cons_self, v1⟩
    · obtain ⟨q, a, b⟩ := vps_mem v2 x hx
      exact ⟨q, List.mem_cons_of_mem _ a, b⟩
theorem vps_ints {h : Heap} : ∀ {ps : List PV} {us : List Value}, VPs h ps us → ps.all PV.isInt = true → ∃ ns, IntsAre us ns
  | [], us, v, _ => by simp only [VPs] at v; subst v; exact ⟨_, .nil⟩
  | p :: ps, us, v, a => by
    simp only [VPs] at v
    obtain ⟨u, ur, rfl, v1, v2⟩ := v
    simp only [List.all_cons, Bool.and_eq_true] at a
    obtain ⟨ns, q⟩ := vps_ints v2 a.2
    cases p <;> simp [PV.isInt] at a
    simp only [VP] at v1
    obtain ⟨t, rfl⟩ := v1
    exact ⟨_, .cons _ _ q⟩
theorem vps_strs {h : Heap} : ∀ {ps : List PV} {us : List Value}, VPs h ps us → ps.all PV.isStr = true → ∃ ns, StrsAre us ns
  | [], us, v, _ => by simp only [VPs] at v; subst v; exact ⟨_, .nil⟩
  | p :: ps, us, v, a => by
    simp only [VPs] at v
    obtain ⟨u, ur, rfl, v1, v2⟩ := v
    simp only [List.all_cons, Bool.and_eq_true] at a
    obtain ⟨ns, q⟩ := vps_strs v2 a.2
    cases p <;> simp [PV.isStr] at a
    simp only [VP] at v1
    obtain ⟨t, rfl⟩ := v1
    exact ⟨_, .cons _ _ q⟩
theorem vps_mem2 {h h' : Heap} : ∀ {ps : List PV} {us : List Value}, VPs h ps us → VPs h' ps us → ∀ u ∈ us, ∃ p ∈ ps, VP h p u ∧ VP h' p u
  | [], us, v, _ => by simp only [VPs] at v; subst v; intro u hu; cases hu
  | p :: ps, us, v, w => by
    simp only [VPs] at v w
    obtain ⟨u, ur, rfl, v1, v2⟩ := v
    obtain ⟨u', ur', e, w1, w2⟩ := w
    cases e
    intro x hx
    rcases List.mem_cons.mp hx with rfl | hx
    · exact ⟨p, List.mem_cons_self, v1, w1⟩
    · obtain ⟨q, a, b⟩ := vps_mem2 v2 w2 x hx
      exact ⟨q, List.mem_cons_of_mem _ a, b⟩
theorem dps_mem {ps : List PV} {n : Nat} (h : PV.dps ps ≤ n) {p : PV} (m : p ∈ ps) : p.dp ≤ n := by
  induction ps with
  | nil => cases m
  | cons x xs ih =>
    simp only [PV.dps] at h
    rcases List.mem_cons.mp m with rfl | m
    · omega
    · exact ih (by omega) m
def TyOf (h : Heap) (f : PV → Bool) (T : String) : Prop := ∀ (M : Model) (p : PV) (u : Value), f p = true → VP h p u → PySem.W.Looks M h (typeOf u) (.type T)
theorem vps_tups {h : Heap} {f : PV → Bool} {T : String} (hT : TyOf h f T) : ∀ {ps : List PV} {us : List Value}, VPs h ps us → hdAll f ps = true → ∃ fs, PySem.W.KatTups h us fs ∧ fs.length = us.length ∧ ∀ (M : Model), ∀ u ∈ fs, PySem.W.Looks M h (typeOf u) (.type T)
  | [], us, v, _ => by simp only [VPs] at v; subst v; exact ⟨[], .nil, rfl, fun _ u hu => nomatch hu⟩
  | p :: ps, us, v, a => by
    simp only [VPs] at v
    obtain ⟨u, ur, rfl, v1, v2⟩ := v
    simp only [hdAll, List.all_cons, Bool.and_eq_true] at a
    obtain ⟨fs, q1, q2, q3⟩ := vps_tups hT v2 a.2
    cases p <;> simp only [hd?, Bool.false_eq_true, false_and] at a
    rename_i xs
    cases xs <;> simp only [hd?, Bool.false_eq_true, false_and] at a
    rename_i x xs
    simp only [VP, VPs] at v1
    obtain ⟨a', o, n, vs, rfl, e, c, d, u1, ur1, e1, w1, w2⟩ := v1
    have hx : vs[0]? = some u1 := by rw [← Array.getElem?_toList, e1]; rfl
    refine ⟨u1 :: fs, .cons e c d hx q1, by simp [q2], fun M u hu => ?_⟩
    rcases List.mem_cons.mp hu with rfl | hu
    · exact hT M x _ a.1 w1
    · exact q3 M u hu
section
variable {prog : Program} {w : World} {A : Around} {s : Shared}
theorem hdTup_of {f : PV → Bool} (hf : ∀ p, f p = true → p.isTup = false) {ps : List PV} (h : hdAll f ps = true) {p : PV} (hp : p ∈ ps) : ∃ xs, p = .tup xs ∧ hdTup xs = false := by
  have := List.all_eq_true.mp h p hp
  cases p <;> simp only [hd?, Bool.false_eq_true] at this
  rename_i xs
  cases xs <;> simp only [hd?, Bool.false_eq_true] at this
  exact ⟨_, rfl, hf _ this⟩
theorem cmp_one {h0 : Heap} {ps : List PV} {us : List Value} (v0 : VPs h0 ps us) (v : VPs s.heap ps us) (hp : PV.pls ps = true) (hd : PV.dps ps ≤ 60) (hu : A.units + 60 < cLine) (hc : ∀ p ∈ ps, ∀ q ∈ ps, (PV.lt? p q).isSome = true) (hn : ∀ p ∈ ps, p.isTup = false) :
    SrtO.Cmp prog w A s oneType' (fun p => p.1 ∈ us) (SrtO.lt2 (ltD h0)) := by
  intro x y hx hy
  obtain ⟨p, a1, a2⟩ := vps_mem v _ hx
  obtain ⟨q, b1, b2⟩ := vps_mem v _ hy
  obtain ⟨k, hk⟩ := Option.isSome_iff_exists.mp (hc p a1 q b1)
  have e1 : dec h0 x.1 = p := by
    obtain ⟨p', a1', a2'⟩ := vps_mem2 v0 v _ hx
    rw [dec_of a2'.1, VP.uniq _ _ _ a2 a2'.2]
  have e2 : dec h0 y.1 = q := by
    obtain ⟨p', a1', a2'⟩ := vps_mem2 v0 v _ hy
    rw [dec_of a2'.1, VP.uniq _ _ _ b2 a2'.2]
  show wpAny (model prog w) A (keyLt' oneType' x.1 y.1) _ _ s
  rw [keyLt'_oneType]
  have d1 := dps_mem hd a1
  refine vp_one a2 b2 (pls_mem hp a1) (pls_mem hp b1) (by omega) hk (fun _ => hn p a1) ⟨rfl, ?_⟩
  show k = PV.o (dec h0 x.1) (dec h0 y.1)
  rw [e1, e2, PV.o_of hk]
theorem cmp_tup {h0 : Heap} {ps : List PV} {us : List Value} {b : Bool} (v0 : VPs h0 ps us) (v : VPs s.heap ps us) (hp : PV.pls ps = true) (hd : PV.dps ps ≤ 60) (hu : A.units + 60 < cLine) (hc : ∀ p ∈ ps, ∀ q ∈ ps, (PV.lt? p q).isSome = true)
    (hn : ∀ p ∈ ps, ∃ xs, p = .tup xs ∧ (b = true → hdTup xs = false)) : SrtO.Cmp prog w A s (tuples' b) (fun p => p.1 ∈ us) (SrtO.lt2 (ltD h0)) := by
  intro x y hx hy
  obtain ⟨p, a1, a2, a3⟩ := vps_mem2 v0 v _ hx
  obtain ⟨q, b1, b2, b3⟩ := vps_mem2 v0 v _ hy
  obtain ⟨k, hk⟩ := Option.isSome_iff_exists.mp (hc p a1 q b1)
  show wpAny (model prog w) A (keyLt' (tuples' b) x.1 y.1) _ _ s
  have d1 := dps_mem hd a1
  have p1 := pls_mem hp a1
  have p2 := pls_mem hp b1
  have ek : k = SrtO.lt2 (ltD h0) x y := by
    show k = PV.o (dec h0 x.1) (dec h0 y.1)
    rw [dec_of a2, dec_of b2, PV.o_of hk]
  obtain ⟨xs, rfl, hxs⟩ := hn p a1
  obtain ⟨ys, rfl, hys⟩ := hn q b1
  simp only [VP] at a3 b3
  obtain ⟨l, o, n, us1, e1, f1, f2, f3, f4⟩ := a3
  obtain ⟨l', o', n', us1', e1', f1', f2', f3', f4'⟩ := b3
  rw [e1, e1']
  refine PySem.W.kat_lt f1 f3 f1' f3' (vps_kat xs ys 0 _ _ f4 f4' (by simpa [PV.pl] using p1) (by simpa [PV.pl] using p2) ?_ (by simpa [PV.lt?] using hk) (fun z _ => hxs z) (by simp) ⟨rfl, ek⟩)
  simp only [PV.dp] at d1
  omega
theorem sortable_pv {h0 : Heap} {a : Addr} {ps : List PV} {us : List Value} (v0 : VPs h0 ps us) (v : VPs s.heap ps us) (ok : sortOk ps = true) (h2 : 2 ≤ us.length) (hu : A.units + 60 < cLine) (ha : ∀ o, s.heap.get? a = some o → o.cls ≠ .type "tuple") :
    SrtO.SortableO prog w A s a us (ltD h0) := by
  intro h' keep
  have v' : VPs h' ps us := v.keep (fun b o e c => keep b o (fun z => ha o (z ▸ e) c) e) ps us
  unfold sortOk at ok
  simp only [Bool.and_eq_true, decide_eq_true_eq, List.all_eq_true] at ok
  obtain ⟨⟨⟨hp, hd⟩, hc⟩, kind⟩ := ok
  have two : ∃ u1 u2 ur, us = u1 :: u2 :: ur := by
    match us, h2 with
    | u1 :: u2 :: ur, _ => exact ⟨_, _, _, rfl⟩
  have tInt : TyOf h' PV.isInt "int" := fun M p u e r => by
    cases p <;> simp [PV.isInt] at e
    simp only [VP] at r
    obtain ⟨t, rfl⟩ := r
    exact PySem.W.Looks.now
  have tStr : TyOf h' PV.isStr "str" := fun M p u e r => by
    cases p <;> simp [PV.isStr] at e
    simp only [VP] at r
    obtain ⟨t, rfl⟩ := r
    exact PySem.W.Looks.now
  have tTup : TyOf h' PV.isTup "tuple" := fun M p u e r => by
    cases p <;> simp [PV.isTup] at e
    simp only [VP] at r
    obtain ⟨l, o, n, us1, e1, f1, f2, f3, f4⟩ := r
    rw [e1, ← f2]
    exact (PySem.W.Looks.ld f1).andThen .now
  have byT : ∀ {f : PV → Bool} {T : String}, (Value.type T == Value.type T) = true → TyOf h' f T → hdAll f ps = true → (∀ p, f p = true → (Value.type T != Value.type "tuple") = true → p.isTup = false) → ∃ κ,
      (∀ (Q : SortKind → Shared → Prop) (E : Value → Shared → Prop), Q κ { s with heap := h' } → wpAny (model prog w) A (keyKind' us.toArray) Q E { s with heap := h' }) ∧ SrtO.Cmp prog w A { s with heap := h' } κ (fun p => p.1 ∈ us) (SrtO.lt2 (ltD h0)) := fun {f T} hTT hT ha hf => by
    obtain ⟨fs, q1, q2, q3⟩ := vps_tups hT v' ha
    refine ⟨_, fun Q E hq => PySem.W.kat_kind (s := { s with heap := h' }) (T := .type T) q1 (by omega) (fun u m => q3 _ u m) hTT hq, cmp_tup (s := { s with heap := h' }) v0 v' hp hd hu hc fun p m => ?_⟩
    have := List.all_eq_true.mp ha p m
    cases p <;> simp only [hd?, Bool.false_eq_true] at this
    rename_i xs
    cases xs <;> simp only [hd?, Bool.false_eq_true] at this
    exact ⟨_, rfl, fun z => hf _ this z⟩
  simp only [Bool.or_eq_true, List.all_eq_true] at kind
  rcases kind with (((kind | kind) | kind) | kind) | kind
  · obtain ⟨ns, hI⟩ := vps_ints v' (List.all_eq_true.mpr kind)
    obtain ⟨u1, u2, ur, rfl⟩ := two
    refine ⟨oneType', fun Q E hq => wpAny_of_eq (keyKind_ints hI) hq, cmp_one (s := { s with heap := h' }) v0 v' hp hd hu hc fun p m => ?_⟩
    have := kind p m
    cases p <;> simp [PV.isInt, PV.isTup] at this ⊢
  · obtain ⟨ns, hI⟩ := vps_strs v' (List.all_eq_true.mpr kind)
    obtain ⟨u1, u2, ur, rfl⟩ := two
    refine ⟨oneType', fun Q E hq => wpAny_of_eq (keyKind_strs hI) hq, cmp_one (s := { s with heap := h' }) v0 v' hp hd hu hc fun p m => ?_⟩
    have := kind p m
    cases p <;> simp [PV.isStr, PV.isTup] at this ⊢
  · exact byT (by rfl) tInt kind fun p e _ => by cases p <;> simp [PV.isInt, PV.isTup] at e ⊢
  · exact byT (by rfl) tStr kind fun p e _ => by cases p <;> simp [PV.isStr, PV.isTup] at e ⊢
  · exact byT (by rfl) tTup kind fun p e z => by exact absurd z (by decide)
end
/-! ### sorted -/
def zSorted : ZC
  | [.ref a], h, Q => match h a with
    | some (.lst ps) => sortOk ps = true ∧ ∀ d, h d = none → Q (.ref d) (up h d (.lst (isort ps)))
    | some (.dic false _ kvs) => ∃ ks : List (List Nat), kvs.map Prod.fst = ks.map PV.str ∧ ks.length < 64 ∧ ∀ d, h d = none → Q (.ref d) (up h d (.lst (isort (ks.map PV.str))))
    | _ => False
  | _, _, _ => False
section
variable {X : Cx}
theorem back_rvs {K : PySem.W.Frag} {H : Hp} {h : Heap} {xs : List V} {us : List Value} {ps : List PV} (r : RVs K H xs ps) (rv : Vals xs us) (v : VPs h ps us) : ∀ out : List Value, (∀ u ∈ out, u ∈ us) → ∃ ys, Vals ys out ∧ RVs K H ys (out.map (dec h))
  | [], _ => ⟨[], .nil, .nil⟩
  | u :: out, m => by
    obtain ⟨ys, q1, q2⟩ := back_rvs r rv v out fun w hw => m w (List.mem_cons_of_mem _ hw)
    obtain ⟨x, q3, q4⟩ := one r rv v u (m u List.mem_cons_self)
    exact ⟨x :: ys, .cons q3 q1, .cons q4 q2⟩
where
  one {xs : List V} {us : List Value} {ps : List PV} (r : RVs K H xs ps) (rv : Vals xs us) (v : VPs h ps us) : ∀ u ∈ us, ∃ x, RelV x u ∧ RV K H x (dec h u) := by
    induction rv generalizing ps with
    | nil => intro u hu; cases hu
    | cons q t ih =>
      intro u hu
      cases r with
      | cons r1 r2 =>
        simp only [VPs] at v
        obtain ⟨u', ur, e, v1, v2⟩ := v
        cases e
        rcases List.mem_cons.mp hu with rfl | hu
        · exact ⟨_, q, by rw [dec_of v1]; exact r1⟩
        · exact ih r2 v2 u hu
theorem stb_symm {α : Type} {lt : α → α → Bool} {l m : List α} (h : SrtO.Stb lt l m) : SrtO.Stb lt m l := ⟨h.perm.symm, fun x => (h.cls x).symm⟩
theorem keys_strs {K : PySem.W.Frag} {H : Hp} : ∀ {kvs : List (PV × PV)} {ds : List (Key × V)} {ks : List (List Nat)}, Paired (EntK K H) kvs ds → kvs.map Prod.fst = ks.map PV.str → ds.map (·.1) = (ks.map tS).map Sum.inr
  | _, _, [], .nil, _ => rfl
  | _, _, k :: ks, .cons q t, e => by
    rw [List.map_cons, List.map_cons, List.cons.injEq] at e
    have ih := keys_strs t e.2
    rw [List.map_cons, ih]
    have e1 := q.1.symm.trans e.1
    revert e1
    rename_i b _ _
    obtain ⟨b1, b2⟩ := b
    cases b1 with
    | inl i => intro z; cases z
    | inr z =>
      intro e1
      have e2 : z.cps.toList = k := by injection e1
      show Sum.inr z :: _ = _
      rw [← e2, List.map_cons, List.map_cons, tS_of]
  | _, _, _ :: _, .nil, e => by cases e
  | _, _, [], .cons q t, e => by cases e
theorem rvs_strs {K : PySem.W.Frag} {H : Hp} : ∀ ys : List Str, RVs K H (ys.map V.str) (ys.map fun z => PV.str z.cps.toList)
  | [] => .nil
  | y :: ys => .cons (by have q := RV.str (K := K) (H := H) y.cps.toList; rw [tS_of] at q; exact q) (rvs_strs ys)
theorem qc_sorted (hc : X.calm = true) (hu : X.A.units + 70 < cLine) : QC X (.builtin "sorted") zSorted := by
  intro pins s σ H xs us Q I r ⟨ps, h, Qp, rp, rh, z, k⟩
  unfold zSorted at z
  split at z
  · rename_i a
    obtain ⟨v, rfl, r1⟩ := rvs_one rp
    cases r1
    split at z
    · rename_i qs ea
      obtain ⟨ok, z⟩ := z
      obtain ⟨ws, f1, l1, q1⟩ := rh a _ ea
      obtain ⟨its, rv, hl, hz⟩ := I.list (SqL.of f1)
      obtain ⟨u, rfl, ru⟩ := r.one
      obtain rfl : u = Value.ref a := ru
      have hp : PV.pls qs = true := by
        unfold sortOk at ok
        simp only [Bool.and_eq_true] at ok
        exact ok.1.1.1
      have vp := RVs.vp I qs ws its q1 hp rv
      have hzi : its.length ≤ sizeLine := by rw [← rv.length]; exact l1
      refine SrtO.sorted_ord (ltD_swo s.heap) hl.isList hzi (fun h2 h₁ a' ha kk => ?_) fun out hs hb => ?_
      · refine sortable_pv (s := { s with heap := h₁ }) vp (vp.keep (fun b o e _ => (kk b o e).2) qs its) ok h2 (by show X.A.units + 1 + 1 + 60 < cLine; omega) fun o e c => ?_
        have e' : some o = some (seqObj "list" its.toArray 0) := e.symm.trans ha
        cases e'
        exact absurd (Value.type.inj c) (by decide)
      · have hmap : out.map (dec s.heap) = isort qs := by
          have b1 : SrtO.Stb PV.o (out.map (dec s.heap)) (its.map (dec s.heap)) := SrtO.Stb.map PV.swo (dec s.heap) hb
          rw [vps_map vp] at b1
          exact SrtO.stb_uniq PV.swo (SrtO.srtd_map hs) (isort_ok qs).1 (b1.trans (stb_symm (isort_ok qs).2))
        obtain ⟨ys, y1, y2⟩ := back_rvs q1 rv vp out fun u m => hb.perm.mem_iff.mp m
        rw [hmap] at y2
        have hlen : ys.length ≤ sizeLine := by rw [y1.length, hb.perm.length_eq]; exact hzi
        have hfr : H (s.heap.objs.size + 1) = none := I.hok.fresh (Nat.le_succ _)
        obtain ⟨n, hn⟩ := sortedAll_at s.heap its out.toArray
        have st : Stp h H (up h (s.heap.objs.size + 1) (.lst (isort qs))) (upd H (s.heap.objs.size + 1) (.lst ys)) := stp_new rh hfr
        exact ⟨.ref (s.heap.objs.size + 1), _, I.laid (a := s.heap.objs.size + 1) (o := .lst ys) (t' := s.toks) (fun b o e => sortedAll_old e) (Nat.le_succ _) ⟨hlen, out, n, y1, hn⟩, rfl,
          k _ _ (z _ (rh.free hfr)) _ _ st (.ref _) (rh.put st ⟨ys, upd_same, hlen, y2.stp rh st⟩)⟩
    · rename_i lk kvs ea
      obtain ⟨ks, e1, e2, z⟩ := z
      obtain ⟨ds, f1, l1, q1⟩ := rh a _ ea
      refine call_sortedD hc pins s σ H _ us Q I r ⟨a, ds, ks.map tS, rfl, f1.rd, keys_strs q1 e1, by rw [List.length_map]; exact e2, fun ys p pm sd np => ?_⟩
      have hl : (ys.map V.str).length ≤ sizeLine := by rw [List.length_map, pm.length_eq, List.length_map, sizeLine_eq]; omega
      have si := sorted_isort pm sd
      have e3 : (ks.map tS).map (fun z => PV.str z.cps.toList) = ks.map PV.str := by rw [List.map_map]; rfl
      rw [e3] at si
      exact k.lst rh (rvs_strs ys) hl (fun d nd => by rw [si]; exact z d nd) p np
    · exact False.elim z
  · exact False.elim z
end
end G

namespace G
open PySem PySem.Spec PyProof.Rows L2

/-! ### as the printed proofs use it -/
def nmOk (x : Str) : Bool := !(x == ("__debug__" : Str)) && !(x == ("__classdict__" : Str)) && !(x == ("__name__" : Str))
theorem nm1 {x : Str} (h : nmOk x = true) : (x == ("__debug__" : Str)) = false := by
  unfold nmOk at h; simp only [Bool.and_eq_true, Bool.not_eq_true'] at h; exact h.1.1
theorem nm2 {x : Str} (h : nmOk x = true) : (x == ("__classdict__" : Str)) = false := by
  unfold nmOk at h; simp only [Bool.and_eq_true, Bool.not_eq_true'] at h; exact h.1.2
theorem nm3 {x : Str} (h : nmOk x = true) : x ≠ "__name__" := by
  unfold nmOk at h; simp only [Bool.and_eq_true, Bool.not_eq_true'] at h
  intro e; rw [e] at h; exact absurd h.2 (by decide)
section
variable {X : Cx} {e a b c : Expr} {es : List Expr} {t ta tb : ZE} {ts : ZA} {tc : ZT} {pos p p1 p2 : Pos}
theorem qv {i : Nat} {x : Str} (hn : nmOk x = true) (hN : X.N[i]? = some x) (hv : Vis X.env.scope x) : QE X (.Name x pos) (zVar i) := qe_var hN hv (nm1 hn) (nm2 hn)
theorem q_str {y : Str} {x : List Nat} {j} (s : y = tS x) : QE X (.Constant (.str y) j pos) (zC (.str x)) := by subst s; exact qe_str
theorem q_glob {x : Str} {pv : PV} (hn : nmOk x = true) (hg : Gl X x) (h : ∃ v u, X.mg x = some u ∧ RelV v u ∧ ∀ H, RV X.K H v pv) : QE X (.Name x pos) (zC pv) := by
  obtain ⟨v, u, h1, h2, h3⟩ := h
  exact qe_glob hg h1 h2 h3 (nm1 hn)
theorem q_own {x : Str} {k n : Nat} {r : ZC} (F : QF X.prog X.w X.K X.mg X.base k x n r) (hr : Room k X.A) (hn : nmOk x = true) (hg : Gl X x) (ha : QA X (e :: es) ts)
    (he : starEach (e :: es) X.env = (false, eval e X.env) :: starEach es X.env) (hpl : (backTo pos (starEach es X.env)).any (·.1) = false) : QE X (.Call (.Name x p) (e :: es) [] pos) (zCall r ts) := qe_own F hr hg ha (nm1 hn) he hpl
theorem q_own0 {x : Str} {k : Nat} {r : ZC} (F : QF X.prog X.w X.K X.mg X.base k x 0 r) (hr : Room k X.A) (hn : nmOk x = true) (hg : Gl X x) : QE X (.Call (.Name x p) [] [] pos) (zCall r zaNil) := qe_own0 F hr hg (nm1 hn)
section
variable (ha : QA X (e :: es) ts) (he : starEach (e :: es) X.env = (false, eval e X.env) :: starEach es X.env) (hpl : (backTo pos (starEach es X.env)).any (·.1) = false)
include ha he hpl
theorem q_len (hg : Gl X "len") (hm : X.mg "len" = none) : QE X (.Call (.Name "len" p) (e :: es) [] pos) (zCall zLen ts) := qe_callB qc_len hg hm PySem.boot_len ha (by decide) (by decide) he hpl
theorem q_abs (hg : Gl X "abs") (hm : X.mg "abs" = none) : QE X (.Call (.Name "abs" p) (e :: es) [] pos) (zCall zAbs ts) := qe_callB qc_abs hg hm (by decide +kernel) ha (by decide) (by decide) he hpl
theorem q_sum (hc : X.calm = true) (hg : Gl X "sum") (hm : X.mg "sum" = none) : QE X (.Call (.Name "sum" p) (e :: es) [] pos) (zCall zSum ts) := qe_callB (qc_sum hc) hg hm (by decide +kernel) ha (by decide) (by decide) he hpl
theorem q_all (hc : X.calm = true) (hg : Gl X "all") (hm : X.mg "all" = none) : QE X (.Call (.Name "all" p) (e :: es) [] pos) (zCall zAll ts) := qe_callB (qc_all hc) hg hm (by decide +kernel) ha (by decide) (by decide) he hpl
theorem q_any (hc : X.calm = true) (hg : Gl X "any") (hm : X.mg "any" = none) : QE X (.Call (.Name "any" p) (e :: es) [] pos) (zCall zAny ts) := qe_callB (qc_any hc) hg hm (by decide +kernel) ha (by decide) (by decide) he hpl
theorem q_max (hc : X.calm = true) (hg : Gl X "max") (hm : X.mg "max" = none) : QE X (.Call (.Name "max" p) (e :: es) [] pos) (zCall zMax2 ts) := qe_callB (qc_max2 hc) hg hm (by decide +kernel) ha (by decide) (by decide) he hpl
theorem q_min (hc : X.calm = true) (hg : Gl X "min") (hm : X.mg "min" = none) : QE X (.Call (.Name "min" p) (e :: es) [] pos) (zCall zMin2 ts) := qe_callB (qc_min2 hc) hg hm (by decide +kernel) ha (by decide) (by decide) he hpl
theorem q_sorted (hc : X.calm = true) (hu : X.A.units + 70 < cLine) (hg : Gl X "sorted") (hm : X.mg "sorted" = none) : QE X (.Call (.Name "sorted" p) (e :: es) [] pos) (zCall zSorted ts) := qe_callB (qc_sorted hc hu) hg hm (by decide +kernel) ha (by decide) (by decide) he hpl
theorem q_int (hg : Gl X "int") (hm : X.mg "int" = none) : QE X (.Call (.Name "int" p) (e :: es) [] pos) (zCall zInt ts) := qe_callTy qc_int hg hm (by decide +kernel) ha (by decide) (by decide) he hpl
theorem q_tuple (hg : Gl X "tuple") (hm : X.mg "tuple" = none) : QE X (.Call (.Name "tuple" p) (e :: es) [] pos) (zCall zTupC ts) := qe_callTy qc_tup hg hm (by decide +kernel) ha (by decide) (by decide) he hpl
theorem q_list (hc : X.calm = true) (hg : Gl X "list") (hm : X.mg "list" = none) : QE X (.Call (.Name "list" p) (e :: es) [] pos) (zCall zListC ts) := qe_callTy (qc_list hc) hg hm (by decide +kernel) ha (by decide) (by decide) he hpl
end
theorem q_isa (T : Ty) (hg : Gl X "isinstance") (hm : X.mg "isinstance" = none) (hgT : Gl X T.nm) (hmT : X.mg T.nm = none) (ha : QE X a ta)
    (h1 : starEach [a, .Name T.nm p2] X.env = (false, eval a X.env) :: starEach [.Name T.nm p2] X.env) (h2 : starEach [.Name T.nm p2] X.env = (false, eval (.Name T.nm p2) X.env) :: starEach [] X.env)
    (hpl : (backTo pos (starEach [.Name T.nm p2] X.env)).any (·.1) = false) : QE X (.Call (.Name "isinstance" p1) [a, .Name T.nm p2] [] pos) (zIsa T ta) :=
  qe_isa hg hm hgT hmT (by cases T <;> decide) (by cases T <;> decide) ha h1 h2 hpl
variable {o : Expr} {to : ZE} {ta' : ZA} {name : Str} {apos cpos : Pos}
section
variable (ho : QE X o to) (ha : QA X (e :: es) ta')
    (hfew : ((backTo cpos (starEach (e :: es) X.env)).all (fun x => !x.1) && (backToKw cpos (keywordEach [] X.env)).all (fun x => x.1.isSome)
      && decide ((e :: es).length + ([] : List Keyword).length + (if ([] : List Keyword).isEmpty then 0 else 1) < 30)) = true)
    (hline : (apos.endLine == cpos.line) = true) (hs : starEach (e :: es) X.env = (false, eval e X.env) :: starEach es X.env) (hplain : (backTo cpos (starEach es X.env)).any (·.1) = false)
include ho ha hfew hline hs hplain
theorem q_append (hbase : attributeBase o "append" X.env (eval o X.env) = eval o X.env) : QE X (.Call (.Attribute o "append" apos) (e :: es) [] cpos) (zMt "list" zAppend to ta') := qe_bm F.plainAttrs_list F.slot_list_append F.type_list_append qm_append ho ha hbase hfew hline hs hplain
theorem q_extend (hbase : attributeBase o "extend" X.env (eval o X.env) = eval o X.env) : QE X (.Call (.Attribute o "extend" apos) (e :: es) [] cpos) (zMt "list" zExtend to ta') := qe_bm F.plainAttrs_list F.slot_list_extend F.type_list_extend qm_extend ho ha hbase hfew hline hs hplain
theorem q_insert (hbase : attributeBase o "insert" X.env (eval o X.env) = eval o X.env) : QE X (.Call (.Attribute o "insert" apos) (e :: es) [] cpos) (zMt "list" zInsert to ta') := qe_bm F.plainAttrs_list F.slot_list_insert F.type_list_insert qm_insert ho ha hbase hfew hline hs hplain
theorem q_index (hu : X.A.units + 70 < cLine) (hbase : attributeBase o "index" X.env (eval o X.env) = eval o X.env) : QE X (.Call (.Attribute o "index" apos) (e :: es) [] cpos) (zMt "list" zIndex to ta') := qe_bm F.plainAttrs_list F.slot_list_index F.type_list_index (qm_index (by omega)) ho ha hbase hfew hline hs hplain
theorem q_get (hu : X.A.units + 70 < cLine) (hbase : attributeBase o "get" X.env (eval o X.env) = eval o X.env) : QE X (.Call (.Attribute o "get" apos) (e :: es) [] cpos) (zMt "dict" zDget to ta') := qe_bm F.plainAttrs_dict F.slot_dict_get F.type_dict_get (qm_dget (by omega)) ho ha hbase hfew hline hs hplain
end
theorem q_ix (hu : X.A.units + 70 < cLine) (ha : QE X a ta) (hb : QE X b tb) (hs : PlainIx b) : QE X (.Subscript a b pos) (z2 zIx ta tb) := qe_ix (by omega) ha hb hs
theorem q_eq (hu : X.A.units + 70 < cLine) : QO X (compareOp .Eq) zEq := qo_eq (by omega)
theorem q_ne (hu : X.A.units + 70 < cLine) : QO X (compareOp .NotEq) (zNot zEq) := qo_ne (by omega)
theorem qg_sub' {o i : Expr} {to ti : ZE} (hu : X.A.units + 70 < cLine) (ho : QE X o to) (hi : QE X i ti)
    (ha : ∀ v, assign (.Subscript o i pos) X.env v = (do
      let ov ← holding [v] (eval o X.env)
      let iv ← holding [v, ov] (eval i X.env)
      standAt pos
      holding [v, ov, iv] (setItem ov iv v)
      release [v, ov, iv] [])) : QG X (.Subscript o i pos) (zgSub to ti) := qg_sub (by omega) ho hi ha
theorem q_w {t : ZT} (h : QW X e t) : QT X e t := PW.pt h
end
theorem hu_of {k : Nat} {A : Around} (r : Room k A) : A.units + 70 < cLine := by have := r.un; omega
end G

namespace G
open PySem PySem.Spec PyProof.Rows L2

/-! ### from the head's facts to the defs -/
/-- the def stands at the top -/
def FB (K : PySem.W.Frag) (mg : Str → Option Value) (x : Str) (st : Stmt) (ps : List Str) : Prop :=
  ∃ (f : Addr) (fd : FuncData), FunD K x x (defArgs st) (defBody st) (defScope st) [] [] f fd ∧ mg x = some (.ref f) ∧ ∀ (s : Shared) (us : List Value), us.length = ps.length → BindsTo s fd ⟨us, []⟩ (ps.zip us)
theorem binds_of {K : PySem.W.Frag} {fd : FuncData} {ps : List Str} (h : ∀ (s : Shared) (us : List Value), us.length = ps.length → BindsTo s fd ⟨us, []⟩ (ps.zip us)) : Binds K fd ps [] := fun s us _ hl => by
  rw [List.append_nil] at hl ⊢
  exact h s us hl
section
variable {P : Program} {w : World} {K : PySem.W.Frag} {mg : Str → Option Value} {base : Heap}
theorem qfd {x : Str} {st : Stmt} {N ps : List Str} {k n m : Nat} {zb : ZS} (h : FB K mg x st ps) (S : FnScope N ps (defScope st)) (hn : N.length = n) (hm : ps.length = m)
    (body : ∀ (f : Addr) (cdv : Value) (A : Around) (outer : List Env) (s : Shared) (H : Hp) (E : XK), Room k (A.deeper (envOfC x (defScope st) s.heap.objs.size f cdv)) → QSs (cxOf CX0 P w K mg base N x (defScope st) f cdv A outer s H E).nox (defBody st) zb) :
    QF P w K mg base (k + 1) x m (zFn n m zb) := by
  obtain ⟨f, fd, F, hg, hb⟩ := h
  refine ⟨f, fd, ps, F.ok S (fun vs H Q E h => ?_) (fun cdv A outer s H vs Q E hr h => ?_), hg, F.kp, binds_of hb⟩
  · obtain ⟨ps', h, Qp, rv, rh, ⟨hz1, hz⟩, kk⟩ := h
    rw [rv.length, hm]; exact hz1
  obtain ⟨ps', h, Qp, rv, rh, ⟨hz1, hz⟩, kk⟩ := h
  refine ⟨_, (body f cdv A outer s H E hr).nox, _, h, _, rs_start rv N, rh, by rw [hz1, hn]; exact hz, ?_⟩
  refine ⟨fun ρ' h' ⟨h2, u, q⟩ σ' H' s rs rh' => ?_, fun p h' ⟨h2, u, q⟩ v H' s rv rh' => ?_, fun _ _ z => z.elim, fun _ _ z => z.elim⟩
  · exact kk _ _ q _ _ (stp_sub s u) .non (rh'.sub u)
  · exact kk _ _ q _ _ (stp_sub s u) rv (rh'.sub u)
theorem qfd0 {x : Str} {st : Stmt} {ps : List Str} {m : Nat} (h : FB K mg x st ps) : QF P w K mg base 0 x m (fun _ _ _ => False) := by
  obtain ⟨f, fd, F, hg, hb⟩ := h
  refine ⟨f, fd, ps, ⟨fun vs H Q E h => ?_, fun A outer s H args us vs Q E hr e0 hb' r h => ?_⟩, hg, F.kp, binds_of hb⟩
  · obtain ⟨ps', h, Qp, rv, rh, z, kk⟩ := h; exact z.elim
  · obtain ⟨ps', h, Qp, rv, rh, z, kk⟩ := h; exact z.elim
/-- the law's own def -/
theorem law_ok {st : Stmt} {N : List Str} {k n : Nat} {zb : ZS} {fa : Addr} (h : FB K mg "law" st ["script"]) (S : FnScope N ["script"] (defScope st)) (hn : N.length = n) (hfa : mg "law" = some (.ref fa))
    (body : ∀ base : Heap, K.In base → base.Ns mainGlobals mg → ∀ (f : Addr) (cdv : Value) (A : Around) (outer : List Env) (s : Shared) (H : Hp) (E : XK), Room k (A.deeper (envOfC "law" (defScope st) s.heap.objs.size f cdv)) → QSs (cxOf CX0 P w K mg base N "law" (defScope st) f cdv A outer s H E).nox (defBody st) zb)
    (math : ∀ ns : List Int, ns.length ≤ 63 → zFn n 1 zb [.scr ns] (fun _ => none) fun p _ => p = .bl true) :
    ∃ (fd : FuncData) (sp : Sp), (∀ (s : Shared) (u : Value), BindsTo s fd ⟨[u], []⟩ [("script", u)]) ∧
        (∀ (H : Hp) (a : Addr) (ns : List Int), ns.length ≤ 63 → Only H → SqL K H a (ns.map V.int) → sp [.ref a] H (fun v _ => v = .bl true) fun _ _ _ => False) ∧
        ∀ base : Heap, K.In base → base.Ns mainGlobals mg → FnOk P w K mg base CX0 (k + 1) fa fd ["script"] sp := by
  obtain ⟨f, fd, F, hg, hb⟩ := h
  have e := hfa.symm.trans hg
  cases e
  refine ⟨fd, spOf P w K (zFn n 1 zb), fun s u => hb s [u] rfl, fun H a ns hl hO hS => ?_, fun base hK hB => ?_⟩
  · refine ⟨[.scr ns], fun _ => none, fun p _ => p = .bl true, .cons (.scr ?_ hl) .nil, (fun _ _ z => nomatch z), math ns hl, fun p h' q v H' s rv rh => ?_⟩
    · rcases hS with (hS | ⟨o, hS⟩) | hS
      · rcases hO a with z | ⟨o, xs, z⟩ <;> rw [z] at hS <;> cases hS
      · exact .inl ⟨o, hS⟩
      · exact .inr hS
    · subst q; cases rv; rfl
  · refine F.ok S (fun vs H Q E h => ?_) (fun cdv A outer s H vs Q E hr h => ?_)
    · obtain ⟨ps', h, Qp, rv, rh, ⟨hz1, hz⟩, kk⟩ := h
      rw [rv.length]; exact hz1
    obtain ⟨ps', h, Qp, rv, rh, ⟨hz1, hz⟩, kk⟩ := h
    refine ⟨_, (body base hK hB fa cdv A outer s H E hr).nox, _, h, _, rs_start rv N, rh, by rw [hz1, hn]; exact hz, ?_⟩
    refine ⟨fun ρ' h' ⟨h2, u, q⟩ σ' H' s rs rh' => ?_, fun p h' ⟨h2, u, q⟩ v H' s rv rh' => ?_, fun _ _ z => z.elim, fun _ _ z => z.elim⟩
    · exact kk _ _ q _ _ (stp_sub s u) .non (rh'.sub u)
    · exact kk _ _ q _ _ (stp_sub s u) rv (rh'.sub u)
end
/-! ### a constant of the top, as a tree -/
def tvB (K : PySem.W.Frag) : Nat → PV → Value → Bool
  | 0, _, _ => false
  | n + 1, p, u => match p, u with
    | .non, .none => true
    | .bl b, .bool c => b == c
    | .int i, .int j _ => i == j
    | .str x, .str y _ => y.cps.toList == x
    | .tup ps, .ref a => (match K.lookup a with
      | some ⟨.type t, _, .seq its _, _⟩ => t == "tuple" && (decide (its.size ≤ 1000) && (decide (its.size = ps.length) && (ps.zip its.toList).all fun z => tvB K n z.1 z.2))
      | _ => false)
    | _, _ => false
def conB' (K : PySem.W.Frag) (x : Str) (p : PV) : Bool := match PySem.W.nsIn K mainGlobals x with
  | some (some u) => tvB K 12 p u
  | _ => false
theorem tv_all {K : PySem.W.Frag} {n : Nat} (ih : ∀ (p : PV) (u : Value), tvB K n p u = true → ∃ v, RelV v u ∧ ∀ H, RV K H v p) : ∀ (ps : List PV) (us : List Value), us.length = ps.length → ((ps.zip us).all fun z => tvB K n z.1 z.2) = true → ∃ vs, Vals vs us ∧ ∀ H, RVs K H vs ps
  | [], [], _, _ => ⟨[], .nil, fun _ => .nil⟩
  | [], _ :: _, hl, _ => by simp at hl
  | _ :: _, [], hl, _ => by simp at hl
  | p :: ps, u :: us, hl, h => by
    simp only [List.zip_cons_cons, List.all_cons, Bool.and_eq_true] at h
    obtain ⟨v, h1, h2⟩ := ih p u h.1
    obtain ⟨vs, h3, h4⟩ := tv_all ih ps us (by simpa using hl) h.2
    exact ⟨v :: vs, .cons h1 h3, fun H => .cons (h2 H) (h4 H)⟩
theorem tvB_ok {K : PySem.W.Frag} : ∀ (n : Nat) (p : PV) (u : Value), tvB K n p u = true → ∃ v, RelV v u ∧ ∀ H, RV K H v p
  | 0, _, _, h => by simp [tvB] at h
  | n + 1, p, u, h => by
    unfold tvB at h
    split at h
    · exact ⟨.non, rfl, fun _ => .non⟩
    · rw [beq_iff_eq] at h; subst h; exact ⟨.bl _, rfl, fun _ => .bl _⟩
    · rw [beq_iff_eq] at h; subst h; exact ⟨.int _, ⟨_, rfl⟩, fun _ => .int _⟩
    · rw [beq_iff_eq] at h; subst h
      rename_i y t
      exact ⟨.str y, ⟨_, rfl⟩, fun H => by have := RV.str (K := K) (H := H) y.cps.toList; rw [tS_of] at this; exact this⟩
    · rename_i ps a
      split at h
      · rename_i t dd its m sl e
        simp only [Bool.and_eq_true, decide_eq_true_eq, beq_iff_eq] at h
        obtain ⟨h1, h2, h3, h4⟩ := h
        subst h1
        obtain ⟨vs, h5, h6⟩ := tv_all (tvB_ok n) ps its.toList (by simpa using h3) h4
        refine ⟨.ref a, rfl, fun H => .tup (.inr ?_) ?_ (h6 H)⟩
        · exact ⟨_, its, m, e, rfl, rfl, by rw [sizeLine_eq]; omega, h5⟩
        · rw [h5.length, Array.length_toList, sizeLine_eq]; omega
      · cases h
    · cases h
theorem con_ok {K : PySem.W.Frag} {h : Heap} {mg : Str → Option Value} (X : K.In h) (G : h.Ns mainGlobals mg) {x : Str} {p : PV} (c : conB' K x p = true) : ∃ v u, mg x = some u ∧ RelV v u ∧ ∀ H, RV K H v p := by
  unfold conB' at c
  split at c
  · rename_i u e
    obtain ⟨v, h1, h2⟩ := tvB_ok _ _ _ c
    exact ⟨v, u, PySem.W.mg_of X G e, h1, h2⟩
  · cases c
end G

namespace G
open PySem PySem.Spec PyProof.Rows L2

/-! ### reading -/
theorem zVar_ok {i : Nat} {ρ : Ev} {h : PH} {Q : QV} {p : PV} (e : ρ[i]? = some (some p)) : zVar i ρ h Q = Q p h := by
  unfold zVar
  rw [e]
  simp
theorem zEq_str {x y : List Nat} {h : PH} {Q : QV} : zEq (.str x) (.str y) h Q = Q (.bl (decide (x = y))) h := by
  simp [zEq, PV.flat, PV.v, scal]
theorem zEq_int {x y : Int} {h : PH} {Q : QV} : zEq (.int x) (.int y) h Q = Q (.bl (decide (x = y))) h := by
  simp [zEq, PV.flat, PV.v, scal]
theorem zNe_str {x y : List Nat} {h : PH} {Q : QV} : zNot zEq (.str x) (.str y) h Q = Q (.bl (!decide (x = y))) h := by
  simp [zNot, zEq_str]
theorem zNe_int {x y : Int} {h : PH} {Q : QV} : zNot zEq (.int x) (.int y) h Q = Q (.bl (!decide (x = y))) h := by
  simp [zNot, zEq_int]
def zEqO : Option PO → Option PO → PH → QV → Prop
  | some (.lst xs), some (.lst ys), h, Q => PV.pls xs = true ∧ PV.pls ys = true ∧ PV.dps xs ≤ 63 ∧ PV.dps ys ≤ 63 ∧ Q (.bl (decide (xs = ys))) h
  | _, _, _, _ => False
theorem zEq_r {a b : Addr} {h : PH} {Q : QV} : zEq (.ref a) (.ref b) h Q = zEqO (h a) (h b) h Q := by
  apply propext
  constructor
  · rintro ⟨xs, ys, e1, e2, z⟩; rw [e1, e2]; exact z
  · intro z
    unfold zEqO at z
    split at z
    · rename_i xs ys e1 e2; exact ⟨xs, ys, e1, e2, z⟩
    · exact z.elim
theorem zEqO_l {xs ys : List PV} {h : PH} {Q : QV} : zEqO (some (.lst xs)) (some (.lst ys)) h Q = (PV.pls xs = true ∧ PV.pls ys = true ∧ PV.dps xs ≤ 63 ∧ PV.dps ys ≤ 63 ∧ Q (.bl (decide (xs = ys))) h) := rfl
theorem zEq_tt {a b : List PV} {h : PH} {Q : QV} : zEq (.tup a) (.tup b) h Q = (PV.pls a = true ∧ (PV.tup b).pl = true ∧ PV.dps a ≤ 63 ∧ (PV.tup b).dp ≤ 64 ∧ Q (.bl (decide (PV.tup a = .tup b))) h) := rfl
theorem zEq_ti {a : List PV} {b : Int} {h : PH} {Q : QV} : zEq (.tup a) (.int b) h Q = (PV.pls a = true ∧ (PV.int b).pl = true ∧ PV.dps a ≤ 63 ∧ (PV.int b).dp ≤ 64 ∧ Q (.bl (decide (PV.tup a = .int b))) h) := rfl
theorem zEq_it {a : Int} {b : List PV} {h : PH} {Q : QV} : zEq (.int a) (.tup b) h Q = ((PV.int a).pl = true ∧ PV.pls b = true ∧ PV.dps b ≤ 63 ∧ Q (.bl (decide (PV.int a = .tup b))) h) := rfl
theorem zIs_n {p : PV} {h : PH} {Q : QV} : zIs false p .non h Q = Q (.bl (decide (p = .non))) h := by cases p <;> rfl
theorem zIsN_n {p : PV} {h : PH} {Q : QV} : zIs true p .non h Q = Q (.bl (!decide (p = .non))) h := by cases p <;> rfl
theorem zI_int {C : Int → Int → Prop} {g : Int → Int → PV} {i j : Int} {h : PH} {Q : QV} : zI C g (.int i) (.int j) h Q = (C i j ∧ Q (g i j) h) := rfl
theorem zI_int' {C : Int → Int → Prop} {g : Int → Int → PV} {i j : Int} {h : PH} {Q : QV} : zI C g (.int i) (.int j) h Q = (C i j ∧ Q (g i j) h) := rfl
theorem zSub_i {i j : Int} {h : PH} {Q : QV} : zSub (.int i) (.int j) h Q = Q (.int (i - j)) h := by simp [zSub, zI]
theorem zAdd_i {i j : Int} {h : PH} {Q : QV} : zAdd (.int i) (.int j) h Q = Q (.int (i + j)) h := rfl
theorem zAdd_s {i j : List Nat} {h : PH} {Q : QV} : zAdd (.str i) (.str j) h Q = (i.length + j.length ≤ sizeLine ∧ Q (.str (i ++ j)) h) := rfl
theorem zAdd_t {i j : List PV} {h : PH} {Q : QV} : zAdd (.tup i) (.tup j) h Q = (i.length + j.length ≤ sizeLine ∧ Q (.tup (i ++ j)) h) := rfl
def zAddO : Option PO → Option PO → PH → QV → Prop
  | some (.lst xs), some (.lst ys), h, Q => xs.length + ys.length ≤ sizeLine ∧ ∀ p, h p = none → Q (.ref p) (up h p (.lst (xs ++ ys)))
  | _, _, _, _ => False
theorem zAdd_r {a b : Addr} {h : PH} {Q : QV} : zAdd (.ref a) (.ref b) h Q = zAddO (h a) (h b) h Q := by
  apply propext
  constructor
  · rintro ⟨xs, ys, e1, e2, z⟩; rw [e1, e2]; exact z
  · intro z
    unfold zAddO at z
    split at z
    · rename_i xs ys e1 e2; exact ⟨xs, ys, e1, e2, z⟩
    · exact z.elim
theorem zAddO_l {xs ys : List PV} {h : PH} {Q : QV} : zAddO (some (.lst xs)) (some (.lst ys)) h Q = (xs.length + ys.length ≤ sizeLine ∧ ∀ p, h p = none → Q (.ref p) (up h p (.lst (xs ++ ys)))) := rfl
theorem zDiv_i {i j : Int} {h : PH} {Q : QV} : zDiv (.int i) (.int j) h Q = ((0 < j ∧ j < 1073741824) ∧ Q (.int (i / j)) h) := rfl
theorem zMod_i {i j : Int} {h : PH} {Q : QV} : zMod (.int i) (.int j) h Q = (0 < j ∧ Q (.int (i % j)) h) := rfl
theorem zPow_i {i j : Int} {h : PH} {Q : QV} : zPow (.int i) (.int j) h Q = ((0 ≤ j ∧ j ≤ 1000000 ∧ i.natAbs < 2 ^ 64) ∧ Q (.int (i ^ j.toNat)) h) := rfl
def zMulO (j : Int) : Option PO → PH → QV → Prop
  | some (.lst xs), h, Q => (-(2 ^ 63) ≤ j ∧ j ≤ 1000 ∧ xs.length ≤ 1000) ∧ ∀ d, h d = none → Q (.ref d) (up h d (.lst (List.replicate j.toNat xs).flatten))
  | _, _, _ => False
theorem zMul_r {a : Addr} {j : Int} {h : PH} {Q : QV} : zMul (.ref a) (.int j) h Q = zMulO j (h a) h Q := by
  refine propext ⟨fun ⟨xs, e1, z⟩ => by rw [e1]; exact z, fun z => ?_⟩
  unfold zMulO at z
  split at z
  · rename_i xs e1; exact ⟨xs, e1, z⟩
  · exact z.elim
theorem zMulO_l {xs : List PV} {j : Int} {h : PH} {Q : QV} : zMulO j (some (.lst xs)) h Q = ((-(2 ^ 63) ≤ j ∧ j ≤ 1000 ∧ xs.length ≤ 1000) ∧ ∀ d, h d = none → Q (.ref d) (up h d (.lst (List.replicate j.toNat xs).flatten))) := rfl
theorem zMul_t {xs : List PV} {j : Int} {h : PH} {Q : QV} : zMul (.tup xs) (.int j) h Q = ((-(2 ^ 63) ≤ j ∧ j ≤ 1000 ∧ xs.length ≤ 1000) ∧ Q (.tup (List.replicate j.toNat xs).flatten) h) := rfl
theorem zMul_i {i j : Int} {h : PH} {Q : QV} : zMul (.int i) (.int j) h Q = (CMulA i j ∧ Q (.int (i * j)) h) := rfl
theorem zLt_i {i j : Int} {h : PH} {Q : QV} : zLt (.int i) (.int j) h Q = Q (.bl (decide (i < j))) h := by simp [zLt, zI]
theorem zLe_i {i j : Int} {h : PH} {Q : QV} : zLe (.int i) (.int j) h Q = Q (.bl (decide (i ≤ j))) h := by simp [zLe, zI]
theorem zGt_i {i j : Int} {h : PH} {Q : QV} : zGt (.int i) (.int j) h Q = Q (.bl (decide (j < i))) h := by simp [zGt, zI]
theorem zGe_i {i j : Int} {h : PH} {Q : QV} : zGe (.int i) (.int j) h Q = Q (.bl (decide (j ≤ i))) h := by simp [zGe, zI]
/-- by what stands at the address -/
def zIxO : Option PO → PV → PH → QV → Prop
  | some (.lst xs), .int i, h, Q => ∃ v, atI xs i = some v ∧ Q v h
  | some (.dic t _ kvs), k, h, Q => keyOk t k = true ∧ ∃ v, dget kvs k = some v ∧ Q v h
  | _, _, _, _ => False
theorem zIx_r {a : Addr} {k : PV} {h : PH} {Q : QV} : zIx (.ref a) k h Q = zIxO (h a) k h Q := by
  simp only [zIx]
  cases h a with
  | none => cases k <;> rfl
  | some o => cases o <;> cases k <;> rfl
theorem zIx_t {xs : List PV} {i : Int} {h : PH} {Q : QV} : zIx (.tup xs) (.int i) h Q = ∃ v, atI xs i = some v ∧ Q v h := rfl
theorem zIx_s {xs : List Nat} {i : Int} {h : PH} {Q : QV} : zIx (.str xs) (.int i) h Q = ∃ c, xs.length ≤ sizeLine ∧ atI xs i = some c ∧ Q (.str [c]) h := rfl
theorem zIxO_l {xs : List PV} {i : Int} {h : PH} {Q : QV} : zIxO (some (.lst xs)) (.int i) h Q = ∃ v, atI xs i = some v ∧ Q v h := rfl
theorem zIxO_d {t : Bool} {l} {kvs : List (PV × PV)} {k : PV} {h : PH} {Q : QV} : zIxO (some (.dic t l kvs)) k h Q = (keyOk t k = true ∧ ∃ v, dget kvs k = some v ∧ Q v h) := by cases k <;> rfl
def zSetO (a : Addr) : Option PO → PV → PV → PH → (PH → Prop) → Prop
  | some (.lst xs), .int i, v, h, Q => ∃ j, ixN xs.length i = some j ∧ Q (up h a (.lst (xs.set j v)))
  | some (.dic t none kvs), k, v, h, Q => keyOk t k = true ∧ kvs.length < sizeLine ∧ Q (up h a (.dic t none (dput kvs k v)))
  | _, _, _, _, _ => False
theorem zSet_r {a : Addr} {k v : PV} {h : PH} {Q : PH → Prop} : zSet (.ref a) k v h Q = zSetO a (h a) k v h Q := by
  simp only [zSet]
  cases h a with
  | none => cases k <;> rfl
  | some o =>
    cases o with
    | ins _ _ => cases k <;> rfl
    | lst _ => cases k <;> rfl
    | dic t l _ => cases l <;> cases k <;> rfl
theorem zSetO_l {a : Addr} {xs : List PV} {i : Int} {v : PV} {h : PH} {Q : PH → Prop} : zSetO a (some (.lst xs)) (.int i) v h Q = ∃ j, ixN xs.length i = some j ∧ Q (up h a (.lst (xs.set j v))) := rfl
theorem zSetO_d {a : Addr} {t : Bool} {kvs : List (PV × PV)} {k v : PV} {h : PH} {Q : PH → Prop} : zSetO a (some (.dic t none kvs)) k v h Q = (keyOk t k = true ∧ kvs.length < sizeLine ∧ Q (up h a (.dic t none (dput kvs k v)))) := by cases k <;> rfl
def zLenO : Option PO → PH → QV → Prop
  | some (.lst xs), h, Q => Q (.int xs.length) h
  | some (.dic _ _ kvs), h, Q => Q (.int kvs.length) h
  | _, _, _ => False
theorem zLen_r {a : Addr} {h : PH} {Q : QV} : zLen [.ref a] h Q = zLenO (h a) h Q := by
  simp only [zLen]
  cases h a with
  | none => rfl
  | some o => cases o <;> rfl
theorem zLen_t {xs : List PV} {h : PH} {Q : QV} : zLen [.tup xs] h Q = Q (.int xs.length) h := rfl
theorem zLen_s {xs : List Nat} {h : PH} {Q : QV} : zLen [.str xs] h Q = (xs.length ≤ sizeLine ∧ Q (.int xs.length) h) := rfl
theorem zLenO_l {xs : List PV} {h : PH} {Q : QV} : zLenO (some (.lst xs)) h Q = Q (.int xs.length) h := rfl
theorem zLenO_d {t : Bool} {l} {kvs : List (PV × PV)} {h : PH} {Q : QV} : zLenO (some (.dic t l kvs)) h Q = Q (.int kvs.length) h := rfl
theorem zAbs_i {i : Int} {h : PH} {Q : QV} : zAbs [.int i] h Q = Q (.int (if i < 0 then -i else i)) h := rfl
theorem zInt_i {i : Int} {h : PH} {Q : QV} : zInt [.int i] h Q = Q (.int i) h := rfl
theorem zInt_b {b : Bool} {h : PH} {Q : QV} : zInt [.bl b] h Q = Q (.int (if b then 1 else 0)) h := rfl
theorem zMax_i {i j : Int} {h : PH} {Q : QV} : zMax2 [.int i, .int j] h Q = Q (.int (if j > i then j else i)) h := rfl
theorem zMin_i {i j : Int} {h : PH} {Q : QV} : zMin2 [.int i, .int j] h Q = Q (.int (if j < i then j else i)) h := rfl
def zTupO : Option PO → PH → QV → Prop
  | some (.lst xs), h, Q => Q (.tup xs) h
  | _, _, _ => False
theorem zTupC_r {a : Addr} {h : PH} {Q : QV} : zTupC [.ref a] h Q = zTupO (h a) h Q := by
  simp only [zTupC]
  cases h a with
  | none => rfl
  | some o => cases o <;> rfl
theorem zTupC_t {xs : List PV} {h : PH} {Q : QV} : zTupC [.tup xs] h Q = Q (.tup xs) h := rfl
theorem zTupO_l {xs : List PV} {h : PH} {Q : QV} : zTupO (some (.lst xs)) h Q = Q (.tup xs) h := rfl
def zListO : Option PO → PH → QV → Prop
  | some (.lst xs), h, Q => ∀ p, h p = none → Q (.ref p) (up h p (.lst xs))
  | some (.dic false none kvs), h, Q => ∀ p, h p = none → Q (.ref p) (up h p (.lst (kvs.map Prod.fst)))
  | _, _, _ => False
theorem zListC_r {a : Addr} {h : PH} {Q : QV} : zListC [.ref a] h Q = zListO (h a) h Q := by
  simp only [zListC]
  cases h a with
  | none => rfl
  | some o =>
    cases o with
    | ins _ _ => rfl
    | lst _ => rfl
    | dic t l _ => cases t <;> cases l <;> rfl
theorem zListC_t {xs : List PV} {h : PH} {Q : QV} : zListC [.tup xs] h Q = ∀ p, h p = none → Q (.ref p) (up h p (.lst xs)) := rfl
theorem zListC_s {ns : List Int} {h : PH} {Q : QV} : zListC [.scr ns] h Q = (ns.length ≤ 63 → ∀ p, h p = none → Q (.ref p) (up h p (.lst (ns.map PV.int)))) := rfl
theorem zListO_l {xs : List PV} {h : PH} {Q : QV} : zListO (some (.lst xs)) h Q = ∀ p, h p = none → Q (.ref p) (up h p (.lst xs)) := rfl
theorem zListO_d {kvs : List (PV × PV)} {h : PH} {Q : QV} : zListO (some (.dic false none kvs)) h Q = ∀ p, h p = none → Q (.ref p) (up h p (.lst (kvs.map Prod.fst))) := rfl
def zSumO : Option PO → PH → QV → Prop
  | some (.lst xs), h, Q => ∃ ns, intsP xs = some ns ∧ Q (.int ns.sum) h
  | _, _, _ => False
theorem zSum_r {a : Addr} {h : PH} {Q : QV} : zSum [.ref a] h Q = zSumO (h a) h Q := by
  simp only [zSum]
  cases h a with
  | none => rfl
  | some o => cases o <;> rfl
theorem zSumO_l {xs : List PV} {h : PH} {Q : QV} : zSumO (some (.lst xs)) h Q = ∃ ns, intsP xs = some ns ∧ Q (.int ns.sum) h := rfl
def zAllO : Option PO → PH → QV → Prop
  | some (.lst xs), h, Q => ∃ ns, blsP xs = some ns ∧ Q (.bl (ns.all id)) h
  | _, _, _ => False
theorem zAll_r {a : Addr} {h : PH} {Q : QV} : zAll [.ref a] h Q = zAllO (h a) h Q := by
  simp only [zAll]
  cases h a with
  | none => rfl
  | some o => cases o <;> rfl
theorem zAllO_l {xs : List PV} {h : PH} {Q : QV} : zAllO (some (.lst xs)) h Q = ∃ ns, blsP xs = some ns ∧ Q (.bl (ns.all id)) h := rfl
def zSortO : Option PO → PH → QV → Prop
  | some (.lst ps), h, Q => sortOk ps = true ∧ ∀ d, h d = none → Q (.ref d) (up h d (.lst (isort ps)))
  | some (.dic false _ kvs), h, Q => ∃ ks : List (List Nat), kvs.map Prod.fst = ks.map PV.str ∧ ks.length < 64 ∧ ∀ d, h d = none → Q (.ref d) (up h d (.lst (isort (ks.map PV.str))))
  | _, _, _ => False
theorem zSorted_r {a : Addr} {h : PH} {Q : QV} : zSorted [.ref a] h Q = zSortO (h a) h Q := by
  simp only [zSorted]
  cases h a with
  | none => rfl
  | some o =>
    cases o with
    | dic t l _ => cases t <;> rfl
    | _ => rfl
theorem zSortO_d {lk : Option (Obj × HO)} {kvs : List (PV × PV)} {h : PH} {Q : QV} : zSortO (some (.dic false lk kvs)) h Q = ∃ ks : List (List Nat), kvs.map Prod.fst = ks.map PV.str ∧ ks.length < 64 ∧ ∀ d, h d = none → Q (.ref d) (up h d (.lst (isort (ks.map PV.str)))) := rfl
def zAnyC : Option PO → PH → QV → Prop
  | some (.lst xs), h, Q => ∃ ns, blsP xs = some ns ∧ Q (.bl (ns.any id)) h
  | _, _, _ => False
theorem zAny_r {a : Addr} {h : PH} {Q : QV} : zAny [.ref a] h Q = zAnyC (h a) h Q := by
  simp only [zAny]
  cases h a with
  | none => rfl
  | some o => cases o <;> rfl
theorem zAnyC_l {xs : List PV} {h : PH} {Q : QV} : zAnyC (some (.lst xs)) h Q = ∃ ns, blsP xs = some ns ∧ Q (.bl (ns.any id)) h := rfl
theorem zAny_t {ps : List PV} {h : PH} {Q : QV} : zAny [.tup ps] h Q = ∃ ns, intsP ps = some ns ∧ Q (.bl (ns.any (· != 0))) h := rfl
theorem zSortO_l {xs : List PV} {h : PH} {Q : QV} : zSortO (some (.lst xs)) h Q = (sortOk xs = true ∧ ∀ d, h d = none → Q (.ref d) (up h d (.lst (isort xs)))) := rfl
def zTrO : Option PO → (Bool → Prop) → Prop
  | some (.lst xs), Q => Q (!xs.isEmpty)
  | some (.dic false none kvs), Q => Q (!kvs.isEmpty)
  | _, _ => False
theorem zTr_r {a : Addr} {h : PH} {Q : Bool → Prop} : zTr (.ref a) h Q = zTrO (h a) Q := by
  simp only [zTr]
  cases h a with
  | none => rfl
  | some o =>
    cases o with
    | ins _ _ => rfl
    | lst _ => rfl
    | dic t l _ => cases t <;> cases l <;> rfl
theorem zTr_n {h : PH} {Q : Bool → Prop} : zTr .non h Q = Q false := rfl
theorem zTr_b {b : Bool} {h : PH} {Q : Bool → Prop} : zTr (.bl b) h Q = Q b := rfl
theorem zTr_i {i : Int} {h : PH} {Q : Bool → Prop} : zTr (.int i) h Q = Q (i != 0) := rfl
theorem zTr_s {x : List Nat} {h : PH} {Q : Bool → Prop} : zTr (.str x) h Q = (x.length ≤ sizeLine ∧ Q (!x.isEmpty)) := rfl
theorem zTr_t {x : List PV} {h : PH} {Q : Bool → Prop} : zTr (.tup x) h Q = Q (!x.isEmpty) := rfl
theorem zTrO_l {xs : List PV} {Q : Bool → Prop} : zTrO (some (.lst xs)) Q = Q (!xs.isEmpty) := rfl
theorem zTrO_d {kvs : List (PV × PV)} {Q : Bool → Prop} : zTrO (some (.dic false none kvs)) Q = Q (!kvs.isEmpty) := rfl
def zHasO : PV → Option PO → (Bool → Prop) → Prop
  | x, some (.lst ys), Q => x.pl = true ∧ x.dp ≤ 64 ∧ PV.pls ys = true ∧ PV.dps ys ≤ 63 ∧ Q (decide (x ∈ ys))
  | x, some (.dic t _ kvs), Q => keyOk t x = true ∧ Q (dget kvs x).isSome
  | _, _, _ => False
theorem zHas_r {x : PV} {a : Addr} {h : PH} {Q : Bool → Prop} : zHas x (.ref a) h Q = zHasO x (h a) Q := by
  cases e : h a with
  | none => cases x <;> simp only [zHas, e, zHasO]
  | some o => cases o <;> cases x <;> simp only [zHas, e, zHasO]
theorem zHas_t {x : PV} {ys : List PV} {h : PH} {Q : Bool → Prop} : zHas x (.tup ys) h Q = (x.pl = true ∧ x.dp ≤ 64 ∧ PV.pls ys = true ∧ PV.dps ys ≤ 63 ∧ Q (decide (x ∈ ys))) := by cases x <;> rfl
theorem zHasO_l {x : PV} {ys : List PV} {Q : Bool → Prop} : zHasO x (some (.lst ys)) Q = (x.pl = true ∧ x.dp ≤ 64 ∧ PV.pls ys = true ∧ PV.dps ys ≤ 63 ∧ Q (decide (x ∈ ys))) := rfl
theorem zHasO_d {x : PV} {t : Bool} {l} {kvs : List (PV × PV)} {Q : Bool → Prop} : zHasO x (some (.dic t l kvs)) Q = (keyOk t x = true ∧ Q (dget kvs x).isSome) := rfl
def zSlO : Option PO → Option Int → Option Int → PH → QV → Prop
  | some (.lst xs), lo, hi, h, Q => ∀ p, h p = none → Q (.ref p) (up h p (.lst (cut xs lo hi)))
  | _, _, _, _, _ => False
theorem zSlV_r {a : Addr} {lo hi : Option Int} {h : PH} {Q : QV} : zSlV (.ref a) lo hi h Q = zSlO (h a) lo hi h Q := by
  simp only [zSlV]
  cases h a with
  | none => rfl
  | some o => cases o <;> rfl
theorem zSlV_t {xs : List PV} {lo hi : Option Int} {h : PH} {Q : QV} : zSlV (.tup xs) lo hi h Q = Q (.tup (cut xs lo hi)) h := rfl
theorem zSlV_s {xs : List Nat} {lo hi : Option Int} {h : PH} {Q : QV} : zSlV (.str xs) lo hi h Q = (xs.length ≤ sizeLine ∧ Q (.str (cut xs lo hi)) h) := rfl
theorem zSlO_l {xs : List PV} {lo hi : Option Int} {h : PH} {Q : QV} : zSlO (some (.lst xs)) lo hi h Q = ∀ p, h p = none → Q (.ref p) (up h p (.lst (cut xs lo hi))) := rfl
def zoI (p : PV) (h1 : PH) (Q : Option Int → PH → Prop) : Prop := match p with | .int i => Q (some i) h1 | _ => False
theorem zoSome_ok {t : ZE} {ρ : Ev} {h : PH} {Q : Option Int → PH → Prop} : zoSome t ρ h Q = t ρ h fun p h1 => zoI p h1 Q := rfl
theorem zoI_i {i : Int} {h : PH} {Q : Option Int → PH → Prop} : zoI (.int i) h Q = Q (some i) h := rfl
def ztBI (p : PV) (h1 : PH) (Q : Bool → PH → Prop) : Prop := match p with | .bl k => Q k h1 | _ => False
theorem ztB_ok {t : ZE} {ρ : Ev} {h : PH} {Q : Bool → PH → Prop} : ztB t ρ h Q = t ρ h fun p h1 => ztBI p h1 Q := rfl
theorem ztBI_b {k : Bool} {h : PH} {Q : Bool → PH → Prop} : ztBI (.bl k) h Q = Q k h := rfl
def zNegI (p : PV) (h1 : PH) (Q : QV) : Prop := match p with | .int i => Q (.int (-i)) h1 | _ => False
theorem zNeg_ok {t : ZE} {ρ : Ev} {h : PH} {Q : QV} : zNeg t ρ h Q = t ρ h fun p h1 => zNegI p h1 Q := rfl
theorem zNegI_i {i : Int} {h : PH} {Q : QV} : zNegI (.int i) h Q = Q (.int (-i)) h := rfl
def zNotI (p : PV) (h' : PH) (Q : QV) : Prop := match p with | .bl k => Q (.bl (!k)) h' | _ => False
theorem zNot_ok {r : Z2} {a b : PV} {h : PH} {Q : QV} : zNot r a b h Q = r a b h fun p h' => zNotI p h' Q := rfl
theorem zNotI_b {k : Bool} {h : PH} {Q : QV} : zNotI (.bl k) h Q = Q (.bl (!k)) h := rfl
def zgTupI (n : Nat) (gs : ZGs) (p : PV) (ρ : Ev) (h : PH) (Q : Ev → PH → Prop) : Prop := zgTup n gs p ρ h Q
theorem zgTup_t {n : Nat} {gs : ZGs} {xs : List PV} {ρ : Ev} {h : PH} {Q : Ev → PH → Prop} : zgTup n gs (.tup xs) ρ h Q = (xs.length = n ∧ gs xs ρ h Q) := rfl
theorem zgCons_c {g : ZG} {gs : ZGs} {p : PV} {r : List PV} {ρ : Ev} {h : PH} {Q : Ev → PH → Prop} : zgCons g gs (p :: r) ρ h Q = g p ρ h fun ρ' h' => gs r ρ' h' Q := rfl
theorem zgNil_n {ρ : Ev} {h : PH} {Q : Ev → PH → Prop} : zgNil [] ρ h Q = Q ρ h := by simp [zgNil]
def zMtI (T : String) (r : ZM) (p : PV) (ρ : Ev) (h1 : PH) (t : ZA) (Q : QV) : Prop := tyP T p h1 ∧ t ρ h1 fun ps h2 => r p ps h2 Q
def tyO (T : String) : Option PO → Prop
  | some (.lst _) => T = "list"
  | some (.dic _ _ _) => T = "dict"
  | _ => False
theorem zMt_r {T : String} {r : ZM} {to : ZE} {t : ZA} {ρ : Ev} {h : PH} {Q : QV} : zMt T r to t ρ h Q = to ρ h fun p h1 => tyP T p h1 ∧ t ρ h1 fun ps h2 => r p ps h2 Q := rfl
theorem tyP_r {T : String} {a : Addr} {h : PH} : tyP T (.ref a) h = tyO T (h a) := by
  simp only [tyP]
  cases h a with
  | none => rfl
  | some o => cases o <;> rfl
theorem tyO_l {xs : List PV} : tyO "list" (some (.lst xs)) = True := by simp [tyO]
theorem tyO_d {t : Bool} {l} {xs : List (PV × PV)} : tyO "dict" (some (.dic t l xs)) = True := by simp [tyO]
def zAppO (l : Addr) (y : PV) : Option PO → PH → QV → Prop
  | some (.lst xs), h, Q => xs.length < sizeLine ∧ Q .non (up h l (.lst (xs ++ [y])))
  | _, _, _ => False
theorem zAppend_r {l : Addr} {y : PV} {h : PH} {Q : QV} : zAppend (.ref l) [y] h Q = zAppO l y (h l) h Q := by
  simp only [zAppend]
  cases h l with
  | none => rfl
  | some o => cases o <;> rfl
theorem zAppO_l {l : Addr} {y : PV} {xs : List PV} {h : PH} {Q : QV} : zAppO l y (some (.lst xs)) h Q = (xs.length < sizeLine ∧ Q .non (up h l (.lst (xs ++ [y])))) := rfl
theorem zIsa_ok {T : Ty} {t : ZE} {ρ : Ev} {h : PH} {Q : QV} : zIsa T t ρ h Q = t ρ h fun p h1 => zIsaV T p h1 fun b => Q (.bl b) h1 := rfl
theorem zIsa_n {T : Ty} {h : PH} {Q : Bool → Prop} : zIsaV T .non h Q = Q false := rfl
theorem zIsa_b {T : Ty} {b : Bool} {h : PH} {Q : Bool → Prop} : zIsaV T (.bl b) h Q = Q (decide (T = .bool) || decide (T = .int)) := rfl
theorem zIsa_i {T : Ty} {b : Int} {h : PH} {Q : Bool → Prop} : zIsaV T (.int b) h Q = Q (decide (T = .int)) := rfl
theorem zIsa_s {T : Ty} {b : List Nat} {h : PH} {Q : Bool → Prop} : zIsaV T (.str b) h Q = Q (decide (T = .str)) := rfl
theorem zIsa_t {T : Ty} {b : List PV} {h : PH} {Q : Bool → Prop} : zIsaV T (.tup b) h Q = Q (decide (T = .tuple)) := rfl
section
variable {i n m : Nat} {ρ : Ev} {h : PH} {Q : QV} {p : PV} {ps : List PV} {D : ZEnds} {t u : ZS} {te ta tb : ZE} {tt tu : ZT} {r : Z2} {g : ZG} {a : ZA} {c : ZC} {lo hi : ZO} {neg : Bool}
theorem zVar_x : zVar i ρ h Q = ∃ p, ρ[i]? = some (some p) ∧ Q p h := rfl
theorem zC_x : zC p ρ h Q = Q p h := rfl
theorem z2_x : z2 r ta tb ρ h Q = ta ρ h fun p h1 => tb ρ h1 fun q h2 => r p q h2 Q := rfl
theorem ztOf_x {Q : Bool → PH → Prop} : ztOf te ρ h Q = te ρ h fun p h1 => zTr p h1 fun b => Q b h1 := rfl
theorem ztAnd_x {Q : Bool → PH → Prop} : ztAnd tt tu ρ h Q = tt ρ h fun k h1 => if k = true then tu ρ h1 Q else Q false h1 := rfl
theorem ztOr_x {Q : Bool → PH → Prop} : ztOr tt tu ρ h Q = tt ρ h fun k h1 => if k = true then Q true h1 else tu ρ h1 Q := rfl
theorem ztNot_x {Q : Bool → PH → Prop} : ztNot tt ρ h Q = tt ρ h fun k h1 => Q (!k) h1 := rfl
theorem ztYes_x {Q : Bool → PH → Prop} : ztYes ρ h Q = Q true h := rfl
theorem zAnd_x : zAnd ta tb ρ h Q = ta ρ h fun p h1 => zTr p h1 fun k => if k = true then tb ρ h1 Q else Q p h1 := rfl
theorem zOr_x : zOr ta tb ρ h Q = ta ρ h fun p h1 => zTr p h1 fun k => if k = true then Q p h1 else tb ρ h1 Q := rfl
theorem zNt_x : zNt ta ρ h Q = ta ρ h fun p h1 => zTr p h1 fun k => Q (.bl (!k)) h1 := rfl
theorem zIf_x : zIf tt ta tb ρ h Q = tt ρ h fun k h1 => if k = true then ta ρ h1 Q else tb ρ h1 Q := rfl
theorem zaNil_x {Q : List PV → PH → Prop} : zaNil ρ h Q = Q [] h := rfl
theorem zaCons_x {Q : List PV → PH → Prop} : zaCons te a ρ h Q = te ρ h fun p h1 => a ρ h1 fun ps h2 => Q (p :: ps) h2 := rfl
theorem zTup_x : zTup a ρ h Q = a ρ h fun ps h1 => ps.length ≤ sizeLine ∧ Q (.tup ps) h1 := rfl
theorem zLst_x : zLst a ρ h Q = a ρ h fun ps h1 => ps.length ≤ sizeLine ∧ ∀ p, h1 p = none → Q (.ref p) (up h1 p (.lst ps)) := rfl
theorem zSl_x : zSl te lo hi ρ h Q = te ρ h fun p h1 => lo ρ h1 fun l h2 => hi ρ h2 fun u h3 => zSlV p l u h3 Q := rfl
theorem zoNone_x {Q : Option Int → PH → Prop} : zoNone ρ h Q = Q none h := rfl
theorem zCall_x : zCall c a ρ h Q = a ρ h fun ps h1 => c ps h1 Q := rfl
theorem zInn_x {x y : PV} : zInn neg x y h Q = zHas x y h fun b => Q (.bl (if neg then !b else b)) h := rfl
theorem zNext_x : zNext D ρ h = D.nx ρ h := rfl
theorem zBrk_x : zBrk D ρ h = D.bk ρ h := rfl
theorem zCont_x : zCont D ρ h = D.ct ρ h := rfl
theorem zDrop_x : zDrop te D ρ h = te ρ h fun _ h1 => D.nx ρ h1 := rfl
theorem zRet_x : zRet te D ρ h = te ρ h D.rt := rfl
theorem zRetN_x : zRetN D ρ h = D.rt .non h := rfl
theorem zIfS_x : zIfS tt t u D ρ h = tt ρ h fun b h1 => if b = true then t D ρ h1 else u D ρ h1 := rfl
theorem zAsg_x : zAsg te g D ρ h = te ρ h fun p h1 => g p ρ h1 D.nx := rfl
theorem zgName_x {Q : Ev → PH → Prop} : zgName i p ρ h Q = Q (ρ.set i (some p)) h := rfl
theorem zgSub_x {Q : Ev → PH → Prop} : zgSub ta tb p ρ h Q = ta ρ h fun o h1 => tb ρ h1 fun i h2 => zSet o i p h2 fun h3 => Q ρ h3 := rfl
theorem zSeq_asg : zSeq (zAsg te g) u D ρ h = te ρ h fun p h1 => g p ρ h1 (u D) := rfl
theorem zSeq_drop : zSeq (zDrop te) u D ρ h = te ρ h fun _ h1 => u D ρ h1 := rfl
theorem zSeq_x : zSeq t u D ρ h = t { D with nx := u D } ρ h := rfl
theorem zFn_x {t : ZS} : zFn n m t ps h Q = (ps.length = m ∧ t ⟨fun _ h' => ∃ h2, Sub h2 h' ∧ Q .non h2, fun v h' => ∃ h2, Sub h2 h' ∧ Q v h2, fun _ _ => False, fun _ _ => False⟩ (ps.map some ++ List.replicate (n - m) none) h) := rfl
end
theorem atN {α : Type} {l : List α} {i : Nat} : atI l (i : Int) = l[i]? := by
  unfold atI ixN
  rw [if_pos (by omega)]
  by_cases h : i < l.length
  · rw [if_pos (by omega)]; simp
  · rw [if_neg (by omega), List.getElem?_eq_none (by omega)]; rfl
theorem at0 {α : Type} {x : α} {l : List α} : atI (x :: l) 0 = some x := (atN (i := 0)).trans rfl
theorem at1 {α : Type} {x y : α} {l : List α} : atI (x :: y :: l) 1 = some y := (atN (i := 1)).trans rfl
theorem at2 {α : Type} {x y z : α} {l : List α} : atI (x :: y :: z :: l) 2 = some z := (atN (i := 2)).trans rfl
theorem at3 {α : Type} {x y z u : α} {l : List α} : atI (x :: y :: z :: u :: l) 3 = some u := (atN (i := 3)).trans rfl
theorem at4 {α : Type} {x y z u v : α} {l : List α} : atI (x :: y :: z :: u :: v :: l) 4 = some v := (atN (i := 4)).trans rfl
theorem at5 {α : Type} {x y z u v w : α} {l : List α} : atI (x :: y :: z :: u :: v :: w :: l) 5 = some w := (atN (i := 5)).trans rfl
theorem ixN_n {n i : Nat} (h : i < n) : ixN n (i : Int) = some i := by
  unfold ixN
  rw [if_pos (by omega), if_pos (by omega)]; simp
theorem ix0 {n : Nat} : ixN (n + 1) 0 = some 0 := ixN_n (i := 0) (by omega)
theorem ix1 {n : Nat} : ixN (n + 1 + 1) 1 = some 1 := ixN_n (i := 1) (by omega)
theorem ix2 {n : Nat} : ixN (n + 1 + 1 + 1) 2 = some 2 := ixN_n (i := 2) (by omega)
theorem ix3 {n : Nat} : ixN (n + 1 + 1 + 1 + 1) 3 = some 3 := ixN_n (i := 3) (by omega)
theorem mulL {i j : Int} (h : -(2 ^ 64) < j ∧ j < 2 ^ 64) : CMulA i j := .inl (.inr h)
theorem mulR {i j : Int} (h : -(2 ^ 64) < i ∧ i < 2 ^ 64) : CMulA i j := .inl (.inl h)
/-- t, then u: what holds between them -/
theorem zSeq_key {t u : ZS} {D : ZEnds} {ρ : Ev} {h : PH} (P : Ev → PH → Prop) (key : ∀ ρ' h', P ρ' h' → u D ρ' h') (run : ∀ X : Ev → PH → Prop, (∀ ρ' h', P ρ' h' → X ρ' h') → t { D with nx := X } ρ h) : zSeq t u D ρ h := run (u D) key
/-- the addresses outside M keep what they hold -/
def Fr (M : List Addr) (h h' : PH) : Prop := ∀ b, b ∉ M → h' b = h b
theorem Fr.refl (M : List Addr) (h : PH) : Fr M h h := fun _ _ => rfl
theorem Fr.trans {M : List Addr} {a b c : PH} (x : Fr M a b) (y : Fr M b c) : Fr M a c := fun p n => (y p n).trans (x p n)
/-- .. keep at least what they held -/
def Kp (M : List Addr) (h h' : PH) : Prop := ∀ b o, b ∉ M → h b = some o → h' b = some o
theorem Kp.refl (M : List Addr) (h : PH) : Kp M h h := fun _ _ _ e => e
theorem Kp.trans {M : List Addr} {a b c : PH} (x : Kp M a b) (y : Kp M b c) : Kp M a c := fun p o n e => y p o n (x p o n e)
theorem Fr.kp {M : List Addr} {a b : PH} (x : Fr M a b) : Kp M a b := fun p o n e => (x p n).trans e
theorem kp_new {M : List Addr} {h : PH} {p : Addr} {o : PO} (n : h p = none) : Kp M h (up h p o) := fun b v _ e => by
  have hb : b ≠ p := fun z => by rw [z, n] at e; cases e
  rw [up_ne hb]; exact e
theorem Kp.new {M : List Addr} {h h1 : PH} {p : Addr} {o : PO} (k : Kp M h h1) (n : h1 p = none) : Kp M h (up h1 p o) := k.trans (kp_new n)
theorem Kp.put {M : List Addr} {h h1 : PH} {p : Addr} {o : PO} (k : Kp M h h1) (m : p ∈ M) : Kp M h (up h1 p o) := fun b v n e => by
  have hb : b ≠ p := fun z => n (z ▸ m)
  rw [up_ne hb]; exact k b v n e
/-- .. an object that was not there at the start -/
theorem Kp.put0 {M : List Addr} {h h1 : PH} {p : Addr} {o : PO} (k : Kp M h h1) (m : h p = none) : Kp M h (up h1 p o) := fun b v n e => by
  have hb : b ≠ p := fun z => by rw [z, m] at e; cases e
  rw [up_ne hb]; exact k b v n e
/-- the heap behind a def: outside M as it was -/
def back (M : List Addr) (h h' : PH) : PH := fun b => if b ∈ M then h' b else h b
theorem back_sub {M : List Addr} {h h' : PH} (k : Kp M h h') : Sub (back M h h') h' := fun b o e => by
  unfold back at e
  split at e
  · exact e
  · rename_i n; exact k b o n e
theorem back_fr {M : List Addr} {h h' : PH} : Fr M h (back M h h') := fun b n => by unfold back; rw [if_neg n]
theorem back_in {M : List Addr} {h h' : PH} {b : Addr} (m : b ∈ M) : back M h h' b = h' b := by unfold back; rw [if_pos m]
/-- nothing changed: a def that answers a tree -/
theorem sub_of_kp {h h' : PH} (k : Kp [] h h') : Sub h h' := fun b o e => k b o (by simp) e

/-! ### the draws -/
/-- the state of the draws at s, its script at a -/
def DS (a : Addr) (ns : List Int) (s : Addr) (h : PH) : Prop := a ≠ s ∧ h a = some (.lst (ns.map .int)) ∧ ∃ (i c n : Int), h s = some (.lst [.ref a, .int i, .int c, .int n])
section
variable {a s p : Addr} {ns : List Int} {h h' : PH} {o : PO} {M : List Addr}
theorem DS.ne (d : DS a ns s h) (n : h p = none) : p ≠ s := by
  obtain ⟨_, _, i, c, m, e⟩ := d
  rintro rfl; rw [n] at e; cases e
theorem DS.nea (d : DS a ns s h) (n : h p = none) : p ≠ a := by
  obtain ⟨_, e, _⟩ := d
  rintro rfl; rw [n] at e; cases e
theorem DS.put (d : DS a ns s h) (n1 : p ≠ a) (n2 : p ≠ s) : DS a ns s (up h p o) := by
  obtain ⟨x, y, i, c, m, e⟩ := d
  exact ⟨x, by rw [up_ne n1.symm]; exact y, i, c, m, by rw [up_ne n2.symm]; exact e⟩
theorem DS.new (d : DS a ns s h) (n : h p = none) : DS a ns s (up h p o) := d.put (d.nea n) (d.ne n)
theorem DS.back (d : DS a ns s h) (d' : DS a ns s h') (m : s ∈ M) (n : a ∉ M) : DS a ns s (back M h h') := by
  obtain ⟨x, y, _⟩ := d
  obtain ⟨_, _, i, c, k, e⟩ := d'
  exact ⟨x, by unfold G.back; rw [if_neg n]; exact y, i, c, k, by rw [back_in m]; exact e⟩
/-- the way out of a def whose draws changed s alone -/
theorem DS.out {Q : QV} {v : PV} (d : DS a ns s h) (d' : DS a ns s h') (k : Kp [s] h h') (q : ∀ h2, DS a ns s h2 → Fr [s] h h2 → Q v h2) : ∃ h2, Sub h2 h' ∧ Q v h2 :=
  ⟨G.back [s] h h', back_sub k, q _ (d.back d' (by simp) (by simpa using d.1)) back_fr⟩
end
end G

namespace G
open PySem PySem.Spec PyProof.Rows L2

/-! ### loops by invariants -/
def ForW (Z : ZIt) (g : ZG) (tb : ZS) (D : ZEnds) (ρ : Ev) (h1 : PH) : Prop := ∃ W : Nat → Nat → Ev → PH → Prop, (∃ m, W 0 m ρ h1) ∧ ∀ i m ρ h, W i m ρ h →
  (Z.stop i h ∧ D.nx ρ h) ∨ (Z.go i h ∧ ∃ N : Ev → PH → Prop, (∀ ρ' h', N ρ' h' → ∃ m' h2, m' < m ∧ Sub h2 h' ∧ W (i + 1) m' ρ' h2) ∧ ∀ p, Z.yld i h p → g p ρ h fun ρ2 h2 => tb { D with nx := N, ct := N, bk := D.nx } ρ2 h2)
theorem zFor_x {wz : ZSrc} {g : ZG} {tb : ZS} {D : ZEnds} {ρ : Ev} {h : PH} : zFor wz g tb D ρ h = wz ρ h fun Z h1 => ForW Z g tb D ρ h1 := rfl
def zsAnyO (a : Addr) : Option PO → PH → (ZIt → PH → Prop) → Prop
  | some (.lst _), h1, R => R (ZitL a) h1
  | some (.dic false (some lk) kvs), h1, R => R (ZitK a false lk kvs) h1
  | _, _, _ => False
def zsAnyI (p : PV) (h1 : PH) (R : ZIt → PH → Prop) : Prop := match p with
  | .tup ps => R (ZitV ps) h1
  | .ref a => zsAnyO a (h1 a) h1 R
  | _ => False
theorem zsAny_x {te : ZE} {ρ : Ev} {h : PH} {R : ZIt → PH → Prop} : zsAny te ρ h R = te ρ h fun p h1 => zsAnyI p h1 R := by
  unfold zsAny
  congr 1
  funext p h1
  cases p <;> simp only [zsAnyI]
  rename_i a
  cases h1 a with
  | none => rfl
  | some o =>
    cases o with
    | ins _ _ => rfl
    | lst _ => rfl
    | dic t l _ => cases t <;> cases l <;> rfl
theorem zsAnyI_t {ps : List PV} {h : PH} {R : ZIt → PH → Prop} : zsAnyI (.tup ps) h R = R (ZitV ps) h := rfl
theorem zsAnyI_r {a : Addr} {h : PH} {R : ZIt → PH → Prop} : zsAnyI (.ref a) h R = zsAnyO a (h a) h R := rfl
theorem zsAnyO_l {a : Addr} {xs : List PV} {h : PH} {R : ZIt → PH → Prop} : zsAnyO a (some (.lst xs)) h R = R (ZitL a) h := rfl
theorem zsAnyO_d {a : Addr} {lk : Obj × HO} {kvs : List (PV × PV)} {h : PH} {R : ZIt → PH → Prop} : zsAnyO a (some (.dic false (some lk) kvs)) h R = R (ZitK a false lk kvs) h := rfl
def zsR1I (ps : List PV) (h1 : PH) (R : ZIt → PH → Prop) : Prop := match ps with
  | [.int j] => -(2 ^ 62) ≤ j ∧ j < 2 ^ 62 ∧ R (ZitR 0 j.toNat) h1
  | _ => False
theorem zsR1_x {ta : ZA} {ρ : Ev} {h : PH} {R : ZIt → PH → Prop} : zsR1 ta ρ h R = ta ρ h fun ps h1 => zsR1I ps h1 R := rfl
theorem zsR1I_i {j : Int} {h : PH} {R : ZIt → PH → Prop} : zsR1I [.int j] h R = (-(2 ^ 62) ≤ j ∧ j < 2 ^ 62 ∧ R (ZitR 0 j.toNat) h) := rfl
def zsR2I (ps : List PV) (h1 : PH) (R : ZIt → PH → Prop) : Prop := match ps with
  | [.int i, .int j] => (-(2 ^ 62) ≤ i ∧ i < 2 ^ 62 ∧ -(2 ^ 62) ≤ j ∧ j < 2 ^ 62) ∧ R (ZitR i (j - i).toNat) h1
  | _ => False
theorem zsR2_x {ta : ZA} {ρ : Ev} {h : PH} {R : ZIt → PH → Prop} : zsR2 ta ρ h R = ta ρ h fun ps h1 => zsR2I ps h1 R := rfl
theorem zsR2I_i {i j : Int} {h : PH} {R : ZIt → PH → Prop} : zsR2I [.int i, .int j] h R = ((-(2 ^ 62) ≤ i ∧ i < 2 ^ 62 ∧ -(2 ^ 62) ≤ j ∧ j < 2 ^ 62) ∧ R (ZitR i (j - i).toNat) h) := rfl
section
variable {g : ZG} {tb : ZS} {D : ZEnds} {ρ : Ev} {h : PH}
/-- what a turn's body is to reach -/
abbrev turnD (D : ZEnds) (N : Ev → PH → Prop) : ZEnds := { D with nx := fun ρ' h' => ∃ h2, Sub h2 h' ∧ N ρ' h2, ct := fun ρ' h' => ∃ h2, Sub h2 h' ∧ N ρ' h2, bk := D.nx }
theorem forW_gen {Z : ZIt} (n : Nat) (I : Nat → Ev → PH → Prop) (h0 : I 0 ρ h) (go : ∀ i ρ h, i < n → I i ρ h → Z.go i h) (stop : ∀ ρ h, I n ρ h → Z.stop n h)
    (step : ∀ i ρ h p, i < n → I i ρ h → Z.yld i h p → g p ρ h fun ρ2 h2 => tb (turnD D (I (i + 1))) ρ2 h2) (fin : ∀ ρ h, I n ρ h → D.nx ρ h) : ForW Z g tb D ρ h := by
  refine ⟨fun i m ρ h => m = n - i ∧ i ≤ n ∧ I i ρ h, ⟨n, by simp, Nat.zero_le _, h0⟩, ?_⟩
  rintro i m ρ h ⟨rfl, hi, q⟩
  by_cases hlt : i < n
  · exact .inr ⟨go i ρ h hlt q, fun ρ' h' => ∃ h2, Sub h2 h' ∧ I (i + 1) ρ' h2, fun ρ' h' ⟨h2, u, z⟩ => ⟨n - (i + 1), h2, by omega, u, rfl, hlt, z⟩, fun p y => step i ρ h p hlt q y⟩
  · have e : i = n := by omega
    subst e
    exact .inl ⟨stop ρ h q, fin ρ h q⟩
theorem forW_V {ps : List PV} (I : Nat → Ev → PH → Prop) (h0 : I 0 ρ h) (step : ∀ i ρ h p, ps[i]? = some p → I i ρ h → g p ρ h fun ρ2 h2 => tb (turnD D (I (i + 1))) ρ2 h2) (fin : ∀ ρ h, I ps.length ρ h → D.nx ρ h) : ForW (ZitV ps) g tb D ρ h :=
  forW_gen ps.length I h0 (fun _ _ _ hi _ => hi) (fun _ _ _ => Nat.le_refl _) (fun i ρ h p _ q y => step i ρ h p y q) fin
theorem forW_R {lo : Int} {n : Nat} (I : Nat → Ev → PH → Prop) (h0 : I 0 ρ h) (step : ∀ i ρ h, i < n → I i ρ h → g (.int (lo + i)) ρ h fun ρ2 h2 => tb (turnD D (I (i + 1))) ρ2 h2) (fin : ∀ ρ h, I n ρ h → D.nx ρ h) : ForW (ZitR lo n) g tb D ρ h :=
  forW_gen n I h0 (fun _ _ _ hi _ => hi) (fun _ _ _ => Nat.le_refl _) (fun i ρ h p hi q y => by have e : p = .int (lo + i) := y; subst e; exact step i ρ h hi q) fin
/-- over a list that stays -/
theorem forW_L {a : Addr} {ps : List PV} (I : Nat → Ev → PH → Prop) (h0 : I 0 ρ h) (stay : ∀ i ρ h, i ≤ ps.length → I i ρ h → h a = some (.lst ps)) (step : ∀ i ρ h p, ps[i]? = some p → I i ρ h → g p ρ h fun ρ2 h2 => tb (turnD D (I (i + 1))) ρ2 h2) (fin : ∀ ρ h, I ps.length ρ h → D.nx ρ h) : ForW (ZitL a) g tb D ρ h :=
  forW_gen ps.length I h0 (fun i ρ h hi q => ⟨ps, ps[i], stay i ρ h (Nat.le_of_lt hi) q, List.getElem?_eq_getElem hi⟩) (fun ρ h q => ⟨ps, stay _ ρ h (Nat.le_refl _) q, Nat.le_refl _⟩)
    (fun i ρ h p hi q y => step i ρ h p (y ps (stay i ρ h (Nat.le_of_lt hi) q)) q) fin
/-- over the keys of a locked dict -/
theorem forW_K {a : Addr} {t : Bool} {lk : Obj × HO} {kvs : List (PV × PV)} (I : Nat → Ev → PH → Prop) (h0 : I 0 ρ h) (stay : ∀ i ρ h, i ≤ kvs.length → I i ρ h → h a = some (.dic t (some lk) kvs)) (step : ∀ i ρ h kv, kvs[i]? = some kv → I i ρ h → g kv.1 ρ h fun ρ2 h2 => tb (turnD D (I (i + 1))) ρ2 h2)
    (fin : ∀ ρ h, I kvs.length ρ h → D.nx ρ h) : ForW (ZitK a t lk kvs) g tb D ρ h :=
  forW_gen kvs.length I h0 (fun i ρ h hi q => ⟨stay i ρ h (Nat.le_of_lt hi) q, hi⟩) (fun ρ h q => ⟨stay _ ρ h (Nat.le_refl _) q, Nat.le_refl _⟩)
    (fun i ρ h p hi q y => by obtain ⟨kv, e, rfl⟩ := y; exact step i ρ h kv e q) fin
theorem while_turn {I : Nat → Ev → PH → Prop} {m : Nat} (t : tb (turnD D (fun ρ' h2 => ∃ m', m' < m ∧ I m' ρ' h2)) ρ h) :
    ∃ N : Ev → PH → Prop, (∀ ρ' h', N ρ' h' → ∃ m' h2, m' < m ∧ Sub h2 h' ∧ I m' ρ' h2) ∧ tb { D with nx := N, ct := N, bk := D.nx } ρ h :=
  ⟨fun ρ' h' => ∃ h2, Sub h2 h' ∧ ∃ m', m' < m ∧ I m' ρ' h2, fun ρ' h' ⟨h2, u, m', l, q⟩ => ⟨m', h2, l, u, q⟩, t⟩
end

/-! ### comprehensions -/
def LcW (Z : ZIt) (g : ZG) (tt : ZT) (te : ZE) (ρ' : Ev) (h1 : PH) (Q : List PV → PH → Prop) : Prop := ∃ W : Nat → Nat → List PV → PH → Prop, (∃ m, W 0 m [] h1) ∧ ∀ i m acc h, W i m acc h →
  (Z.stop i h ∧ Q acc h) ∨ (Z.go i h ∧ acc.length < sizeLine ∧ ∃ Nx : List PV → PH → Prop, (∀ acc' h', Nx acc' h' → ∃ m' h2, m' < m ∧ Sub h2 h' ∧ W (i + 1) m' acc' h2) ∧
    ∀ p, Z.yld i h p → g p ρ' h fun ρ2 h2 => tt ρ2 h2 fun b h3 => if b = true then te ρ2 h3 fun y h4 => Nx (acc ++ [y]) h4 else Nx acc h3)
theorem zLc_x {wz : ZSrc} {g : ZG} {tt : ZT} {te : ZE} {vs : List Nat} {ρ : Ev} {h : PH} {Q : QV} : zLc wz g tt te vs ρ h Q = wz ρ h fun Z h1 => LcW Z g tt te (zwipe ρ vs) h1 fun acc h' => ∀ D, h' D = none → Q (.ref D) (up h' D (.lst acc)) := rfl
section
variable {g : ZG} {tt : ZT} {te : ZE} {ρ : Ev} {h : PH} {Q : List PV → PH → Prop}
theorem lcW_gen {Z : ZIt} (n : Nat) (hn : n ≤ sizeLine) (I : Nat → List PV → PH → Prop) (h0 : I 0 [] h) (len : ∀ i acc h, I i acc h → acc.length ≤ i) (go : ∀ i acc h, i < n → I i acc h → Z.go i h) (stop : ∀ acc h, I n acc h → Z.stop n h)
    (step : ∀ i acc h p, i < n → I i acc h → Z.yld i h p → g p ρ h fun ρ2 h2 => tt ρ2 h2 fun b h3 => if b = true then te ρ2 h3 fun y h4 => ∃ h5, Sub h5 h4 ∧ I (i + 1) (acc ++ [y]) h5 else ∃ h5, Sub h5 h3 ∧ I (i + 1) acc h5)
    (fin : ∀ acc h, I n acc h → Q acc h) : LcW Z g tt te ρ h Q := by
  refine ⟨fun i m acc h => m = n - i ∧ i ≤ n ∧ I i acc h, ⟨n, by simp, Nat.zero_le _, h0⟩, ?_⟩
  rintro i m acc h ⟨rfl, hi, q⟩
  by_cases hlt : i < n
  · refine .inr ⟨go i acc h hlt q, by have := len i acc h q; omega, fun acc' h' => ∃ h5, Sub h5 h' ∧ I (i + 1) acc' h5, fun acc' h' ⟨h2, u, z⟩ => ⟨n - (i + 1), h2, by omega, u, rfl, hlt, z⟩, fun p y => step i acc h p hlt q y⟩
  · have e : i = n := by omega
    subst e
    exact .inl ⟨stop acc h q, fin acc h q⟩
theorem lcW_V {ps : List PV} (hn : ps.length ≤ sizeLine) (I : Nat → List PV → PH → Prop) (h0 : I 0 [] h) (len : ∀ i acc h, I i acc h → acc.length ≤ i)
    (step : ∀ i acc h p, ps[i]? = some p → I i acc h → g p ρ h fun ρ2 h2 => tt ρ2 h2 fun b h3 => if b = true then te ρ2 h3 fun y h4 => ∃ h5, Sub h5 h4 ∧ I (i + 1) (acc ++ [y]) h5 else ∃ h5, Sub h5 h3 ∧ I (i + 1) acc h5)
    (fin : ∀ acc h, I ps.length acc h → Q acc h) : LcW (ZitV ps) g tt te ρ h Q := lcW_gen ps.length hn I h0 len (fun _ _ _ hi _ => hi) (fun _ _ _ => Nat.le_refl _) (fun i acc h p _ q y => step i acc h p y q) fin
theorem lcW_R {lo : Int} {n : Nat} (hn : n ≤ sizeLine) (I : Nat → List PV → PH → Prop) (h0 : I 0 [] h) (len : ∀ i acc h, I i acc h → acc.length ≤ i)
    (step : ∀ i acc h, i < n → I i acc h → g (.int (lo + i)) ρ h fun ρ2 h2 => tt ρ2 h2 fun b h3 => if b = true then te ρ2 h3 fun y h4 => ∃ h5, Sub h5 h4 ∧ I (i + 1) (acc ++ [y]) h5 else ∃ h5, Sub h5 h3 ∧ I (i + 1) acc h5)
    (fin : ∀ acc h, I n acc h → Q acc h) : LcW (ZitR lo n) g tt te ρ h Q := lcW_gen n hn I h0 len (fun _ _ _ hi _ => hi) (fun _ _ _ => Nat.le_refl _) (fun i acc h p hi q y => by have e : p = .int (lo + i) := y; subst e; exact step i acc h hi q) fin
theorem lcW_L {a : Addr} {ps : List PV} (hn : ps.length ≤ sizeLine) (I : Nat → List PV → PH → Prop) (h0 : I 0 [] h) (len : ∀ i acc h, I i acc h → acc.length ≤ i) (stay : ∀ i acc h, i ≤ ps.length → I i acc h → h a = some (.lst ps))
    (step : ∀ i acc h p, ps[i]? = some p → I i acc h → g p ρ h fun ρ2 h2 => tt ρ2 h2 fun b h3 => if b = true then te ρ2 h3 fun y h4 => ∃ h5, Sub h5 h4 ∧ I (i + 1) (acc ++ [y]) h5 else ∃ h5, Sub h5 h3 ∧ I (i + 1) acc h5)
    (fin : ∀ acc h, I ps.length acc h → Q acc h) : LcW (ZitL a) g tt te ρ h Q :=
  lcW_gen ps.length hn I h0 len (fun i acc h hi q => ⟨ps, ps[i], stay i acc h (Nat.le_of_lt hi) q, List.getElem?_eq_getElem hi⟩) (fun acc h q => ⟨ps, stay _ acc h (Nat.le_refl _) q, Nat.le_refl _⟩)
    (fun i acc h p hi q y => step i acc h p (y ps (stay i acc h (Nat.le_of_lt hi) q)) q) fin
/-- nothing but values: b tells what is kept, f what is put -/
abbrev Pure (g : ZG) (tt : ZT) (te : ZE) (ρ : Ev) (h : PH) (b : PV → Bool) (f : PV → PV) (p : PV) : Prop := ∀ (R : List PV → PH → Prop) (acc : List PV), (if b p = true then R (acc ++ [f p]) h else R acc h) →
  g p ρ h fun ρ2 h2 => tt ρ2 h2 fun b h3 => if b = true then te ρ2 h3 fun y h4 => R (acc ++ [y]) h4 else R acc h3
theorem filt_len {b : PV → Bool} {f : PV → PV} (l : List PV) (i : Nat) : (((l.take i).filter b).map f).length ≤ i := by
  rw [List.length_map]
  exact Nat.le_trans (List.length_filter_le _ _) (by rw [List.length_take]; omega)
theorem filt_step {b : PV → Bool} {f : PV → PV} {l : List PV} {i : Nat} {p : PV} (e : l[i]? = some p) : ((l.take (i + 1)).filter b).map f = if b p = true then ((l.take i).filter b).map f ++ [f p] else ((l.take i).filter b).map f := by
  rw [List.take_add_one, e]
  simp only [Option.toList_some, List.filter_append, List.map_append]
  by_cases h : b p = true
  · rw [if_pos h, List.filter_cons_of_pos h]; rfl
  · rw [if_neg h, List.filter_cons_of_neg h]; simp
theorem lcP_V {ps : List PV} (b : PV → Bool) (f : PV → PV) (hn : ps.length ≤ sizeLine) (pure : ∀ p ∈ ps, Pure g tt te ρ h b f p) (fin : Q ((ps.filter b).map f) h) : LcW (ZitV ps) g tt te ρ h Q := by
  refine lcW_V hn (fun i acc h' => h = h' ∧ acc = ((ps.take i).filter b).map f) ⟨rfl, rfl⟩ (fun i acc h' ⟨_, e⟩ => e ▸ filt_len ps i) (fun i acc h' p e ⟨e1, e2⟩ => ?_) fun acc h' ⟨e1, e2⟩ => ?_
  · subst e1 e2
    refine pure p (List.mem_of_getElem? e) (fun acc' h' => ∃ h5, Sub h5 h' ∧ h = h5 ∧ acc' = ((ps.take (i + 1)).filter b).map f) _ ?_
    rw [filt_step e]
    by_cases hb : b p = true
    · rw [if_pos hb, if_pos hb]; exact ⟨h, Sub.refl _, rfl, rfl⟩
    · rw [if_neg hb, if_neg hb]; exact ⟨h, Sub.refl _, rfl, rfl⟩
  · subst e1 e2; rw [List.take_length]; exact fin
theorem lcP_L {a : Addr} {ps : List PV} (b : PV → Bool) (f : PV → PV) (hn : ps.length ≤ sizeLine) (ha : h a = some (.lst ps)) (pure : ∀ p ∈ ps, Pure g tt te ρ h b f p) (fin : Q ((ps.filter b).map f) h) : LcW (ZitL a) g tt te ρ h Q := by
  refine lcW_L hn (fun i acc h' => h = h' ∧ acc = ((ps.take i).filter b).map f) ⟨rfl, rfl⟩ (fun i acc h' ⟨_, e⟩ => e ▸ filt_len ps i) (fun i acc h' _ ⟨e, _⟩ => e ▸ ha) (fun i acc h' p e ⟨e1, e2⟩ => ?_) fun acc h' ⟨e1, e2⟩ => ?_
  · subst e1 e2
    refine pure p (List.mem_of_getElem? e) (fun acc' h' => ∃ h5, Sub h5 h' ∧ h = h5 ∧ acc' = ((ps.take (i + 1)).filter b).map f) _ ?_
    rw [filt_step e]
    by_cases hb : b p = true
    · rw [if_pos hb, if_pos hb]; exact ⟨h, Sub.refl _, rfl, rfl⟩
    · rw [if_neg hb, if_neg hb]; exact ⟨h, Sub.refl _, rfl, rfl⟩
  · subst e1 e2; rw [List.take_length]; exact fin
theorem lcP_R {lo : Int} {n : Nat} (b : PV → Bool) (f : PV → PV) (hn : n ≤ sizeLine) (pure : ∀ i : Nat, i < n → Pure g tt te ρ h b f (.int (lo + i))) (fin : Q ((((List.range n).map fun i : Nat => PV.int (lo + i)).filter b).map f) h) : LcW (ZitR lo n) g tt te ρ h Q := by
  have hl : ((List.range n).map fun i : Nat => PV.int (lo + i)).length = n := by simp
  have base := lcP_V (ps := (List.range n).map fun i : Nat => PV.int (lo + i)) (g := g) (tt := tt) (te := te) (ρ := ρ) (h := h) (Q := Q) b f (by rw [hl]; exact hn) (fun p hp => by
    obtain ⟨i, hi, rfl⟩ := List.mem_map.mp hp
    exact pure i (List.mem_range.mp hi)) fin
  obtain ⟨W, w0, turn⟩ := base
  refine ⟨W, w0, fun i m acc h w => ?_⟩
  rcases turn i m acc h w with ⟨a, b⟩ | ⟨a, l, N, b, c⟩
  · exact .inl ⟨by simpa [ZitV, ZitR] using a, b⟩
  · have a' : i < n := by simpa [ZitV] using a
    exact .inr ⟨a', l, N, b, fun p y => c p (by
      have y' : p = .int (lo + i) := y
      subst y'
      simp [ZitV, a'])⟩
end
theorem zPairs_n {ρ : Ev} {h : PH} {Q : List (PV × PV) → PH → Prop} : zPairs [] ρ h Q = Q [] h := rfl
theorem zPairs_c {tk tv : ZE} {r : List (ZE × ZE)} {ρ : Ev} {h : PH} {Q : List (PV × PV) → PH → Prop} : zPairs ((tk, tv) :: r) ρ h Q = tk ρ h fun x h1 => tv ρ h1 fun y h2 => zPairs r ρ h2 fun ps h3 => Q ((x, y) :: ps) h3 := rfl
theorem zDispN_x {n : Nat} {trs : List (ZE × ZE)} {ρ : Ev} {h : PH} {Q : QV} : zDispN n trs ρ h Q = zPairs trs ρ h fun ps h2 => ps.length ≤ 15 ∧ (ps.all fun kv => kv.1.leaf) = true ∧ ∀ p, h2 p = none → Q (.ref p) (up h2 p (.dic false none (dputs [] ps))) := rfl
theorem zDn_x {ρ : Ev} {h : PH} {Q : QV} : zDn ρ h Q = ∃ t, ∀ p, h p = none → Q (.ref p) (up h p (.dic t none [])) := rfl
theorem cut_nn {α : Type} {xs : List α} {a b : Int} (h0 : 0 ≤ a) (h1 : 0 ≤ b) (h2 : a.toNat ≤ xs.length) : cut xs (some a) (some b) = (xs.drop a.toNat).take (b.toNat - a.toNat) := by
  have e1 : HT.sIx xs.length 0 (some a) = a.toNat := by
    show (if a < 0 then (a + (xs.length : Int)).toNat else min a.toNat xs.length) = _
    rw [if_neg (by omega)]; omega
  have e2 : HT.sIx xs.length xs.length (some b) = min b.toNat xs.length := by
    show (if b < 0 then (b + (xs.length : Int)).toNat else min b.toNat xs.length) = _
    rw [if_neg (by omega)]
  unfold cut
  rw [e1, e2]
  rcases Nat.le_total b.toNat xs.length with h | h
  · rw [Nat.min_eq_left h]
  · rw [Nat.min_eq_right h, List.take_of_length_le (by simp), List.take_of_length_le (by simp; omega)]
theorem cut_to {α : Type} {xs : List α} {b : Int} (h1 : 0 ≤ b) : cut xs none (some b) = xs.take b.toNat := by
  have e2 : HT.sIx xs.length xs.length (some b) = min b.toNat xs.length := by
    show (if b < 0 then (b + (xs.length : Int)).toNat else min b.toNat xs.length) = _
    rw [if_neg (by omega)]
  unfold cut
  rw [show HT.sIx xs.length 0 none = 0 from rfl, e2]
  rcases Nat.le_total b.toNat xs.length with h | h
  · rw [Nat.min_eq_left h]; simp
  · rw [Nat.min_eq_right h, List.take_of_length_le (by simp), List.take_of_length_le h]; simp
theorem cut_from {α : Type} {xs : List α} {a : Int} (h0 : 0 ≤ a) : cut xs (some a) none = xs.drop a.toNat := by
  have e1 : HT.sIx xs.length 0 (some a) = min a.toNat xs.length := by
    show (if a < 0 then (a + (xs.length : Int)).toNat else min a.toNat xs.length) = _
    rw [if_neg (by omega)]
  unfold cut
  rw [e1, show HT.sIx xs.length xs.length none = xs.length from rfl]
  rcases Nat.le_total a.toNat xs.length with h | h
  · rw [Nat.min_eq_left h, List.take_of_length_le (by simp)]
  · rw [Nat.min_eq_right h, List.drop_of_length_le (Nat.le_refl _), List.drop_of_length_le h]; simp
theorem dget_dput {kvs : List (PV × PV)} {k k' v : PV} : dget (dput kvs k v) k' = if k' = k then some v else dget kvs k' := by
  unfold dput
  by_cases ha : (kvs.any fun kv => decide (kv.1 = k)) = true
  · rw [if_pos ha]
    induction kvs with
    | nil => simp at ha
    | cons kv l ih =>
      by_cases e : kv.1 = k
      · by_cases e' : k' = k
        · subst e'; simp [dget, List.find?_cons, e]
        · have h1 : ¬ kv.1 = k' := fun z => e' (z.symm.trans e)
          rw [if_neg e']
          have tl : ∀ l : List (PV × PV), dget (l.map fun kv => if kv.1 = k then (kv.1, v) else kv) k' = dget l k' := by
            intro l
            induction l with
            | nil => rfl
            | cons x l ih2 =>
              by_cases hx : x.1 = k
              · have hx' : ¬ x.1 = k' := fun z => e' (z.symm.trans hx)
                simp only [List.map_cons, if_pos hx, dget, List.find?_cons, decide_eq_false hx'] at ih2 ⊢
                exact ih2
              · simp only [List.map_cons, if_neg hx, dget, List.find?_cons] at ih2 ⊢
                by_cases hx' : x.1 = k'
                · simp [hx']
                · simp only [decide_eq_false hx']; exact ih2
          exact tl (kv :: l)
      · have ha' : (l.any fun kv => decide (kv.1 = k)) = true := by simpa [e] using ha
        have ih := ih ha'
        simp only [List.map_cons, if_neg e, dget, List.find?_cons] at ih ⊢
        by_cases h1 : kv.1 = k'
        · have e' : ¬ k' = k := fun z => e (h1.trans z)
          simp [h1, e']
        · simp only [decide_eq_false h1]; exact ih
  · rw [if_neg ha]
    have hn : dget kvs k = none := by
      have := any_dget kvs k
      rw [Bool.not_eq_true] at ha
      rw [ha] at this
      cases h : dget kvs k with
      | none => rfl
      | some x => rw [h] at this; cases this
    unfold dget at hn ⊢
    rw [List.find?_append]
    by_cases e' : k' = k
    · subst e'
      rw [Option.map_eq_none_iff] at hn
      rw [hn]; simp
    · rw [if_neg e']
      cases h : kvs.find? (fun kv => decide (kv.1 = k')) with
      | none => simp; intro z; exact absurd z.symm e'
      | some x => simp
theorem len_dput_old {kvs : List (PV × PV)} {k v x : PV} (h : dget kvs k = some x) : (dput kvs k v).length = kvs.length := by
  unfold dput
  rw [any_dget, h]
  simp
end G

namespace G
open PySem PySem.Spec PyProof.Rows L2

/-! ### more of reading: dict comprehensions, while, locks, methods -/
def DcW (Z : ZIt) (g : ZG) (tt : ZT) (tk tv : ZE) (ρ' : Ev) (h1 : PH) (Q : QV) : Prop := ∃ W : Nat → Nat → List (PV × PV) → PH → Prop, (∃ m, W 0 m [] h1) ∧ ∀ i m acc h, W i m acc h →
  (Z.stop i h ∧ ∀ D, h D = none → Q (.ref D) (up h D (.dic false none acc))) ∨ (Z.go i h ∧ acc.length < sizeLine ∧ ∃ Nx : List (PV × PV) → PH → Prop, (∀ acc' h', Nx acc' h' → ∃ m' h2, m' < m ∧ Sub h2 h' ∧ W (i + 1) m' acc' h2) ∧
    ∀ p, Z.yld i h p → g p ρ' h fun ρ2 h2 => tt ρ2 h2 fun b h3 => if b = true then tk ρ2 h3 fun y h4 => tv ρ2 h4 fun z h5 => y.leaf = true ∧ Nx (dput acc y z) h5 else Nx acc h3)
theorem zDc_x {wz : ZSrc} {g : ZG} {tt : ZT} {tk tv : ZE} {vs : List Nat} {ρ : Ev} {h : PH} {Q : QV} : zDc wz g tt tk tv vs ρ h Q = wz ρ h fun Z h1 => DcW Z g tt tk tv (zwipe ρ vs) h1 Q := rfl
section
variable {g : ZG} {tt : ZT} {tk tv : ZE} {ρ : Ev} {h : PH} {Q : QV}
theorem dcW_gen {Z : ZIt} (n : Nat) (hn : n ≤ sizeLine) (I : Nat → List (PV × PV) → PH → Prop) (h0 : I 0 [] h) (len : ∀ i acc h, I i acc h → acc.length ≤ i) (go : ∀ i acc h, i < n → I i acc h → Z.go i h) (stop : ∀ acc h, I n acc h → Z.stop n h)
    (step : ∀ i acc h p, i < n → I i acc h → Z.yld i h p → g p ρ h fun ρ2 h2 => tt ρ2 h2 fun b h3 => if b = true then tk ρ2 h3 fun y h4 => tv ρ2 h4 fun z h5 => y.leaf = true ∧ ∃ h6, Sub h6 h5 ∧ I (i + 1) (dput acc y z) h6 else ∃ h5, Sub h5 h3 ∧ I (i + 1) acc h5)
    (fin : ∀ acc h, I n acc h → ∀ D, h D = none → Q (.ref D) (up h D (.dic false none acc))) : DcW Z g tt tk tv ρ h Q := by
  refine ⟨fun i m acc h => m = n - i ∧ i ≤ n ∧ I i acc h, ⟨n, by simp, Nat.zero_le _, h0⟩, ?_⟩
  rintro i m acc h ⟨rfl, hi, q⟩
  by_cases hlt : i < n
  · refine .inr ⟨go i acc h hlt q, by have := len i acc h q; omega, fun acc' h' => ∃ h5, Sub h5 h' ∧ I (i + 1) acc' h5, fun acc' h' ⟨h2, u, z⟩ => ⟨n - (i + 1), h2, by omega, u, rfl, hlt, z⟩, fun p y => step i acc h p hlt q y⟩
  · have e : i = n := by omega
    subst e
    exact .inl ⟨stop acc h q, fin acc h q⟩
theorem dcW_V {ps : List PV} (hn : ps.length ≤ sizeLine) (I : Nat → List (PV × PV) → PH → Prop) (h0 : I 0 [] h) (len : ∀ i acc h, I i acc h → acc.length ≤ i)
    (step : ∀ i acc h p, ps[i]? = some p → I i acc h → g p ρ h fun ρ2 h2 => tt ρ2 h2 fun b h3 => if b = true then tk ρ2 h3 fun y h4 => tv ρ2 h4 fun z h5 => y.leaf = true ∧ ∃ h6, Sub h6 h5 ∧ I (i + 1) (dput acc y z) h6 else ∃ h5, Sub h5 h3 ∧ I (i + 1) acc h5)
    (fin : ∀ acc h, I ps.length acc h → ∀ D, h D = none → Q (.ref D) (up h D (.dic false none acc))) : DcW (ZitV ps) g tt tk tv ρ h Q :=
  dcW_gen ps.length hn I h0 len (fun _ _ _ hi _ => hi) (fun _ _ _ => Nat.le_refl _) (fun i acc h p _ q y => step i acc h p y q) fin
theorem dcW_L {a : Addr} {ps : List PV} (hn : ps.length ≤ sizeLine) (I : Nat → List (PV × PV) → PH → Prop) (h0 : I 0 [] h) (len : ∀ i acc h, I i acc h → acc.length ≤ i) (stay : ∀ i acc h, i ≤ ps.length → I i acc h → h a = some (.lst ps))
    (step : ∀ i acc h p, ps[i]? = some p → I i acc h → g p ρ h fun ρ2 h2 => tt ρ2 h2 fun b h3 => if b = true then tk ρ2 h3 fun y h4 => tv ρ2 h4 fun z h5 => y.leaf = true ∧ ∃ h6, Sub h6 h5 ∧ I (i + 1) (dput acc y z) h6 else ∃ h5, Sub h5 h3 ∧ I (i + 1) acc h5)
    (fin : ∀ acc h, I ps.length acc h → ∀ D, h D = none → Q (.ref D) (up h D (.dic false none acc))) : DcW (ZitL a) g tt tk tv ρ h Q :=
  dcW_gen ps.length hn I h0 len (fun i acc h hi q => ⟨ps, ps[i], stay i acc h (Nat.le_of_lt hi) q, List.getElem?_eq_getElem hi⟩) (fun acc h q => ⟨ps, stay _ acc h (Nat.le_refl _) q, Nat.le_refl _⟩)
    (fun i acc h p hi q y => step i acc h p (y ps (stay i acc h (Nat.le_of_lt hi) q)) q) fin
end
theorem dget_none {kvs : List (PV × PV)} {k : PV} : dget kvs k = none ↔ k ∉ kvs.map Prod.fst := by
  unfold dget
  rw [Option.map_eq_none_iff, List.find?_eq_none]
  constructor
  · intro h hm
    obtain ⟨kv, hkv, rfl⟩ := List.mem_map.mp hm
    have := h kv hkv
    simp at this
  · intro h kv hkv e
    exact h (List.mem_map.mpr ⟨kv, hkv, by simpa using e⟩)
theorem dput_new {kvs : List (PV × PV)} {k v : PV} (h : k ∉ kvs.map Prod.fst) : dput kvs k v = kvs ++ [(k, v)] := by
  unfold dput
  rw [any_dget, dget_none.mpr h]
  rfl
theorem dget_mem {kvs : List (PV × PV)} {k v : PV} (nd : (kvs.map Prod.fst).Nodup) (h : (k, v) ∈ kvs) : dget kvs k = some v := by
  induction kvs with
  | nil => cases h
  | cons kv l ih =>
    rw [List.map_cons, List.nodup_cons] at nd
    rcases List.mem_cons.mp h with h | h
    · subst h; simp [dget, List.find?_cons]
    · have ne : ¬ kv.1 = k := fun z => nd.1 (List.mem_map.mpr ⟨_, h, z.symm⟩)
      have := ih nd.2 h
      simp only [dget, List.find?_cons, decide_eq_false ne] at this ⊢
      exact this
theorem zWhile_x {c : ZT} {tb : ZS} {D : ZEnds} {ρ : Ev} {h : PH} : zWhile c tb D ρ h = ∃ W : Nat → Ev → PH → Prop, (∃ m, W m ρ h) ∧ ∀ m ρ h, W m ρ h →
    c ρ h fun b h1 => if b = true then ∃ N : Ev → PH → Prop, (∀ ρ' h', N ρ' h' → ∃ m' h2, m' < m ∧ Sub h2 h' ∧ W m' ρ' h2) ∧ tb { D with nx := N, ct := N, bk := D.nx } ρ h1 else D.nx ρ h1 := rfl
theorem zLock_x {t : ZS} {D : ZEnds} {ρ : Ev} {h : PH} : zLock t D ρ h = ∃ a tt kvs, h a = some (.dic tt none kvs) ∧ ∀ lk, t ⟨fun ρ' h' => h' a = some (.dic tt (some lk) kvs) ∧ D.nx ρ' (up h' a (.dic tt none kvs)), fun v h' => h' a = some (.dic tt (some lk) kvs) ∧ D.rt v (up h' a (.dic tt none kvs)),
    fun ρ' h' => h' a = some (.dic tt (some lk) kvs) ∧ D.bk ρ' (up h' a (.dic tt none kvs)), fun ρ' h' => h' a = some (.dic tt (some lk) kvs) ∧ D.ct ρ' (up h' a (.dic tt none kvs))⟩ ρ (up h a (.dic tt (some lk) kvs)) := rfl
theorem zLockE_x {t : ZE} {ρ : Ev} {h : PH} {Q : QV} : zLockE t ρ h Q = ∃ a tt kvs, h a = some (.dic tt none kvs) ∧ ∀ lk, t ρ (up h a (.dic tt (some lk) kvs)) fun v h' => h' a = some (.dic tt (some lk) kvs) ∧ Q v (up h' a (.dic tt none kvs)) := rfl
def zDgetO (k x : PV) : Option PO → PH → QV → Prop
  | some (.dic t _ kvs), h, Q => keyOk t k = true ∧ Q ((dget kvs k).getD x) h
  | _, _, _ => False
theorem zDget_1 {a : Addr} {k : PV} {h : PH} {Q : QV} : zDget (.ref a) [k] h Q = zDgetO k .non (h a) h Q := by
  simp only [zDget]
  cases h a with
  | none => rfl
  | some o => cases o <;> rfl
theorem zDget_2 {a : Addr} {k x : PV} {h : PH} {Q : QV} : zDget (.ref a) [k, x] h Q = zDgetO k x (h a) h Q := by
  simp only [zDget]
  cases h a with
  | none => rfl
  | some o => cases o <;> rfl
theorem zDgetO_d {t : Bool} {l} {kvs : List (PV × PV)} {k x : PV} {h : PH} {Q : QV} : zDgetO k x (some (.dic t l kvs)) h Q = (keyOk t k = true ∧ Q ((dget kvs k).getD x) h) := rfl
def zInsO (l : Addr) (i : Int) (y : PV) : Option PO → PH → QV → Prop
  | some (.lst xs), h, Q => xs.length < sizeLine ∧ 0 ≤ i ∧ i < 2 ^ 63 ∧ Q .non (up h l (.lst (xs.take i.toNat ++ [y] ++ xs.drop i.toNat)))
  | _, _, _ => False
theorem zInsert_r {l : Addr} {i : Int} {y : PV} {h : PH} {Q : QV} : zInsert (.ref l) [.int i, y] h Q = zInsO l i y (h l) h Q := by
  simp only [zInsert]
  cases h l with
  | none => rfl
  | some o => cases o <;> rfl
theorem zInsO_l {l : Addr} {i : Int} {y : PV} {xs : List PV} {h : PH} {Q : QV} : zInsO l i y (some (.lst xs)) h Q = (xs.length < sizeLine ∧ 0 ≤ i ∧ i < 2 ^ 63 ∧ Q .non (up h l (.lst (xs.take i.toNat ++ [y] ++ xs.drop i.toNat)))) := rfl
end G

namespace G
open PySem PySem.Spec PyProof.Rows L2

/-! ### instances: attributes, methods, making -/
def flook (fs : List (List Nat × PV)) (f : List Nat) : Option PV := (fs.find? fun x => decide (x.1 = f)).map (·.2)
def fput (f : List Nat) (v : PV) : List (List Nat × PV) → List (List Nat × PV)
  | [] => [(f, v)]
  | x :: r => if x.1 = f then (x.1, v) :: r else x :: fput f v r
theorem fput_len (f : List Nat) (v : PV) : ∀ fs, (fput f v fs).length ≤ fs.length + 1
  | [] => Nat.le_refl _
  | x :: r => by
    have := fput_len f v r
    unfold fput
    split
    · simp
    · simp; omega
theorem flook_ent {K : PySem.W.Frag} {H : Hp} {f : List Nat} : ∀ {fs : List (List Nat × PV)} {xs : List (Str × V)}, Paired (EntF K H) fs xs →
    (flook fs f = none ∧ xs.lookup (tS f) = none) ∨ ∃ p v, flook fs f = some p ∧ xs.lookup (tS f) = some v ∧ RV K H v p := by
  intro fs xs r
  induction r with
  | nil => exact .inl ⟨rfl, rfl⟩
  | cons q t ih =>
    rename_i a b _ _
    obtain ⟨q1, q2⟩ := q
    obtain ⟨b1, b2⟩ := b
    simp only at q1 q2
    by_cases e : a.1 = f
    · refine .inr ⟨a.2, b2, by simp [flook, List.find?_cons, e], ?_, q2⟩
      rw [List.lookup_cons, q1, e]; simp
    · have e' : (tS f == b1) = false := by
        rw [q1, beq_eq_false_iff_ne]
        exact fun z => e (tS_inj.mp z).symm
      have d1 : ∀ l, flook (a :: l) f = flook l f := fun l => by simp [flook, List.find?_cons, e]
      have d2 : ∀ l : List (Str × V), List.lookup (tS f) ((b1, b2) :: l) = List.lookup (tS f) l := fun l => by rw [List.lookup_cons, e']
      rw [d1, d2]
      exact ih
theorem fput_ent {K : PySem.W.Frag} {H : Hp} {f : List Nat} {p : PV} {v : V} (rv : RV K H v p) : ∀ {fs : List (List Nat × PV)} {xs : List (Str × V)}, Paired (EntF K H) fs xs → Paired (EntF K H) (fput f p fs) (putF (tS f) v xs) := by
  intro fs xs r
  induction r with
  | nil => exact .cons ⟨rfl, rv⟩ .nil
  | cons q t ih =>
    rename_i a b _ _
    obtain ⟨b1, b2⟩ := b
    obtain ⟨q1, q2⟩ := q
    simp only at q1 q2
    unfold fput putF
    by_cases e : a.1 = f
    · rw [if_pos e, if_pos (by rw [q1, e])]
      exact .cons ⟨q1, rv⟩ t
    · rw [if_neg e, if_neg (by rw [q1]; exact fun z => e (tS_inj.mp z))]
      exact .cons ⟨q1, q2⟩ ih
/-- e.f -/
def zFldO (C : Addr) (f : List Nat) : Option PO → PH → QV → Prop
  | some (.ins C' fs), h, Q => C' = C ∧ ∃ v, flook fs f = some v ∧ Q v h
  | _, _, _ => False
def zFldI (C : Addr) (f : List Nat) (p : PV) (h1 : PH) (Q : QV) : Prop := match p with
  | .ref a => zFldO C f (h1 a) h1 Q
  | _ => False
def zFld (C : Addr) (f : List Nat) (te : ZE) : ZE := fun ρ h Q => te ρ h fun p h1 => zFldI C f p h1 Q
section
variable {X : Cx} {e o value : Expr} {es : List Expr} {te to tv : ZE} {ta : ZA} {pos pos' p : Pos} {C : Addr} {f m x : Str} {g : List Nat}
theorem qe_fld (c : Cls X.K C) (n : NoAttr X.K C f) (hf : f = tS g) (he : QE X e te) (hb : attributeBase e f X.env (eval e X.env) = eval e X.env) : QE X (.Attribute e f pos) (zFld C g te) :=
  peI (pe_fld he hb) fun σ H Q ⟨ρ, h, Qp, rs, rh, t, k⟩ => ⟨ρ, h, _, rs, rh, t, fun p h1 t1 v H1 s1 r1 rh1 => by
    cases p <;> first | (exact False.elim t1) | skip
    cases r1
    rename_i a
    simp only [zFldI] at t1
    cases ea : h1 a with
    | none => rw [ea] at t1; exact False.elim t1
    | some ob =>
      rw [ea] at t1
      cases ob with
      | lst xs => exact False.elim t1
      | dic t l kvs => exact False.elim t1
      | ins C' fs =>
        obtain ⟨rfl, pv, e1, z⟩ := t1
        obtain ⟨dx, xs, f1, l1, q1⟩ := rh1 a _ ea
        rcases flook_ent (f := g) q1 with ⟨z1, _⟩ | ⟨p', v', z1, z2, r'⟩
        · rw [e1] at z1; cases z1
        · rw [e1] at z1; cases z1
          exact ⟨a, C', dx, xs, v', rfl, f1, c, n, by rw [hf]; exact z2, (k.later s1).now rh1 r' z⟩⟩
/-- o.f = value -/
def zSetFO (C : Addr) (f : List Nat) (y : PV) (a : Addr) : Option PO → PH → (PH → Prop) → Prop
  | some (.ins C' fs), h, Q => C' = C ∧ fs.length < 900 ∧ Q (up h a (.ins C (fput f y fs)))
  | _, _, _ => False
def zSetFI (C : Addr) (f : List Nat) (y p : PV) (h : PH) (Q : PH → Prop) : Prop := match p with
  | .ref a => zSetFO C f y a (h a) h Q
  | _ => False
def zSetF (C : Addr) (f : List Nat) (to tv : ZE) : ZS := fun D ρ h => tv ρ h fun y h1 => to ρ h1 fun p h2 => zSetFI C f y p h2 fun h3 => D.nx ρ h3
theorem qs_setF (c : Cls X.K C) (n : NoAttr X.K C f) (hf : f = tS g) (ho : QE X o to) (hv : QE X value tv) (hs : swapsWith value (some (.Attribute o f pos')) pos.line X.env = pure false) : QS X (.Assign [.Attribute o f pos'] value pos) (zSetF C g to tv) :=
  psI (ps_fld ho hv hs) fun D σ H ⟨ρ, h, Z, rs, rh, t, k⟩ => ⟨ρ, h, _, rs, rh, t, fun y h1 t1 yv H1 s1 r1 rh1 => ⟨ρ, h1, _, rs.stp rh s1, rh1, t1, fun p h2 t2 v H2 s2 r2 rh2 => by
    cases p <;> first | (exact False.elim t2) | skip
    cases r2
    rename_i a
    simp only [zSetFI] at t2
    cases ea : h2 a with
    | none => rw [ea] at t2; exact False.elim t2
    | some ob =>
      rw [ea] at t2
      cases ob with
      | lst xs => exact False.elim t2
      | dic t l kvs => exact False.elim t2
      | ins C' fs =>
        obtain ⟨rfl, l0, z⟩ := t2
        obtain ⟨dx, xs, f1, l1, q1⟩ := rh2 a _ ea
        have ry := r1.stp rh1 s2
        have st : Stp h2 H2 (up h2 a (.ins C' (fput g y fs))) (upd H2 a (.ins C' dx (putF f yv xs))) := stp_set ea
        have lf := fput_len g y fs
        have rh3 := rh2.put st (show RO X.prog X.w X.K _ a _ from ⟨dx, _, upd_same, by omega, Paired.mapP (show Paired (EntF X.K H2) (fput g y fs) (putF f yv xs) by rw [hf]; exact fput_ent ry q1) fun _ _ z => ⟨z.1, z.2.stp rh2 st⟩⟩)
        exact ⟨a, C', dx, xs, rfl, f1, c, n, by rw [← paired_len q1]; omega, k.nx _ _ z _ _ ((s1.trans s2).trans st) ((rs.stp rh s1).stp rh1 s2 |>.stp rh2 st) rh3⟩⟩⟩
/-- the method m of C can be called; it does r -/
structure QMe (P : Program) (w : World) (K : PySem.W.Frag) (mg : Str → Option Value) (base : Heap) (k : Nat) (C : Addr) (m : Str) (r : ZC) : Prop where
  ex : ∃ (f : Addr) (fd : FuncData) (ps : List Str), FnOk P w K mg base CX0 k f fd ps (spOf P w K r) ∧ Meth K C m f ∧ Binds K fd ps []
/-- C can be made; its __init__ does r -/
structure QMk (P : Program) (w : World) (K : PySem.W.Frag) (mg : Str → Option Value) (base : Heap) (k : Nat) (x : Str) (C : Addr) (r : ZC) : Prop where
  ex : ∃ (f : Addr) (fd : FuncData) (ps : List Str), FnOk P w K mg base CX0 k f fd ps (spOf P w K r) ∧ Mk K C f ∧ mg x = some (.ref C) ∧ Binds K fd ps []
def zMethO (C : Addr) (m : List Nat) (r : ZC) (p : PV) (ta : ZA) (ρ : Ev) : Option PO → PH → QV → Prop
  | some (.ins C' fs), h, Q => C' = C ∧ flook fs m = none ∧ ta ρ h fun ps h2 => r (p :: ps) h2 Q
  | _, _, _ => False
def zMethI (C : Addr) (m : List Nat) (r : ZC) (ta : ZA) (ρ : Ev) (p : PV) (h : PH) (Q : QV) : Prop := match p with
  | .ref a => zMethO C m r p ta ρ (h a) h Q
  | _ => False
def zMeth (C : Addr) (m : List Nat) (r : ZC) (to : ZE) (ta : ZA) : ZE := fun ρ h Q => to ρ h fun p h1 => zMethI C m r ta ρ p h1 Q
theorem le_meth {P : Program} {w : World} {K : PySem.W.Frag} {r : ZC} {σ : L2.St} {H : Hp} {Q : VK} (hf : m = tS g) (x : LE P w K (zMeth C g r to ta) σ H Q) : tMeth C m (spOf P w K r) [] E0 (LE P w K to) (LA P w K ta) σ H Q := by
  obtain ⟨ρ, h, Qp, rs, rh, t, k⟩ := x
  refine ⟨ρ, h, _, rs, rh, t, fun p h1 t1 v H1 s1 r1 rh1 => ?_⟩
  cases p <;> first | (exact False.elim t1) | skip
  cases r1
  rename_i a
  simp only [zMethI] at t1
  cases ea : h1 a with
  | none => rw [ea] at t1; exact False.elim t1
  | some ob =>
    rw [ea] at t1
    cases ob with
    | lst xs => exact False.elim t1
    | dic t l kvs => exact False.elim t1
    | ins C' fs =>
      obtain ⟨rfl, e1, z⟩ := t1
      obtain ⟨dx, xs, f1, l1, q1⟩ := rh1 a _ ea
      refine ⟨a, dx, xs, rfl, f1, ?_, ρ, h1, _, rs.stp rh s1, rh1, z, fun ps h2 t2 vs H2 s2 r2 rh2 => ?_⟩
      · rcases flook_ent (f := g) q1 with ⟨_, z2⟩ | ⟨p', v', z1, _, _⟩
        · rw [hf]; exact z2
        · rw [e1] at z1; cases z1
      · show spOf P w K r (.ref a :: (vs ++ [])) H2 Q E0
        rw [List.append_nil]
        exact ⟨.ref a :: ps, h2, Qp, .cons (.ref a) r2, rh2, t2, (k.later s1).later s2⟩
theorem qe_meth {pl : Sem Bool} {k : Nat} {r : ZC} {apos : Pos} (c : Cls X.K C) (F : QMe X.prog X.w X.K X.mg X.base k C m r) (hr : Room k X.A) (hf : m = tS g) (ho : QE X o to) (ha : QA X (e :: es) ta)
    (hst : starEach (e :: es) X.env = (false, eval e X.env) :: starEach es X.env) (hpl : (backTo pos (starEach es X.env)).any (·.1) = false)
    (ht : eval (.Call (.Attribute o m apos) (e :: es) [] pos) X.env = (do
      let ov ← eval o X.env
      standAt apos.atName
      let (f, first) ← holding [ov] (getMethod ov m pl)
      callWith pos f first (backTo pos (starEach (e :: es) X.env)) (backToKw pos (keywordEach [] X.env)))) : QE X (.Call (.Attribute o m apos) (e :: es) [] pos) (zMeth C g r to ta) := by
  obtain ⟨f, fd, ps, F, M, hb⟩ := F.ex
  exact peI (pe_meth (E := E0) ho c M F hr hb .nil pass0 ha hst hpl ht) fun σ H Q x => le_meth hf x
theorem qe_meth0 {pl : Sem Bool} {k : Nat} {r : ZC} {apos : Pos} (c : Cls X.K C) (F : QMe X.prog X.w X.K X.mg X.base k C m r) (hr : Room k X.A) (hf : m = tS g) (ho : QE X o to)
    (ht : eval (.Call (.Attribute o m apos) [] [] pos) X.env = (do
      let ov ← eval o X.env
      standAt apos.atName
      let (f, first) ← holding [ov] (getMethod ov m pl)
      callWith pos f first (backTo pos (starEach [] X.env)) (backToKw pos (keywordEach [] X.env)))) : QE X (.Call (.Attribute o m apos) [] [] pos) (zMeth C g r to zaNil) := by
  obtain ⟨f, fd, ps, F, M, hb⟩ := F.ex
  refine peI (pe_meth0 (E := E0) ho c M F hr hb .nil pass0 ht) fun σ H Q x => ?_
  obtain ⟨ρ, h, Qp, rs, rh, t, k⟩ := le_meth hf x
  exact ⟨ρ, h, Qp, rs, rh, t, fun p h1 t1 v H1 s1 r1 rh1 => by
    obtain ⟨a, dx, fs, e1, e2, e3, ρ2, h2, Q2, rs2, rh2, z, k2⟩ := k p h1 t1 v H1 s1 r1 rh1
    exact ⟨a, dx, fs, e1, e2, e3, k2 _ _ z _ _ (Stp.refl _ _) .nil rh2⟩⟩
/-- C(..) -/
def zMake (C : Addr) (r : ZC) (ta : ZA) : ZE := fun ρ h Q => ta ρ h fun ps h1 => ∀ x, h1 x = none → r (.ref x :: ps) (up h1 x (.ins C [])) fun v h2 => v = .non ∧ Q (.ref x) h2
theorem le_make {P : Program} {w : World} {K : PySem.W.Frag} {r : ZC} {σ : L2.St} {H : Hp} {Q : VK} (x : LE P w K (zMake C r ta) σ H Q) : tMake C (spOf P w K r) [] E0 (LA P w K ta) σ H Q := by
  obtain ⟨ρ, h, Qp, rs, rh, t, k⟩ := x
  refine ⟨ρ, h, _, rs, rh, t, fun ps h1 t1 vs H1 s1 r1 rh1 y dx ny ndx hne => ?_⟩
  have sa : Stp h1 H1 h1 (upd H1 dx (.own y)) := stp_new0 ndx
  have rha := rh1.new0 (o := .own y) ndx
  have ny' : upd H1 dx (.own y) y = none := by rw [upd_ne hne.symm]; exact ny
  have sb : Stp h1 (upd H1 dx (.own y)) (up h1 y (.ins C [])) (upd (upd H1 dx (.own y)) y (.ins C dx [])) := stp_new rha ny'
  have rhb := rha.put sb (show RO P w K _ y _ from ⟨dx, [], upd_same, Nat.zero_le _, .nil⟩)
  show spOf P w K r (.ref y :: (vs ++ [])) _ _ E0
  rw [List.append_nil]
  refine ⟨.ref y :: ps, _, _, .cons (.ref y) ((r1.stp rh1 sa).stp rha sb), rhb, t1 y (rh1.free ny), fun p h' ⟨e, q⟩ v H' s' rv rh' => ?_⟩
  subst e
  cases rv
  exact ⟨rfl, k _ _ q _ _ (((s1.trans sa).trans sb).trans s') (.ref y) rh'⟩
theorem qe_make {k : Nat} {r : ZC} (F : QMk X.prog X.w X.K X.mg X.base k x C r) (hr : Room (k + 1) X.A) (hg : Gl X x) (ha : QA X (e :: es) ta) (hdb : (x == ("__debug__" : Str)) = false)
    (he : starEach (e :: es) X.env = (false, eval e X.env) :: starEach es X.env) (hpl : (backTo pos (starEach es X.env)).any (·.1) = false) : QE X (.Call (.Name x p) (e :: es) [] pos) (zMake C r ta) := by
  obtain ⟨f, fd, ps, F, M, hm, hb⟩ := F.ex
  exact peI (pe_make (E := E0) M F hr hg hm hb .nil pass0 ha hdb he hpl) fun σ H Q x => le_make x
end
section
variable {C : Addr} {f : List Nat} {a : Addr} {p : PV} {te to tv : ZE} {ta : ZA} {r : ZC} {ρ : Ev} {h : PH} {Q : QV} {D : ZEnds} {fs : List (List Nat × PV)} {R : PH → Prop}
theorem zFld_x : zFld C f te ρ h Q = te ρ h fun p h1 => zFldI C f p h1 Q := rfl
theorem zFldI_r : zFldI C f (.ref a) h Q = zFldO C f (h a) h Q := rfl
theorem zFldO_i {C' : Addr} : zFldO C f (some (.ins C' fs)) h Q = (C' = C ∧ ∃ v, flook fs f = some v ∧ Q v h) := rfl
theorem zSetF_x : zSetF C f to tv D ρ h = tv ρ h fun y h1 => to ρ h1 fun p h2 => zSetFI C f y p h2 fun h3 => D.nx ρ h3 := rfl
theorem zSetFI_r {y : PV} : zSetFI C f y (.ref a) h R = zSetFO C f y a (h a) h R := rfl
theorem zSetFO_i {C' : Addr} {y : PV} : zSetFO C f y a (some (.ins C' fs)) h R = (C' = C ∧ fs.length < 900 ∧ R (up h a (.ins C (fput f y fs)))) := rfl
theorem zMeth_x : zMeth C f r to ta ρ h Q = to ρ h fun p h1 => zMethI C f r ta ρ p h1 Q := rfl
theorem zMethI_r : zMethI C f r ta ρ (.ref a) h Q = zMethO C f r (.ref a) ta ρ (h a) h Q := rfl
theorem zMethO_i {C' : Addr} : zMethO C f r p ta ρ (some (.ins C' fs)) h Q = (C' = C ∧ flook fs f = none ∧ ta ρ h fun ps h2 => r (p :: ps) h2 Q) := rfl
theorem zMake_x : zMake C r ta ρ h Q = ta ρ h fun ps h1 => ∀ x, h1 x = none → r (.ref x :: ps) (up h1 x (.ins C [])) fun v h2 => v = .non ∧ Q (.ref x) h2 := rfl
theorem zSeq_setF {u : ZS} : zSeq (zSetF C f to tv) u D ρ h = tv ρ h fun y h1 => to ρ h1 fun p h2 => zSetFI C f y p h2 fun h3 => u D ρ h3 := rfl
end
end G

set_option maxHeartbeats 4000001
namespace G
open PySem PySem.Spec
open PyProof.Rows L2

/-! ### turns by the kit's walks -/
/-- what a walk that makes a new tuple at each turn has to tell -/
def TurnsT (P : Program) (w : World) (K : PySem.W.Frag) (J : It) (wr : List Addr) (it : Addr) (tn : Nat → Heap → Prop) : Prop :=
  ∀ (X : Cx), X.prog = P → X.w = w → X.K = K → X.calm = true → ∀ (i : Nat) (pins : List (Addr × Obj)) (s : Shared) (σ : L2.St) (H : Hp), Inv X pins σ H s → tn i s.heap → (J.go i H ∨ J.stop i H) →
    ∃ fp n Pt St Mid, WalksT P w X.A it fp wr n Pt St Mid ∧ St i s.heap ∧ (∀ h', St (i + 1) h' → tn (i + 1) h') ∧ (J.stop i H → i = n) ∧
      (J.go i H → i < n ∧ ∀ vals : Array Value, Pt i vals → ∃ ps, Vals ps vals.toList ∧ ps.length ≤ sizeLine ∧ ∀ T, H T = none → J.yld i H (.ref T) (upd H T (.tup ps)))
theorem turn_T {P : Program} {w : World} {K : PySem.W.Frag} {es : List Expr} {kk : Nat} {tp : Pos} {J : It} {wr : List Addr} {it : Addr} {tn : Nat → Heap → Prop} (me : it ∈ wr)
    (ob : ∀ i h, tn i h → ∀ b ∈ wr, ∃ o, h.get? b = some o ∧ ∀ v, o.data ≠ .cell v) (kp : ∀ i h h', tn i h → (∀ b ∈ wr, ∀ o, h.get? b = some o → h'.get? b = some o) → tn i h')
    (se : ∀ (A : Around) (i : Nat) (s : Shared) (Q : Value → Shared → Prop) (E : Value → Shared → Prop), tn i s.heap → Q (.ref it) s → wpAny (model P w) A (pyIter (.ref it)) Q E s)
    (W : TurnsT P w K J wr it tn) : Turn P w K (.Tuple es kk tp) J wr it tn := by
  refine ⟨me, ob, kp, fun X h1 h2 h3 hc i pins s σ H E I hf st hg => ?_, fun X h1 h2 h3 hc i pins s σ H E I hf st hg => ?_, se⟩
  · obtain ⟨fp, n, Pt, St, Mid, w1, s1, back, _, go⟩ := W X h1 h2 h3 hc i pins s σ H I st (.inl hg)
    obtain ⟨hi, val⟩ := go hg
    refine w1.item i s _ _ hi s1 fun T vals h' tk pv hT tup mid keep => ⟨_, rfl, w1.go es kk tp i T _ _ _ mid fun h2' st2 keep2 => ?_⟩
    obtain ⟨ps, vv, hl, y⟩ := val vals pv
    have nT : H T = none := I.hok.fresh hT
    have ap := w1.apart i T _ mid
    have tup2 : h2'.IsTuple T vals := tup.at fun o e => keep2 T o ap e
    have new : ObjOk X.prog X.w (upd H T (.tup ps)) h2' T (.tup ps) := ⟨hl, vals.toList, vv, tup2⟩
    exact ⟨.ref T, upd H T (.tup ps), I.turnedNew (ch := wr) (fun b o hb e => keep2 b o hb (keep b o hb e)) hf hT new, rfl, y T nT, back _ st2, fun b hb => by
      have ne : b ≠ T := fun z => ap (z ▸ hb)
      exact (upd_ne ne).trans (hf b hb).1⟩
  · obtain ⟨fp, n, Pt, St, Mid, w1, s1, _, stop, _⟩ := W X h1 h2 h3 hc i pins s σ H I st (.inr hg)
    have e := stop hg
    subst e
    exact w1.done s _ _ s1 fun h' tk keep => ⟨rfl, I.turnedL keep hf⟩
/-- .. and one that hands out what is there -/
def TurnsP (P : Program) (w : World) (K : PySem.W.Frag) (J : It) (wr : List Addr) (it : Addr) (tn : Nat → Heap → Prop) : Prop :=
  ∀ (X : Cx), X.prog = P → X.w = w → X.K = K → X.calm = true → ∀ (i : Nat) (pins : List (Addr × Obj)) (s : Shared) (σ : L2.St) (H : Hp), Inv X pins σ H s → tn i s.heap → (J.go i H ∨ J.stop i H) →
    ∃ fp n Pv St, Walks P w X.A it fp wr n Pv St ∧ St i s.heap ∧ (∀ h', St (i + 1) h' → tn (i + 1) h') ∧ (J.stop i H → i = n) ∧ (J.go i H → i < n ∧ ∀ u, Pv i u → ∃ x, RelV x u ∧ J.yld i H x H)
theorem turn_P {P : Program} {w : World} {K : PySem.W.Frag} {tg : Expr} {J : It} {wr : List Addr} {it : Addr} {tn : Nat → Heap → Prop} (me : it ∈ wr)
    (ob : ∀ i h, tn i h → ∀ b ∈ wr, ∃ o, h.get? b = some o ∧ ∀ v, o.data ≠ .cell v) (kp : ∀ i h h', tn i h → (∀ b ∈ wr, ∀ o, h.get? b = some o → h'.get? b = some o) → tn i h')
    (cls : ∀ i h, tn i h → ∃ o n vs, h.get? it = some o ∧ o.cls = .type n ∧ o.data = .fields vs ∧ ["enumerate", "zip", "dict_itemiterator", "dict_reverseitemiterator", "odict_iterator", "itertools.zip_longest", "itertools.pairwise"].contains n = false)
    (se : ∀ (A : Around) (i : Nat) (s : Shared) (Q : Value → Shared → Prop) (E : Value → Shared → Prop), tn i s.heap → Q (.ref it) s → wpAny (model P w) A (pyIter (.ref it)) Q E s)
    (W : TurnsP P w K J wr it tn) : Turn P w K tg J wr it tn := by
  refine ⟨me, ob, kp, fun X h1 h2 h3 hc i pins s σ H E I hf st hg => ?_, fun X h1 h2 h3 hc i pins s σ H E I hf st hg => ?_, se⟩
  · obtain ⟨fp, n, Pv, St, w1, s1, back, _, go⟩ := W X h1 h2 h3 hc i pins s σ H I st (.inl hg)
    obtain ⟨hi, val⟩ := go hg
    refine w1.item i s _ _ hi s1 fun u h' tk pv st2 keep => ?_
    obtain ⟨x, rx, y⟩ := val u pv
    obtain ⟨o, nm, vs, o1, o2, o3, o4⟩ := cls _ _ (back _ st2)
    exact ⟨u, rfl, go_of (s := { s with heap := h', toks := tk }) o1 o2 o3 o4 ⟨x, H, I.turnedL keep hf, rx, y, back _ st2, fun b hb => (hf b hb).1⟩⟩
  · obtain ⟨fp, n, Pv, St, w1, s1, _, stop, _⟩ := W X h1 h2 h3 hc i pins s σ H I st (.inr hg)
    have e := stop hg
    subst e
    exact w1.done s _ _ s1 fun h' tk keep => ⟨rfl, I.turnedL keep hf⟩

/-! ### a locked dict whose keys are tuples: keys, values, items -/
abbrev Ents := List (NestedKey × Addr × Value)
/-- the locked dict stands at d -/
def FrE (P : Program) (w : World) (d : Addr) (o : Obj) (xs : Ents) (H : Hp) : Prop := H d = some (.frz o (.ext (dphi P w d xs)))
/-- what the values of the entries are -/
def ValsOf (xs : Ents) (vs : List V) : Prop := Paired (fun (x : NestedKey × Addr × Value) (v : V) => RelV v x.2.2) xs vs
section
variable {X : Cx} {pins : List (Addr × Obj)} {σ : L2.St} {H : Hp} {s : Shared} {d : Addr} {o : Obj} {xs : Ents}
theorem frzE (I : Inv X pins σ H s) (h : FrE X.prog X.w d o xs H) :
    (d == sysModules) = false ∧ s.heap.get? d = some o ∧ o.ExactDict ∧ ∃ (es : Array DictEntry) (ep : Nat), o.data = .dict es ep ∧ es.size = xs.length ∧
      ∀ (i : Nat) (hi : i < es.size), ∃ y, xs[i]? = some y ∧ es[i].key = .ref y.2.1 ∧ es[i].val = y.2.2 := by
  obtain ⟨hd, ⟨z1, z2, o', es, ep, e1, e2, e3, e4, _⟩, _, _⟩ := I.hok d _ h
  obtain rfl : o = o' := Option.some.inj (hd.symm.trans e1)
  have len : es.size = xs.length := by simpa using congrArg List.length e4
  refine ⟨z1, hd, e2, es, ep, e3, len, fun i hi => ⟨xs[i]'(by omega), List.getElem?_eq_getElem (by omega), ?_⟩⟩
  have q : es.toList[i]? = (xs.map (entryOfKey (nestedKind X.prog X.w)))[i]? := by rw [e4]
  rw [List.getElem?_map, List.getElem?_eq_getElem (by omega : i < xs.length)] at q
  have q2 : es[i] = entryOfKey (nestedKind X.prog X.w) (xs[i]'(by omega)) := by
    simp only [Array.getElem?_toList, Array.getElem?_eq_getElem hi, Option.map_some, Option.some.injEq] at q
    exact q
  rw [q2]
  exact ⟨rfl, rfl⟩
end
def ItkE (P : Program) (w : World) (d : Addr) (o : Obj) (xs : Ents) : It :=
  ⟨fun i H => FrE P w d o xs H ∧ i < xs.length, fun i H x H' => H' = H ∧ ∃ y, xs[i]? = some y ∧ x = .ref y.2.1, fun i H => FrE P w d o xs H ∧ i = xs.length⟩
def ItdE (P : Program) (w : World) (d : Addr) (o : Obj) (xs : Ents) (vs : List V) : It :=
  ⟨fun i H => FrE P w d o xs H ∧ i < xs.length, fun i H x H' => H' = H ∧ vs[i]? = some x, fun i H => FrE P w d o xs H ∧ i = xs.length⟩
def ItiE (P : Program) (w : World) (d : Addr) (o : Obj) (xs : Ents) (vs : List V) : It :=
  ⟨fun i H => FrE P w d o xs H ∧ i < xs.length, fun i H x H' => ∃ T y v, xs[i]? = some y ∧ vs[i]? = some v ∧ x = .ref T ∧ H T = none ∧ H' = upd H T (.tup [.ref y.2.1, v]), fun i H => FrE P w d o xs H ∧ i = xs.length⟩
section
variable {P : Program} {w : World} {K : PySem.W.Frag} {tg : Expr} {d it : Addr} {o : Obj} {es : Array DictEntry} {ep : Nat} {xs : Ents} {vs : List V}
theorem dneE {X : Cx} {pins : List (Addr × Obj)} {σ : L2.St} {H : Hp} {s : Shared} (hd : s.heap.get? d = some o) (hx : o.ExactDict) {oi : Obj} (hi : s.heap.get? it = some oi) (hn : oi.cls ≠ .type "dict") : d ≠ it := fun z => by
  subst z
  rw [hd] at hi
  cases hi
  exact hn hx.1
theorem turn_keysE (hod : o.data = .dict es ep) : Turn P w K tg (ItkE P w d o xs) [it] it (fun i h => h.IsKeyIter it d i xs.length ep) := by
  refine turn_P List.mem_cons_self (fun i h st b hb => ?_) (fun i h h' st k => st.at (k it List.mem_cons_self)) (fun i h st => ?_) (fun A i s Q E st h => wpAny_pyIter_keyiter st h) fun X h1 h2 h3 hc i pins s σ H I st g => ?_
  · obtain rfl : b = it := List.mem_singleton.mp hb
    obtain ⟨a, e, c, f⟩ := st
    exact ⟨a, e, fun v z => nomatch f.symm.trans z⟩
  · obtain ⟨a, e, c, f⟩ := st
    exact ⟨a, _, _, e, c, f, by decide⟩
  · subst h1 h2
    have fr : FrE X.prog X.w d o xs H := g.elim And.left And.left
    obtain ⟨a, b, c, es', ep', e1, e2, e3⟩ := frzE I fr
    obtain ⟨rfl, rfl⟩ := dict_ep hod e1
    obtain ⟨oi, i1, i2, i3⟩ := id st
    refine ⟨_, _, _, _, Walks.keysH (xs := xs) (I.ok.hd hc) it d (dneE (X := X) (pins := pins) (σ := σ) (H := H) (s := s) b c i1 (by rw [i2]; decide)) es' ep' e3, ⟨by rw [e2]; exact st, o, b, c, e1⟩, fun h' z => by have := z.1; rw [e2] at this; exact this, fun z => z.2.trans e2.symm, fun z => ⟨by rw [e2]; exact z.2, fun u ⟨y, y1, y2⟩ => ⟨.ref y.2.1, y2, rfl, y, y1, rfl⟩⟩⟩
theorem turn_valsE (hod : o.data = .dict es ep) (hv : ValsOf xs vs) : Turn P w K tg (ItdE P w d o xs vs) [it] it (fun i h => h.IsValIter it d i xs.length ep) := by
  refine turn_P List.mem_cons_self (fun i h st b hb => ?_) (fun i h h' st k => st.at (k it List.mem_cons_self)) (fun i h st => ?_) (fun A i s Q E st h => wpAny_pyIter_valiter st h) fun X h1 h2 h3 hc i pins s σ H I st g => ?_
  · obtain rfl : b = it := List.mem_singleton.mp hb
    obtain ⟨a, e, c, f⟩ := st
    exact ⟨a, e, fun v z => nomatch f.symm.trans z⟩
  · obtain ⟨a, e, c, f⟩ := st
    exact ⟨a, _, _, e, c, f, by decide⟩
  · subst h1 h2
    have fr : FrE X.prog X.w d o xs H := g.elim And.left And.left
    obtain ⟨a, b, c, es', ep', e1, e2, e3⟩ := frzE I fr
    obtain ⟨rfl, rfl⟩ := dict_ep hod e1
    obtain ⟨oi, i1, i2, i3⟩ := id st
    refine ⟨_, _, _, _, Walks.valuesH (xs := xs) (I.ok.hd hc) it d (dneE (X := X) (pins := pins) (σ := σ) (H := H) (s := s) b c i1 (by rw [i2]; decide)) es' ep' e3, ⟨by rw [e2]; exact st, o, b, c, e1⟩, fun h' z => by have := z.1; rw [e2] at this; exact this, fun z => z.2.trans e2.symm, fun z => ⟨by rw [e2]; exact z.2, fun u ⟨y, y1, y2⟩ => ?_⟩⟩
    obtain ⟨v, v1, v2⟩ := paired_get hv y1
    exact ⟨v, by rw [y2]; exact v2, rfl, v1⟩
theorem turn_itemsE {el : List Expr} {kk : Nat} {tp : Pos} (hod : o.data = .dict es ep) (hv : ValsOf xs vs) : Turn P w K (.Tuple el kk tp) (ItiE P w d o xs vs) [it] it (fun i h => ∃ ok ov, IsItemIter h it d i xs.length ep ok ov) := by
  refine turn_T List.mem_cons_self (fun i h st b hb => ?_) (fun i h h' ⟨a, b, st⟩ k => ⟨a, b, k it List.mem_cons_self _ st⟩) (fun A i s Q E ⟨a, b, st⟩ h => wpAny_pyIter_itemiter st h) fun X h1 h2 h3 hc i pins s σ H I st g => ?_
  · obtain rfl : b = it := List.mem_singleton.mp hb
    obtain ⟨u1, u2, e⟩ := st
    exact ⟨_, e, nofun⟩
  · subst h1 h2
    have fr : FrE X.prog X.w d o xs H := g.elim And.left And.left
    obtain ⟨a, b, c, es', ep', e1, e2, e3⟩ := frzE I fr
    obtain ⟨rfl, rfl⟩ := dict_ep hod e1
    obtain ⟨ok, ov, i1⟩ := id st
    refine ⟨_, _, _, _, _, WalksT.rawItems (I.ok.hd hc) it d (dneE (X := X) (pins := pins) (σ := σ) (H := H) (s := s) b c i1 (show Value.type "dict_itemiterator" ≠ Value.type "dict" by decide)) es' ep', ⟨by rw [e2]; exact st, o, b, c, e1⟩, fun h' z => by have := z.1; rw [e2] at this; exact this, fun z => z.2.trans e2.symm, fun z => ⟨by rw [e2]; exact z.2, fun vals ⟨hi, q⟩ => ?_⟩⟩
    obtain ⟨y, y1, y2, y3⟩ := e3 i hi
    obtain ⟨v, v1, v2⟩ := paired_get hv y1
    subst q
    exact ⟨[.ref y.2.1, v], .cons y2 (.cons (by rw [y3]; exact v2) .nil), by show 2 ≤ sizeLine; decide, fun T nT => ⟨T, y, v, y1, v1, rfl, nT, rfl⟩⟩
end
end G

set_option maxHeartbeats 4000001
namespace G
open PySem PySem.Spec
open PyProof.Rows L2

theorem pair_new {P : Program} {w : World} {K : PySem.W.Frag} {h : PH} {H : Hp} {T : Addr} {v1 v2 : V} {p1 p2 : PV} (rh : RH P w K H h) (n : H T = none) (r1 : RV K H v1 p1) (r2 : RV K H v2 p2) :
    Stp h H h (upd H T (.tup [v1, v2])) ∧ RV K (upd H T (.tup [v1, v2])) (.ref T) (.tup [p1, p2]) ∧ RH P w K (upd H T (.tup [v1, v2])) h :=
  have st := stp_new0 (h := h) (o := .tup [v1, v2]) n
  ⟨st, .tup (.inl (.inl upd_same)) (by show 2 ≤ sizeLine; decide) (.cons (r1.stp rh st) (.cons (r2.stp rh st) .nil)), rh.new0 n⟩

/-! ### what is walked, over trees -/
/-- of each entry of a locked dict: what f makes of it -/
def ZitF (f : PV × PV → PV) (a : Addr) (t : Bool) (lk : Obj × HO) (kvs : List (PV × PV)) : ZIt :=
  ⟨fun i h => h a = some (.dic t (some lk) kvs) ∧ i < kvs.length, fun i _ p => ∃ kv, kvs[i]? = some kv ∧ p = f kv, fun i h => h a = some (.dic t (some lk) kvs) ∧ i = kvs.length⟩
def pairP (kv : PV × PV) : PV := .tup [kv.1, kv.2]
/-- the keys, tuples too -/
abbrev ZitKE := ZitF Prod.fst
/-- the values -/
abbrev ZitD := ZitF Prod.snd
/-- the pairs -/
abbrev ZitP := ZitF pairP
section
variable {P : Program} {w : World} {K : PySem.W.Frag} {h0 : PH} {H0 : Hp} {a : Addr} {o : Obj} {kvs : List (PV × PV)} {xs : Ents} {vs : List V}
theorem kP_rv {H : Hp} : ∀ k : Key, RV K H (kV k) (kP k)
  | .inl i => .int i
  | .inr z => by have q := RV.str (K := K) (H := H) z.cps.toList; rw [tS_of] at q; exact q
/-- the entries' values, tracked -/
theorem entT_vals {H : Hp} : ∀ {kvs : List (PV × PV)} {xs : Ents}, Paired (EntT K H) kvs xs → ∃ vs, ValsOf xs vs ∧ RVs K H vs (kvs.map Prod.snd)
  | _, _, .nil => ⟨[], .nil, .nil⟩
  | _, _, .cons q t => by
    obtain ⟨vs, h1, h2⟩ := entT_vals t
    obtain ⟨_, _, _, v, v1, v2⟩ := q
    exact ⟨v :: vs, .cons v1 h1, .cons v2 h2⟩
theorem frz_of {i : Nat} {h : PH} {H : Hp} (rh : RH P w K H h) (e : h a = some (.dic true (some (o, .ext (dphi P w a xs))) kvs)) (r : Paired (EntT K H0) kvs xs) : FrE P w a o xs H := by
  obtain ⟨ds, ⟨f1, f2⟩, _⟩ := rh a _ e
  rw [← f1] at f2
  exact f2
theorem cor_keysE (r : Paired (EntT K H0) kvs xs) (rh0 : RH P w K H0 h0) : Cor P w K h0 H0 (ItkE P w a o xs) (ZitKE a true (o, .ext (dphi P w a xs)) kvs) := fun i h H st rh => by
  have hl := paired_len r
  refine ⟨fun ⟨e, e2⟩ => ⟨frz_of (i := i) rh e r, by omega⟩, fun ⟨e, e2⟩ => ⟨frz_of (i := i) rh e r, by omega⟩, fun ⟨e, e2⟩ x H' ⟨y0, y, y1, y2⟩ => ?_⟩
  subst y0 y2
  obtain ⟨b, g1, g2⟩ := paired_get r (List.getElem?_eq_getElem e2)
  obtain rfl : b = y := Option.some.inj (g1.symm.trans y1)
  exact ⟨_, ⟨_, List.getElem?_eq_getElem e2, rfl⟩, Stp.refl _ _, g2.2.2.1.stp rh0 st, rh⟩
theorem cor_valsE (r : Paired (EntT K H0) kvs xs) (rv : RVs K H0 vs (kvs.map Prod.snd)) (rh0 : RH P w K H0 h0) : Cor P w K h0 H0 (ItdE P w a o xs vs) (ZitD a true (o, .ext (dphi P w a xs)) kvs) := fun i h H st rh => by
  have hl := paired_len r
  refine ⟨fun ⟨e, e2⟩ => ⟨frz_of (i := i) rh e r, by omega⟩, fun ⟨e, e2⟩ => ⟨frz_of (i := i) rh e r, by omega⟩, fun ⟨e, e2⟩ x H' ⟨y0, y1⟩ => ?_⟩
  subst y0
  obtain ⟨p, p1, p2⟩ := rv.getV y1
  rw [List.getElem?_map, List.getElem?_eq_getElem e2] at p1
  cases p1
  exact ⟨_, ⟨_, List.getElem?_eq_getElem e2, rfl⟩, Stp.refl _ _, p2.stp rh0 st, rh⟩
theorem cor_itemsE (r : Paired (EntT K H0) kvs xs) (rv : RVs K H0 vs (kvs.map Prod.snd)) (rh0 : RH P w K H0 h0) : Cor P w K h0 H0 (ItiE P w a o xs vs) (ZitP a true (o, .ext (dphi P w a xs)) kvs) := fun i h H st rh => by
  have hl := paired_len r
  refine ⟨fun ⟨e, e2⟩ => ⟨frz_of (i := i) rh e r, by omega⟩, fun ⟨e, e2⟩ => ⟨frz_of (i := i) rh e r, by omega⟩, fun ⟨e, e2⟩ x H' ⟨T, y, v, y1, y2, y3, y4, y5⟩ => ?_⟩
  subst y3 y5
  obtain ⟨b, g1, g2⟩ := paired_get r (List.getElem?_eq_getElem e2)
  obtain rfl : b = y := Option.some.inj (g1.symm.trans y1)
  obtain ⟨p, p1, p2⟩ := rv.getV y2
  rw [List.getElem?_map, List.getElem?_eq_getElem e2] at p1
  cases p1
  obtain ⟨n1, n2, n3⟩ := pair_new rh y4 (g2.2.2.1.stp rh0 st) (p2.stp rh0 st)
  exact ⟨_, ⟨_, List.getElem?_eq_getElem e2, rfl⟩, n1, n2, n3⟩
theorem frz_of' {h : PH} {H : Hp} {ds : List (Key × V)} (rh : RH P w K H h) (e : h a = some (.dic false (some (o, .dK ds)) kvs)) : H a = some (.frz o (.dK ds)) := by
  obtain ⟨ds', ⟨f1, f2⟩, _⟩ := rh a _ e
  rw [← f1] at f2
  exact f2
theorem cor_vals {ds : List (Key × V)} (r : Paired (EntK K H0) kvs ds) (rh0 : RH P w K H0 h0) : Cor P w K h0 H0 (Itd a o ds) (ZitD a false (o, .dK ds) kvs) := fun i h H st rh => by
  have hl := paired_len r
  refine ⟨fun ⟨e, e2⟩ => ⟨frz_of' rh e, by omega⟩, fun ⟨e, e2⟩ => ⟨frz_of' rh e, by omega⟩, fun ⟨e, e2⟩ x H' ⟨y0, k, y1⟩ => ?_⟩
  subst y0
  obtain ⟨b, g1, g2⟩ := paired_get r (List.getElem?_eq_getElem e2)
  rw [y1] at g1
  cases g1
  exact ⟨_, ⟨_, List.getElem?_eq_getElem e2, rfl⟩, Stp.refl _ _, g2.2.stp rh0 st, rh⟩
theorem cor_items {ds : List (Key × V)} (r : Paired (EntK K H0) kvs ds) (rh0 : RH P w K H0 h0) : Cor P w K h0 H0 (Iti a o ds) (ZitP a false (o, .dK ds) kvs) := fun i h H st rh => by
  have hl := paired_len r
  refine ⟨fun ⟨e, e2⟩ => ⟨frz_of' rh e, by omega⟩, fun ⟨e, e2⟩ => ⟨frz_of' rh e, by omega⟩, fun ⟨e, e2⟩ x H' ⟨T, k, v, y1, y3, y4, y5⟩ => ?_⟩
  subst y3 y5
  obtain ⟨b, g1, g2⟩ := paired_get r (List.getElem?_eq_getElem e2)
  rw [y1] at g1
  cases g1
  obtain ⟨n1, n2, n3⟩ := pair_new rh y4 (kP_rv k) (g2.2.stp rh0 st)
  refine ⟨_, ⟨_, List.getElem?_eq_getElem e2, rfl⟩, n1, ?_, n3⟩
  unfold pairP
  rw [show (kvs[i]).1 = kP k from g2.1]
  exact n2
end
/-! ### for k in d (tuples), d.values(), d.items() -/
def iKeysE (P : Program) (w : World) (td : TE) : TI := fun σ H R => td σ H fun x H1 => ∃ d o xs, x = .ref d ∧ FrE P w d o xs H1 ∧ R (ItkE P w d o xs) H1
def iValsB (P : Program) (w : World) (td : TE) : TI := fun σ H R => td σ H fun x H1 => ∃ d o, x = .ref d ∧ ((∃ ds, H1 d = some (.frz o (.dK ds)) ∧ R (Itd d o ds) H1) ∨ ∃ xs vs, FrE P w d o xs H1 ∧ ValsOf xs vs ∧ R (ItdE P w d o xs vs) H1)
def iItemsB (P : Program) (w : World) (td : TE) : TI := fun σ H R => td σ H fun x H1 => ∃ d o, x = .ref d ∧ ((∃ ds, H1 d = some (.frz o (.dK ds)) ∧ R (Iti d o ds) H1) ∨ ∃ xs vs, FrE P w d o xs H1 ∧ ValsOf xs vs ∧ R (ItiE P w d o xs vs) H1)
section
variable {X : Cx} {td : TE} {tg e : Expr} {apos cpos : Pos}
theorem pi_keysE (he : PE X e td) : PI X tg e (iKeysE X.prog X.w td) := ⟨fun pins s σ H R I h =>
  thn (he.run pins s σ H _ I h) fun u s1 ⟨x, H1, I1, rx, d, o, xs, ex, fr, q⟩ => by
    subst ex
    have ru : u = .ref d := rx
    subst ru
    obtain ⟨a, b, c, es, ep, e1, e2, e3⟩ := frzE I1 fr
    exact wpAny_pyIter_dict_raw a ⟨o, b, c, e1⟩ (pi_one (tk := s1.toks) I1 _ (turn_keysE e1) (by rw [← e2]; exact ⟨_, Heap.get?_push_size _ rfl, rfl, rfl⟩) q)⟩
theorem pi_valsB (he : PE X e td) (hb : attributeBase e "values" X.env (eval e X.env) = eval e X.env) (hl : (apos.endLine == cpos.line) = true) : PI X tg (.Call (.Attribute e "values" apos) [] [] cpos) (iValsB X.prog X.w td) := ⟨fun pins s σ H R I h =>
  wpAny_Call_method (T := "dict") (id := "dict.values") hb rfl hl F.plainAttrs_dict F.slot_dict_values F.type_dict_values (thn (he.run pins s σ H _ I h) fun u s1 ⟨x, H1, I1, rx, d, o, ex, q⟩ => by
    subst ex
    have ru : u = .ref d := rx
    subst ru
    have raw : (d == sysModules) = false ∧ s1.heap.get? d = some o ∧ o.ExactDict ∧ ∃ (es : Array DictEntry) (ep : Nat), o.data = .dict es ep ∧ ∀ it, ∃ J tn, Turn X.prog X.w X.K tg J [it] it tn ∧ (∀ h : Heap, h.IsValIter it d 0 es.size ep → tn 0 h) ∧ R J H1 := by
      rcases q with ⟨ds, f, q⟩ | ⟨xs, vs, f, f2, q⟩
      · obtain ⟨a, b, c, es, ep, vs, e1, e2, kv, hm⟩ := I1.frzK f
        exact ⟨a, b, c, es, ep, e1, fun it => ⟨_, _, turn_vals it e1, fun h z => by rw [e2] at z; exact z, q⟩⟩
      · obtain ⟨a, b, c, es, ep, e1, e2, e3⟩ := frzE I1 f
        exact ⟨a, b, c, es, ep, e1, fun it => ⟨_, _, turn_valsE e1 f2, fun h z => by rw [e2] at z; exact z, q⟩⟩
    obtain ⟨a, b, c, es, ep, e1, tt⟩ := raw
    have dr : s1.heap.DictRaw d es ep := ⟨o, b, c, e1⟩
    have I2 : Inv X pins σ H1 { s1 with heap := s1.heap.push { cls := .type "dict_values", data := .fields #[.ref d] } } := I1.kept (t' := s1.toks) fun _ _ q => Heap.get?_push_of_some _ q
    have fin : wpAny (model X.prog X.w) X.A (pyIter (.ref s1.heap.objs.size)) (PIE X pins σ tg R) (X.xe) { s1 with heap := s1.heap.push { cls := .type "dict_values", data := .fields #[.ref d] } } := by
      obtain ⟨J, tn, t1, t2, t3⟩ := tt (s1.heap.push { cls := .type "dict_values", data := .fields #[.ref d] }).objs.size
      exact wpAny_pyIter_values_raw (d := d) ⟨_, Heap.get?_push_size _ rfl, rfl, rfl⟩ (dr.at fun _ z => Heap.get?_push_of_some _ z) (pi_one (tk := s1.toks) I2 _ t1 (t2 _ ⟨_, Heap.get?_push_size _ rfl, rfl, rfl⟩) t3)
    refine ⟨dr.typeIs, fun b' z => ⟨o, by cases z; exact b, c.2.1⟩, ?_⟩
    show wpAny (model X.prog X.w) X.A (callWith cpos (.builtin "dict.values") [.ref d] [] []) _ X.xe s1
    exact method_meetsIn F.slot_dict_values F.entry_dict_values rfl (PySem.evalArgs_none ⟨rfl, dr.typeIs, F.args_dict_values_1 _, _, meets_dict_values_raw d a, ⟨es, ep, dr⟩, fin⟩))⟩
theorem pi_itemsB {el : List Expr} {kk : Nat} {tp : Pos} (he : PE X e td) (hb : attributeBase e "items" X.env (eval e X.env) = eval e X.env) (hl : (apos.endLine == cpos.line) = true) : PI X (.Tuple el kk tp) (.Call (.Attribute e "items" apos) [] [] cpos) (iItemsB X.prog X.w td) := ⟨fun pins s σ H R I h =>
  wpAny_Call_method (T := "dict") (id := "dict.items") hb rfl hl F.plainAttrs_dict F.slot_dict_items F.type_dict_items (thn (he.run pins s σ H _ I h) fun u s1 ⟨x, H1, I1, rx, d, o, ex, q⟩ => by
    subst ex
    have ru : u = .ref d := rx
    subst ru
    have raw : (d == sysModules) = false ∧ s1.heap.get? d = some o ∧ o.ExactDict ∧ ∃ (es : Array DictEntry) (ep : Nat), o.data = .dict es ep ∧ ∀ it, ∃ J tn, Turn X.prog X.w X.K (.Tuple el kk tp) J [it] it tn ∧ (∀ h : Heap, IsItemIter h it d 0 es.size ep .none .none → tn 0 h) ∧ R J H1 := by
      rcases q with ⟨ds, f, q⟩ | ⟨xs, vs, f, f2, q⟩
      · obtain ⟨a, b, c, es, ep, vs, e1, e2, kv, hm⟩ := I1.frzK f
        exact ⟨a, b, c, es, ep, e1, fun it => ⟨_, _, turn_items it e1, fun h z => ⟨_, _, by rw [e2] at z; exact z⟩, q⟩⟩
      · obtain ⟨a, b, c, es, ep, e1, e2, e3⟩ := frzE I1 f
        exact ⟨a, b, c, es, ep, e1, fun it => ⟨_, _, turn_itemsE e1 f2, fun h z => ⟨_, _, by rw [e2] at z; exact z⟩, q⟩⟩
    obtain ⟨a, b, c, es, ep, e1, tt⟩ := raw
    have dr : s1.heap.DictRaw d es ep := ⟨o, b, c, e1⟩
    have I2 : Inv X pins σ H1 { s1 with heap := s1.heap.push { cls := .type "dict_items", data := .fields #[.ref d] } } := I1.kept (t' := s1.toks) fun _ _ q => Heap.get?_push_of_some _ q
    have fin : wpAny (model X.prog X.w) X.A (pyIter (.ref s1.heap.objs.size)) (PIE X pins σ (.Tuple el kk tp) R) X.xe { s1 with heap := s1.heap.push { cls := .type "dict_items", data := .fields #[.ref d] } } := by
      obtain ⟨J, tn, t1, t2, t3⟩ := tt (s1.heap.push { cls := .type "dict_items", data := .fields #[.ref d] }).objs.size
      exact wpAny_pyIter_items_raw (d := d) ⟨_, Heap.get?_push_size _ rfl, rfl, rfl⟩ (dr.at fun _ z => Heap.get?_push_of_some _ z) (pi_one (tk := s1.toks) I2 _ t1 (t2 _ (Heap.get?_push_size _ rfl)) t3)
    refine ⟨dr.typeIs, fun b' z => ⟨o, by cases z; exact b, c.2.1⟩, ?_⟩
    show wpAny (model X.prog X.w) X.A (callWith cpos (.builtin "dict.items") [.ref d] [] []) _ X.xe s1
    exact method_meetsIn F.slot_dict_items F.entry_dict_items rfl (PySem.evalArgs_none ⟨rfl, dr.typeIs, F.args_dict_items_1 _, _, meets_dict_items_raw d a, ⟨es, ep, dr⟩, fin⟩))⟩
end
end G

set_option maxHeartbeats 4000001
namespace G
open PySem PySem.Spec
open PyProof.Rows L2

/-! ### enumerate(a tuple) -/
abbrev tupIt (t : Addr) : Obj := { cls := .type "tuple_iterator", data := .fields #[.ref t, .int 0 0] }
abbrev enumOb (i : Addr) : Obj := { cls := .type "enumerate", data := .fields #[.none, .bool false, .ref i, rawInt 0, .none, .none] }
theorem meets_enumT (t : Addr) (items : Array Value) (n : Nat) (dct : Option Addr) (sl : Array (Option Value)) :
    Meets (Builtin.«enumerate.__new__» ⟨[.type "enumerate", .ref t], []⟩) (fun _ R s => s.heap.get? t = some ⟨.type "tuple", dct, .seq items n, sl⟩ ∧
      R (.ok (.ret (.ref (s.heap.push (tupIt t)).objs.size))) { s with heap := (s.heap.push (tupIt t)).push (enumOb s.heap.objs.size) }) :=
  .of_wp fun pr w A R s h => by
    obtain ⟨hp, g, dn, tk, os⟩ := s
    obtain ⟨ht, h⟩ := h
    have sub := sub_enumerate
    have tt : Heap.IsTuple (Shared.heap ⟨hp, g, dn, tk, os⟩) t items := ⟨_, ht, rfl, n, rfl⟩
    wp_walk using AutoSeq1.wpAny_loadPart' ht
    refine wpAny_stack_any fun _ => wpAny_pure ?_
    split
    · rename_i c _ _ _ _ _
      cases (c == Value.type "enumerate") <;> (wp_walk using AutoSeq1.wpAny_loadPart' ht, wpAny_pyIter_tuple tt; exact ⟨_, rfl, h⟩)
    · wp_walk using AutoSeq1.wpAny_loadPart' ht, wpAny_pyIter_tuple tt
      exact ⟨_, rfl, h⟩
theorem call_enumT {prog : Program} {w : World} {A : Around} {E : Value → Shared → Prop} {s : Shared} {t : Addr} {items : Array Value} {Q : Value → Shared → Prop} (ht : s.heap.IsTuple t items)
    (h : ∀ h', IsEnum h' (s.heap.objs.size + 1) s.heap.objs.size 0 .none → h'.IsTupleIter s.heap.objs.size t 0 → (∀ b o, s.heap.get? b = some o → h'.get? b = some o) → Q (.ref (s.heap.objs.size + 1)) { s with heap := h' }) :
    wpAny (model prog w) A (call (.type "enumerate") [.ref t]) Q E s := by
  obtain ⟨⟨c, dct, dt, sl⟩, e1, e2, n, e3⟩ := ht
  obtain rfl : c = .type "tuple" := e2
  obtain rfl : dt = .seq items n := e3
  refine callType_new F.called_enumerate (by decide) (F.typeCall_enumerate_1 _) (F.newCall_enumerate_1 _) (fun obj => F.args_object_init_2 obj _) F.entry_enumerate_new (meets_enumT t items n dct sl) ⟨e1, ?_⟩
  have z : (s.heap.push (tupIt t)).objs.size = s.heap.objs.size + 1 := Heap.size_push ..
  have he : ((s.heap.push (tupIt t)).push (enumOb s.heap.objs.size)).get? (s.heap.objs.size + 1) = some (enumOb s.heap.objs.size) := by
    have q := Heap.get?_push_size (s.heap.push (tupIt t)) (o := enumOb s.heap.objs.size) rfl
    rw [z] at q
    exact q
  show _ ∧ _
  rw [z]
  exact ⟨⟨_, he, rfl⟩, h _ he ⟨_, Heap.get?_push_of_some _ (Heap.get?_push_size _ rfl), rfl, rfl⟩ fun b o x => Heap.get?_push_of_some _ (Heap.get?_push_of_some _ x)⟩
/-- the items of the tuple at a (they stay), numbered -/
def IteT (K : PySem.W.Frag) (a : Addr) (xs : List V) : It :=
  ⟨fun i H => SqT K H a xs ∧ i < xs.length, fun i H v H' => ∃ T x, xs[i]? = some x ∧ v = .ref T ∧ H T = none ∧ H' = upd H T (.tup [.int (i : Nat), x]), fun i H => SqT K H a xs ∧ i = xs.length⟩
theorem turn_enumT {P : Program} {w : World} {K : PySem.W.Frag} {el : List Expr} {kk : Nat} {tp : Pos} {a e it : Addr} {xs : List V} (hne : e ≠ it) (hna : a ≠ it) (hea : e ≠ a) :
    Turn P w K (.Tuple el kk tp) (IteT K a xs) [e, it] e (fun i h => (∃ old, IsEnum h e it (0 + (i : Int)) old) ∧ h.IsTupleIter it a i) := by
  refine turn_T List.mem_cons_self (fun i h ⟨⟨old, h1⟩, o, h2, h3, h4⟩ b hb => ?_) (fun i h h' ⟨⟨old, h1⟩, h2⟩ k => ⟨⟨old, k e (by simp) _ h1⟩, h2.at (k it (by simp))⟩) (fun A i s Q E ⟨⟨old, h1⟩, _⟩ h => wpAny_pyIter_enum h1 h) fun X p1 p2 p3 hc i pins s σ H I st g => ?_
  · rcases List.mem_cons.mp hb with z | hb
    · subst z; exact ⟨_, h1, nofun⟩
    · obtain rfl : b = it := List.mem_singleton.mp hb
      exact ⟨o, h2, fun v z => nomatch h4.symm.trans z⟩
  · subst p1 p2 p3
    have sq : SqT X.K H a xs := g.elim And.left And.left
    obtain ⟨its, rv, p, _⟩ := I.tuple sq
    have len : its.toArray.size = xs.length := by rw [List.size_toArray]; exact rv.length.symm
    refine ⟨_, _, _, _, _, WalksT.enumFrom 0 (Draws.tuple (A := X.A.in1) (I.ok.hd hc) it a hna its.toArray) e hne ?_ List.mem_cons_self, ⟨st.1, st.2, p⟩, fun h' z => ⟨z.1, z.2.1⟩, fun z => z.2.trans len.symm, fun z => ⟨by rw [len]; exact z.2, fun vals ⟨t, x, y1, y2⟩ => ?_⟩⟩
    · intro z
      rcases List.mem_cons.mp z with q | z
      · exact hne q
      · exact hea (List.mem_singleton.mp z)
    · have lt : i < xs.length := z.2
      have e1 : xs[i]? = some xs[i] := List.getElem?_eq_getElem lt
      obtain ⟨u, u1, u2⟩ := rv.get e1
      have q : its.toArray[i]? = some x := y1
      rw [List.getElem?_toArray, u1] at q
      cases q
      subst y2
      exact ⟨[.int (i : Nat), xs[i]], .cons ⟨t, by simp⟩ (.cons u2 .nil), by show 2 ≤ sizeLine; decide, fun T nT => ⟨T, _, e1, rfl, nT, rfl⟩⟩
end G

set_option maxHeartbeats 4000001
namespace G
open PySem PySem.Spec
open PyProof.Rows L2

/-! ### sources: keys that are tuples, values, items, zip, enumerate -/
def zsKeyTO (a : Addr) : Option PO → PH → (ZIt → PH → Prop) → Prop
  | some (.dic true (some lk) kvs), h, R => R (ZitKE a true lk kvs) h
  | _, _, _ => False
def zsKeyTI (p : PV) (h : PH) (R : ZIt → PH → Prop) : Prop := match p with
  | .ref a => zsKeyTO a (h a) h R
  | _ => False
def zsKeyT (te : ZE) : ZSrc := fun ρ h R => te ρ h fun p h1 => zsKeyTI p h1 R
def zsFO (f : PV × PV → PV) (a : Addr) : Option PO → PH → (ZIt → PH → Prop) → Prop
  | some (.dic t (some lk) kvs), h, R => R (ZitF f a t lk kvs) h
  | _, _, _ => False
def zsFI (f : PV × PV → PV) (p : PV) (h : PH) (R : ZIt → PH → Prop) : Prop := match p with
  | .ref a => zsFO f a (h a) h R
  | _ => False
def zsVals (te : ZE) : ZSrc := fun ρ h R => te ρ h fun p h1 => zsFI Prod.snd p h1 R
def zsItems (te : ZE) : ZSrc := fun ρ h R => te ρ h fun p h1 => zsFI pairP p h1 R
section
variable {X : Cx} {tg e : Expr} {te : ZE} {apos cpos : Pos}
theorem qi_keyT (he : QE X e te) : QI X tg e (zsKeyT te) :=
  piI (pi_keysE he) fun σ H R ⟨ρ, h, Rz, rs, rh, t, k⟩ => ⟨ρ, h, _, rs, rh, t, fun p h1 t1 v H1 s1 r1 rh1 => by
    cases p <;> first | (exact False.elim t1) | skip
    cases r1
    rename_i a
    simp only [zsKeyTI] at t1
    cases ea : h1 a with
    | none => rw [ea] at t1; exact False.elim t1
    | some ob =>
      rw [ea] at t1
      cases ob with
      | lst xs => exact False.elim t1
      | ins C fs => exact False.elim t1
      | dic t lk kvs =>
        cases t <;> cases lk <;> first | (exact False.elim t1) | skip
        rename_i lk
        obtain ⟨o, u⟩ := lk
        obtain ⟨xs, ⟨f1, f2⟩, l1, q1⟩ := rh1 a _ ea
        subst f1
        exact ⟨a, o, xs, rfl, f2, k _ _ t1 _ _ s1 rh1 (cor_keysE q1 rh1)⟩⟩
theorem qi_vals (he : QE X e te) (hb : attributeBase e "values" X.env (eval e X.env) = eval e X.env) (hl : (apos.endLine == cpos.line) = true) : QI X tg (.Call (.Attribute e "values" apos) [] [] cpos) (zsVals te) :=
  piI (pi_valsB he hb hl) fun σ H R ⟨ρ, h, Rz, rs, rh, t, k⟩ => ⟨ρ, h, _, rs, rh, t, fun p h1 t1 v H1 s1 r1 rh1 => by
    cases p <;> first | (exact False.elim t1) | skip
    cases r1
    rename_i a
    simp only [zsFI] at t1
    cases ea : h1 a with
    | none => rw [ea] at t1; exact False.elim t1
    | some ob =>
      rw [ea] at t1
      cases ob with
      | lst xs => exact False.elim t1
      | ins C fs => exact False.elim t1
      | dic t lk kvs =>
        cases lk with
        | none => exact False.elim t1
        | some lk =>
          obtain ⟨o, u⟩ := lk
          cases t with
          | false =>
            obtain ⟨xs, ⟨f1, f2⟩, l1, q1⟩ := rh1 a _ ea
            subst f1
            exact ⟨a, o, rfl, .inl ⟨xs, f2, k _ _ t1 _ _ s1 rh1 (cor_vals q1 rh1)⟩⟩
          | true =>
            obtain ⟨xs, ⟨f1, f2⟩, l1, q1⟩ := rh1 a _ ea
            subst f1
            obtain ⟨vs, v1, v2⟩ := entT_vals q1
            exact ⟨a, o, rfl, .inr ⟨xs, vs, f2, v1, k _ _ t1 _ _ s1 rh1 (cor_valsE q1 v2 rh1)⟩⟩⟩
theorem qi_items {el : List Expr} {kk : Nat} {tp : Pos} (he : QE X e te) (hb : attributeBase e "items" X.env (eval e X.env) = eval e X.env) (hl : (apos.endLine == cpos.line) = true) : QI X (.Tuple el kk tp) (.Call (.Attribute e "items" apos) [] [] cpos) (zsItems te) :=
  piI (pi_itemsB he hb hl) fun σ H R ⟨ρ, h, Rz, rs, rh, t, k⟩ => ⟨ρ, h, _, rs, rh, t, fun p h1 t1 v H1 s1 r1 rh1 => by
    cases p <;> first | (exact False.elim t1) | skip
    cases r1
    rename_i a
    simp only [zsFI] at t1
    cases ea : h1 a with
    | none => rw [ea] at t1; exact False.elim t1
    | some ob =>
      rw [ea] at t1
      cases ob with
      | lst xs => exact False.elim t1
      | ins C fs => exact False.elim t1
      | dic t lk kvs =>
        cases lk with
        | none => exact False.elim t1
        | some lk =>
          obtain ⟨o, u⟩ := lk
          cases t with
          | false =>
            obtain ⟨xs, ⟨f1, f2⟩, l1, q1⟩ := rh1 a _ ea
            subst f1
            exact ⟨a, o, rfl, .inl ⟨xs, f2, k _ _ t1 _ _ s1 rh1 (cor_items q1 rh1)⟩⟩
          | true =>
            obtain ⟨xs, ⟨f1, f2⟩, l1, q1⟩ := rh1 a _ ea
            subst f1
            obtain ⟨vs, v1, v2⟩ := entT_vals q1
            exact ⟨a, o, rfl, .inr ⟨xs, vs, f2, v1, k _ _ t1 _ _ s1 rh1 (cor_itemsE q1 v2 rh1)⟩⟩⟩
end
/-! ### zip -/
def zipP (ps qs : List PV) : List PV := List.zipWith (fun x y => PV.tup [x, y]) ps qs
/-- two lists as they stand at each turn -/
def ZitZ (a b : Addr) : ZIt := ⟨fun i h => ∃ xs ys x y, h a = some (.lst xs) ∧ h b = some (.lst ys) ∧ xs[i]? = some x ∧ ys[i]? = some y, fun i h p => ∃ x y, p = .tup [x, y] ∧ (∀ xs, h a = some (.lst xs) → xs[i]? = some x) ∧ ∀ ys, h b = some (.lst ys) → ys[i]? = some y,
  fun i h => ∃ xs ys, h a = some (.lst xs) ∧ h b = some (.lst ys) ∧ (xs.length ≤ i ∨ ys.length ≤ i)⟩
theorem rh_lst {P : Program} {w : World} {K : PySem.W.Frag} {h : PH} {H : Hp} {a : Addr} {ps : List PV} (rh : RH P w K H h) (e : h a = some (.lst ps)) : ∃ us, SqL K H a us ∧ RVs K H us ps := by
  obtain ⟨us, f1, l1, q1⟩ := rh a _ e
  exact ⟨us, SqL.of f1, q1⟩
theorem cor_zipL {P : Program} {w : World} {K : PySem.W.Frag} {h0 : PH} {H0 : Hp} {a b : Addr} : Cor P w K h0 H0 (Itz K a b) (ZitZ a b) := fun i h H st rh => by
  refine ⟨fun ⟨xs, ys, x, y, e1, e2, e3, e4⟩ => ?_, fun ⟨xs, ys, e1, e2, e3⟩ => ?_, fun ⟨xs, ys, x, y, e1, e2, e3, e4⟩ v H' ⟨T, x', y', y1, y2, y3, y4, y5⟩ => ?_⟩
  · obtain ⟨us, f1, q1⟩ := rh_lst rh e1
    obtain ⟨vs, f2, q2⟩ := rh_lst rh e2
    obtain ⟨u, g1, _⟩ := q1.get e3
    obtain ⟨v, g2, _⟩ := q2.get e4
    exact ⟨us, vs, u, v, f1, f2, g1, g2⟩
  · obtain ⟨us, f1, q1⟩ := rh_lst rh e1
    obtain ⟨vs, f2, q2⟩ := rh_lst rh e2
    exact ⟨us, vs, f1, f2, by rw [q1.length, q2.length]; exact e3⟩
  · obtain ⟨us, f1, q1⟩ := rh_lst rh e1
    obtain ⟨vs, f2, q2⟩ := rh_lst rh e2
    obtain ⟨u, g1, r1⟩ := q1.get e3
    obtain ⟨v', g2, r2⟩ := q2.get e4
    obtain rfl : u = x' := Option.some.inj (g1.symm.trans (y4 us f1))
    obtain rfl : v' = y' := Option.some.inj (g2.symm.trans (y5 vs f2))
    subst y1 y3
    obtain ⟨n1, n2, n3⟩ := pair_new rh y2 r1 r2
    exact ⟨_, ⟨x, y, rfl, fun l z => by rw [e1] at z; cases z; exact e3, fun l z => by rw [e2] at z; cases z; exact e4⟩, n1, n2, n3⟩
theorem cor_zipT {P : Program} {w : World} {K : PySem.W.Frag} {h0 : PH} {H0 : Hp} {a b : Addr} {xs ys : List V} {ps qs : List PV} (rh0 : RH P w K H0 h0) (s1 : SqT K H0 a xs) (s2 : SqT K H0 b ys) (r1 : RVs K H0 xs ps) (r2 : RVs K H0 ys qs) : Cor P w K h0 H0 (RZ.ItzT K a b) (ZitV (zipP ps qs)) := fun i h H st rh => by
  have t1 := SqT.stp rh0 st s1
  have t2 := SqT.stp rh0 st s2
  have q1 := r1.stp rh0 st
  have q2 := r2.stp rh0 st
  have len : (zipP ps qs).length = min xs.length ys.length := by rw [q1.length, q2.length]; exact List.length_zipWith
  refine ⟨fun g => ?_, fun g => ⟨xs, ys, t1, t2, ?_⟩, fun g v H' ⟨T, x', y', y1, y2, y3, y4, y5⟩ => ?_⟩
  · have g' : i < (zipP ps qs).length := g
    have a1 : i < xs.length := by omega
    have a2 : i < ys.length := by omega
    exact ⟨xs, ys, _, _, t1, t2, List.getElem?_eq_getElem a1, List.getElem?_eq_getElem a2⟩
  · have g' : (zipP ps qs).length ≤ i := g
    omega
  · obtain ⟨p, e1, v1⟩ := q1.getV (y4 xs t1)
    obtain ⟨q, e2, v2⟩ := q2.getV (y5 ys t2)
    subst y1 y3
    obtain ⟨n1, n2, n3⟩ := pair_new rh y2 v1 v2
    exact ⟨_, show (zipP ps qs)[i]? = some (.tup [p, q]) by unfold zipP; rw [List.getElem?_zipWith, e1, e2], n1, n2, n3⟩
def zsZipO (a b : Addr) : Option PO → Option PO → PH → (ZIt → PH → Prop) → Prop
  | some (.lst _), some (.lst _), h, R => R (ZitZ a b) h
  | _, _, _, _ => False
def zsZipI (ps : List PV) (h : PH) (R : ZIt → PH → Prop) : Prop := match ps with
  | [.tup xs, .tup ys] => R (ZitV (zipP xs ys)) h
  | [.ref a, .ref b] => zsZipO a b (h a) (h b) h R
  | _ => False
def zsZip (ta : ZA) : ZSrc := fun ρ h R => ta ρ h fun ps h1 => zsZipI ps h1 R
theorem qi_zip {X : Cx} {e e2 : Expr} {ta : ZA} {p pos tp : Pos} {el : List Expr} {kk : Nat} (hg : Gl X "zip") (hm : X.mg "zip" = none) (ha : QA X [e, e2] ta) (hs : starEach [e, e2] X.env = (false, eval e X.env) :: starEach [e2] X.env) (hp : (backTo pos (starEach [e2] X.env)).any (·.1) = false) :
    QI X (.Tuple el kk tp) (.Call (.Name "zip" p) [e, e2] [] pos) (zsZip ta) :=
  piI (RZ.pi_zipA hg hm ha hs hp) fun σ H R ⟨ρ, h, Rz, rs, rh, t, k⟩ => ⟨ρ, h, _, rs, rh, t, fun ps h1 t1 vs H1 s1 r1 rh1 => by
    unfold zsZipI at t1
    split at t1
    · obtain ⟨v, u, rfl, q, q2⟩ := rvs_two r1
      cases q with
      | tup sa la qa =>
        cases q2 with
        | tup sb lb qb => exact ⟨_, _, _, _, rfl, .inr ⟨sa, sb, k _ _ t1 _ _ s1 rh1 (cor_zipT rh1 sa sb qa qb)⟩⟩
    · obtain ⟨v, u, rfl, q, q2⟩ := rvs_two r1
      rename_i a b
      cases q
      cases q2
      unfold zsZipO at t1
      split at t1
      · rename_i xs ys ea eb
        obtain ⟨us, f1, _⟩ := rh_lst rh1 ea
        obtain ⟨vs, f2, _⟩ := rh_lst rh1 eb
        exact ⟨a, b, us, vs, rfl, .inl ⟨f1, f2, k _ _ t1 _ _ s1 rh1 cor_zipL⟩⟩
      · exact False.elim t1
    · exact False.elim t1⟩
end G

set_option maxHeartbeats 4000001
namespace G
open PySem PySem.Spec
open PyProof.Rows L2

/-! ### enumerate -/
def enumP : Nat → List PV → List PV
  | _, [] => []
  | k, p :: ps => .tup [.int (k : Nat), p] :: enumP (k + 1) ps
theorem enumP_len : ∀ (k : Nat) (ps : List PV), (enumP k ps).length = ps.length
  | _, [] => rfl
  | k, p :: ps => by simp [enumP, enumP_len (k + 1) ps]
theorem enumP_get : ∀ (k : Nat) (ps : List PV) (i : Nat) (p : PV), ps[i]? = some p → (enumP k ps)[i]? = some (.tup [.int ((k + i : Nat) : Int), p])
  | _, [], i, p, e => by simp at e
  | k, q :: ps, 0, p, e => by simp at e; subst e; rfl
  | k, q :: ps, i + 1, p, e => by
    have := enumP_get (k + 1) ps i p (by simpa using e)
    rw [show k + (i + 1) = k + 1 + i by omega]
    simpa [enumP] using this
/-- a list as it stands at each turn, numbered -/
def ZitEn (a : Addr) : ZIt := ⟨fun i h => ∃ xs x, h a = some (.lst xs) ∧ xs[i]? = some x, fun i h p => ∃ x, p = .tup [.int (i : Nat), x] ∧ ∀ xs, h a = some (.lst xs) → xs[i]? = some x, fun i h => ∃ xs, h a = some (.lst xs) ∧ xs.length ≤ i⟩
theorem cor_enumL {P : Program} {w : World} {K : PySem.W.Frag} {h0 : PH} {H0 : Hp} {a : Addr} : Cor P w K h0 H0 (Ite K a) (ZitEn a) := fun i h H st rh => by
  refine ⟨fun ⟨xs, x, e1, e3⟩ => ?_, fun ⟨xs, e1, e3⟩ => ?_, fun ⟨xs, x, e1, e3⟩ v H' ⟨T, x', y1, y2, y3, y4⟩ => ?_⟩
  · obtain ⟨us, f1, q1⟩ := rh_lst rh e1
    obtain ⟨u, g1, _⟩ := q1.get e3
    exact ⟨us, u, f1, g1⟩
  · obtain ⟨us, f1, q1⟩ := rh_lst rh e1
    exact ⟨us, f1, by rw [q1.length]; exact e3⟩
  · obtain ⟨us, f1, q1⟩ := rh_lst rh e1
    obtain ⟨u, g1, r1⟩ := q1.get e3
    obtain rfl : u = x' := Option.some.inj (g1.symm.trans (y4 us f1))
    subst y1 y3
    obtain ⟨n1, n2, n3⟩ := pair_new rh y2 (.int (i : Nat)) r1
    exact ⟨_, ⟨x, rfl, fun l z => by rw [e1] at z; cases z; exact e3⟩, n1, n2, n3⟩
theorem cor_enumT {P : Program} {w : World} {K : PySem.W.Frag} {h0 : PH} {H0 : Hp} {a : Addr} {xs : List V} {ps : List PV} (rh0 : RH P w K H0 h0) (s1 : SqT K H0 a xs) (r1 : RVs K H0 xs ps) : Cor P w K h0 H0 (IteT K a xs) ⟨fun i _ => i < ps.length, fun i _ p => (enumP 0 ps)[i]? = some p, fun i _ => i = ps.length⟩ := fun i h H st rh => by
  have t1 := SqT.stp rh0 st s1
  have q1 := r1.stp rh0 st
  refine ⟨fun g => ⟨t1, by rw [q1.length]; exact g⟩, fun g => ⟨t1, by rw [q1.length]; exact g⟩, fun g v H' ⟨T, x, y1, y2, y3, y4⟩ => ?_⟩
  obtain ⟨p, e1, v1⟩ := q1.getV y1
  subst y2 y4
  obtain ⟨n1, n2, n3⟩ := pair_new rh y3 (.int (i : Nat)) v1
  refine ⟨_, enumP_get 0 ps i p e1, n1, ?_, n3⟩
  rw [Nat.zero_add]
  exact n2
/-- the items of a tuple, numbered -/
def ZitEt (ps : List PV) : ZIt := ⟨fun i _ => i < ps.length, fun i _ p => (enumP 0 ps)[i]? = some p, fun i _ => i = ps.length⟩
def iEnumB (K : PySem.W.Frag) (ta : TA) : TI := fun σ H R => ta σ H fun vs H1 => ∃ a, vs = [.ref a] ∧ ((∃ xs, SqL K H1 a xs ∧ R (Ite K a) H1) ∨ ∃ xs, SqT K H1 a xs ∧ R (IteT K a xs) H1)
theorem pi_enumB {X : Cx} {e : Expr} {ta : TA} {p pos tp : Pos} {el : List Expr} {kk : Nat} (hg : Gl X "enumerate") (hm : X.mg "enumerate" = none) (ha : PA X [e] ta) (hs : starEach [e] X.env = [(false, eval e X.env)]) :
    PI X (.Tuple el kk tp) (.Call (.Name "enumerate" p) [e] [] pos) (iEnumB X.K ta) := ⟨fun pins s σ H R I h =>
  Call_ (ld_blt I hg hm boot_enumerate (PyProof.Rows.callWith_type1 (thn (ha.run pos pins s σ H _ I h) fun us s1 ⟨vs, H1, I1, r1, a, ex, q1⟩ => by
    subst ex
    obtain ⟨u, rfl, ru⟩ := r1.one
    have ru : u = .ref a := ru
    subst ru
    have two : ∀ b ∈ [s1.heap.objs.size + 1, s1.heap.objs.size], FpOk X pins H1 b := fun b hb => by
      have le : s1.heap.objs.size ≤ b := by
        rcases List.mem_cons.mp hb with z0 | z0
        · omega
        · have := List.mem_singleton.mp z0; omega
      exact I1.fpOk le (I1.hok.fresh le)
    rcases q1 with ⟨xs, sq, q⟩ | ⟨xs, sq, q⟩
    · obtain ⟨its, rv, pl, _⟩ := I1.list sq
      exact call_enumerate_list pl.isList fun h' he hit hz hk => wpAny_pyIter_enum he ⟨_, _, _, _, H1, rfl, I1.kept (t' := s1.toks) hk, turn_enum a (s1.heap.objs.size + 1) s1.heap.objs.size, ⟨⟨.none, he⟩, hit, Nat.succ_ne_self _⟩, two, q⟩
    · obtain ⟨its, rv, pl, _⟩ := I1.tuple sq
      have lt : a < s1.heap.objs.size := by obtain ⟨_, z, _⟩ := id pl; exact Heap.lt_size z
      exact call_enumT pl fun h' he hit hk => wpAny_pyIter_enum he ⟨_, _, _, _, H1, rfl, I1.kept (t' := s1.toks) hk, turn_enumT (xs := xs) (Nat.succ_ne_self _) (Nat.ne_of_lt lt) (Ne.symm (Nat.ne_of_lt (Nat.lt_succ_of_lt lt))), ⟨⟨.none, he⟩, hit⟩, two, q⟩) hs rfl))⟩
def zsEnumO (a : Addr) : Option PO → PH → (ZIt → PH → Prop) → Prop
  | some (.lst _), h, R => R (ZitEn a) h
  | _, _, _ => False
def zsEnumI (ps : List PV) (h : PH) (R : ZIt → PH → Prop) : Prop := match ps with
  | [.tup xs] => R (ZitEt xs) h
  | [.ref a] => zsEnumO a (h a) h R
  | _ => False
def zsEnum (ta : ZA) : ZSrc := fun ρ h R => ta ρ h fun ps h1 => zsEnumI ps h1 R
theorem qi_enum {X : Cx} {e : Expr} {ta : ZA} {p pos tp : Pos} {el : List Expr} {kk : Nat} (hg : Gl X "enumerate") (hm : X.mg "enumerate" = none) (ha : QA X [e] ta) (hs : starEach [e] X.env = [(false, eval e X.env)]) :
    QI X (.Tuple el kk tp) (.Call (.Name "enumerate" p) [e] [] pos) (zsEnum ta) :=
  piI (pi_enumB hg hm ha hs) fun σ H R ⟨ρ, h, Rz, rs, rh, t, k⟩ => ⟨ρ, h, _, rs, rh, t, fun ps h1 t1 vs H1 s1 r1 rh1 => by
    unfold zsEnumI at t1
    split at t1
    · obtain ⟨v, rfl, q⟩ := rvs_one r1
      cases q with
      | tup sa la qa => exact ⟨_, rfl, .inr ⟨_, sa, k _ _ t1 _ _ s1 rh1 (cor_enumT rh1 sa qa)⟩⟩
    · obtain ⟨v, rfl, q⟩ := rvs_one r1
      rename_i a
      cases q
      unfold zsEnumO at t1
      split at t1
      · rename_i xs ea
        obtain ⟨us, f1, _⟩ := rh_lst rh1 ea
        exact ⟨a, rfl, .inl ⟨us, f1, k _ _ t1 _ _ s1 rh1 cor_enumL⟩⟩
      · exact False.elim t1
    · exact False.elim t1⟩
/-! ### x, y = a list -/
def zgLstO (n : Nat) (gs : ZGs) : Option PO → Ev → PH → (Ev → PH → Prop) → Prop
  | some (.lst xs), ρ, h, Q => xs.length = n ∧ gs xs ρ h Q
  | _, _, _, _ => False
def zgLst (n : Nat) (gs : ZGs) : ZG := fun p ρ h Q => match p with
  | .ref a => zgLstO n gs (h a) ρ h Q
  | _ => False
theorem qg_lst {X : Cx} {es : List Expr} {pos : Pos} {gs : ZGs} {n k : Nat} (hc : X.calm = true) (hg : QGs X es gs) (hn : (assignEach es X.env).length = n) (hst : (assignEach es X.env).findIdx? (·.1) = none) : QG X (.Tuple es k pos) (zgLst n gs) :=
  pgI (pg_lst hc hg hn hst) fun v σ H Q x => by
    obtain ⟨p, ρ, h, Qz, r, rs, rh, q, k⟩ := x
    cases p <;> first | (exact False.elim q) | skip
    rename_i a
    cases r
    · have q' : zgLstO n gs (h a) ρ h Qz := q
      cases ea : h a with
      | none => rw [ea] at q'; exact False.elim q'
      | some ob =>
        rw [ea] at q'
        cases ob with
        | dic t l kvs => exact False.elim q'
        | ins C fs => exact False.elim q'
        | lst xs =>
          obtain ⟨us, f1, q1⟩ := rh_lst rh ea
          exact ⟨a, us, rfl, f1, by rw [q1.length]; exact q'.1, _, ρ, h, Qz, q1, rs, rh, q'.2, k⟩

/-! ### readings -/
section
variable {te : ZE} {ta : ZA} {ρ : Ev} {h : PH} {R : ZIt → PH → Prop} {f : PV × PV → PV} {a b : Addr} {t : Bool} {lk : Obj × HO} {kvs : List (PV × PV)} {xs ys : List PV}
theorem zsKeyT_x : zsKeyT te ρ h R = te ρ h fun p h1 => zsKeyTI p h1 R := rfl
theorem zsKeyTI_r : zsKeyTI (.ref a) h R = zsKeyTO a (h a) h R := rfl
theorem zsKeyTO_d : zsKeyTO a (some (.dic true (some lk) kvs)) h R = R (ZitKE a true lk kvs) h := rfl
theorem zsVals_x : zsVals te ρ h R = te ρ h fun p h1 => zsFI Prod.snd p h1 R := rfl
theorem zsItems_x : zsItems te ρ h R = te ρ h fun p h1 => zsFI pairP p h1 R := rfl
theorem zsFI_r : zsFI f (.ref a) h R = zsFO f a (h a) h R := rfl
theorem zsFO_d : zsFO f a (some (.dic t (some lk) kvs)) h R = R (ZitF f a t lk kvs) h := rfl
theorem zsZip_x : zsZip ta ρ h R = ta ρ h fun ps h1 => zsZipI ps h1 R := rfl
theorem zsZipI_t : zsZipI [.tup xs, .tup ys] h R = R (ZitV (zipP xs ys)) h := rfl
theorem zsZipI_r : zsZipI [.ref a, .ref b] h R = zsZipO a b (h a) (h b) h R := rfl
theorem zsZipO_l : zsZipO a b (some (.lst xs)) (some (.lst ys)) h R = R (ZitZ a b) h := rfl
theorem zsEnum_x : zsEnum ta ρ h R = ta ρ h fun ps h1 => zsEnumI ps h1 R := rfl
theorem zsEnumI_t : zsEnumI [.tup xs] h R = R (ZitEt xs) h := rfl
theorem zsEnumI_r : zsEnumI [.ref a] h R = zsEnumO a (h a) h R := rfl
theorem zsEnumO_l : zsEnumO a (some (.lst xs)) h R = R (ZitEn a) h := rfl
theorem zgLst_r {n : Nat} {gs : ZGs} {Q : Ev → PH → Prop} : zgLst n gs (.ref a) ρ h Q = zgLstO n gs (h a) ρ h Q := rfl
theorem zgLstO_l {n : Nat} {gs : ZGs} {Q : Ev → PH → Prop} : zgLstO n gs (some (.lst xs)) ρ h Q = (xs.length = n ∧ gs xs ρ h Q) := rfl
end
/-! ### loops -/
section
variable {g : ZG} {tb : ZS} {D : ZEnds} {ρ : Ev} {h : PH} {a b : Addr}
theorem forW_F {f : PV × PV → PV} {t : Bool} {lk : Obj × HO} {kvs : List (PV × PV)} (I : Nat → Ev → PH → Prop) (h0 : I 0 ρ h) (stay : ∀ i ρ h, i ≤ kvs.length → I i ρ h → h a = some (.dic t (some lk) kvs)) (step : ∀ i ρ h kv, kvs[i]? = some kv → I i ρ h → g (f kv) ρ h fun ρ2 h2 => tb (turnD D (I (i + 1))) ρ2 h2)
    (fin : ∀ ρ h, I kvs.length ρ h → D.nx ρ h) : ForW (ZitF f a t lk kvs) g tb D ρ h :=
  forW_gen (Z := ZitF f a t lk kvs) kvs.length I h0 (fun i ρ h hi q => ⟨stay i ρ h (Nat.le_of_lt hi) q, hi⟩) (fun ρ h q => ⟨stay _ ρ h (Nat.le_refl _) q, rfl⟩) (fun i ρ h p hi q y => by obtain ⟨kv, e, rfl⟩ := y; exact step i ρ h kv e q) fin
theorem forW_Et {ps : List PV} (I : Nat → Ev → PH → Prop) (h0 : I 0 ρ h) (step : ∀ i ρ h p, ps[i]? = some p → I i ρ h → g (.tup [.int (i : Nat), p]) ρ h fun ρ2 h2 => tb (turnD D (I (i + 1))) ρ2 h2) (fin : ∀ ρ h, I ps.length ρ h → D.nx ρ h) : ForW (ZitEt ps) g tb D ρ h :=
  forW_gen ps.length I h0 (fun _ _ _ hi _ => hi) (fun _ _ _ => rfl) (fun i ρ h p hi q y => by
    have e := enumP_get 0 ps i _ (List.getElem?_eq_getElem hi)
    have y' : (enumP 0 ps)[i]? = some p := y
    rw [e, Nat.zero_add] at y'
    cases y'
    exact step i ρ h _ (List.getElem?_eq_getElem hi) q) fin
end
end G

set_option maxHeartbeats 4000001
namespace G
open PySem PySem.Spec
open PyProof.Rows L2

/-! ### classes: from the head's facts to methods -/
/-- what stands in a class's body at j -/
def clsAt (s : Stmt) (j : Nat) : Stmt := match s with
  | .ClassDef _ _ _ b _ _ _ _ _ _ _ => b.getD j (.Pass ⟨0, 0, 0, 0⟩)
  | _ => .Pass ⟨0, 0, 0, 0⟩
/-- the method m of the class at C, told as q -/
def FM (K : PySem.W.Frag) (C : Addr) (m q : Str) (st : Stmt) (ps : List Str) : Prop :=
  ∃ fd, FunD K m q (defArgs st) (defBody st) (defScope st) [] [] (He.ma K C m) fd ∧ Meth K C m (He.ma K C m) ∧ ∀ (s : Shared) (us : List Value), us.length = ps.length → BindsTo s fd ⟨us, []⟩ (ps.zip us)
/-- .. its __init__ -/
def FI (K : PySem.W.Frag) (mg : Str → Option Value) (x : Str) (C : Addr) (q : Str) (st : Stmt) (ps : List Str) : Prop :=
  ∃ fd, FunD K "__init__" q (defArgs st) (defBody st) (defScope st) [] [] (He.ma K C "__init__") fd ∧ Mk K C (He.ma K C "__init__") ∧ mg x = some (.ref C) ∧ ∀ (s : Shared) (us : List Value), us.length = ps.length → BindsTo s fd ⟨us, []⟩ (ps.zip us)
section
variable {P : Program} {w : World} {mg : Str → Option Value} {K : PySem.W.Frag} {base : Heap}
theorem fnok {x q : Str} {f : Addr} {fd : FuncData} {st : Stmt} {N ps : List Str} {k n m : Nat} {zb : ZS} (F : FunD K x q (defArgs st) (defBody st) (defScope st) [] [] f fd) (S : FnScope N ps (defScope st)) (hn : N.length = n) (hm : ps.length = m)
    (body : ∀ (f : Addr) (cdv : Value) (A : Around) (outer : List Env) (s : Shared) (H : Hp) (E : XK), Room k (A.deeper (envOfC q (defScope st) s.heap.objs.size f cdv)) → QSs (cxOf CX0 P w K mg base N q (defScope st) f cdv A outer s H E).nox (defBody st) zb) :
    FnOk P w K mg base CX0 (k + 1) f fd ps (spOf P w K (zFn n m zb)) := by
  refine F.ok S (fun vs H Q E h => ?_) (fun cdv A outer s H vs Q E hr h => ?_)
  · obtain ⟨ps', h, Qp, rv, rh, ⟨hz1, hz⟩, kk⟩ := h
    rw [rv.length, hm]
    exact hz1
  obtain ⟨ps', h, Qp, rv, rh, ⟨hz1, hz⟩, kk⟩ := h
  refine ⟨_, (body f cdv A outer s H E hr).nox, _, h, _, rs_start rv N, rh, by rw [hz1, hn]; exact hz, ?_⟩
  refine ⟨fun ρ' h' ⟨h2, u, q⟩ σ' H' s rs rh' => ?_, fun p h' ⟨h2, u, q⟩ v H' s rv rh' => ?_, fun _ _ z => z.elim, fun _ _ z => z.elim⟩
  · exact kk _ _ q _ _ (stp_sub s u) .non (rh'.sub u)
  · exact kk _ _ q _ _ (stp_sub s u) rv (rh'.sub u)
theorem fnok0 {f : Addr} {fd : FuncData} {ps : List Str} : FnOk P w K mg base CX0 0 f fd ps (spOf P w K fun _ _ _ => False) :=
  ⟨fun vs H Q E ⟨ps', h, Qp, rv, rh, z, kk⟩ => z.elim, fun A outer s H args us vs Q E hr e0 hb' r ⟨ps', h, Qp, rv, rh, z, kk⟩ => z.elim⟩
theorem qfm {C : Addr} {x q : Str} {st : Stmt} {N ps : List Str} {k n m : Nat} {zb : ZS} (h : FM K C x q st ps) (S : FnScope N ps (defScope st)) (hn : N.length = n) (hm : ps.length = m)
    (body : ∀ (f : Addr) (cdv : Value) (A : Around) (outer : List Env) (s : Shared) (H : Hp) (E : XK), Room k (A.deeper (envOfC q (defScope st) s.heap.objs.size f cdv)) → QSs (cxOf CX0 P w K mg base N q (defScope st) f cdv A outer s H E).nox (defBody st) zb) :
    QMe P w K mg base (k + 1) C x (zFn n m zb) := by
  obtain ⟨fd, F, M, hb⟩ := h
  exact ⟨_, fd, ps, fnok F S hn hm body, M, binds_of hb⟩
theorem qfm0 {C : Addr} {x q : Str} {st : Stmt} {ps : List Str} (h : FM K C x q st ps) : QMe P w K mg base 0 C x fun _ _ _ => False := by
  obtain ⟨fd, F, M, hb⟩ := h
  exact ⟨_, fd, ps, fnok0, M, binds_of hb⟩
theorem qfi {C : Addr} {x q : Str} {st : Stmt} {N ps : List Str} {k n m : Nat} {zb : ZS} (h : FI K mg x C q st ps) (S : FnScope N ps (defScope st)) (hn : N.length = n) (hm : ps.length = m)
    (body : ∀ (f : Addr) (cdv : Value) (A : Around) (outer : List Env) (s : Shared) (H : Hp) (E : XK), Room k (A.deeper (envOfC q (defScope st) s.heap.objs.size f cdv)) → QSs (cxOf CX0 P w K mg base N q (defScope st) f cdv A outer s H E).nox (defBody st) zb) :
    QMk P w K mg base (k + 1) x C (zFn n m zb) := by
  obtain ⟨fd, F, M, hg, hb⟩ := h
  exact ⟨_, fd, ps, fnok F S hn hm body, M, hg, binds_of hb⟩
theorem qfi0 {C : Addr} {x q : Str} {st : Stmt} {ps : List Str} (h : FI K mg x C q st ps) : QMk P w K mg base 0 x C fun _ _ _ => False := by
  obtain ⟨fd, F, M, hg, hb⟩ := h
  exact ⟨_, fd, ps, fnok0, M, hg, binds_of hb⟩
theorem fnok_up {f : Addr} {fd : FuncData} {ps : List Str} {sp : Sp} {CX : CXT} {j k : Nat} (F : FnOk P w K mg base CX j f fd ps sp) (h : j ≤ k) : FnOk P w K mg base CX k f fd ps sp :=
  ⟨F.len, fun A outer s H args us vs Q E hr => F.run A outer s H args us vs Q E (hr.mono h)⟩
theorem QF.up {j k n : Nat} {x : Str} {r : ZC} (F : QF P w K mg base j x n r) (h : j ≤ k) : QF P w K mg base k x n r := by
  obtain ⟨f, fd, ps, a, b⟩ := F.ex
  exact ⟨f, fd, ps, fnok_up a h, b⟩
theorem QMe.up {j k : Nat} {C : Addr} {x : Str} {r : ZC} (F : QMe P w K mg base j C x r) (h : j ≤ k) : QMe P w K mg base k C x r := by
  obtain ⟨f, fd, ps, a, b⟩ := F.ex
  exact ⟨f, fd, ps, fnok_up a h, b⟩
theorem QMk.up {j k : Nat} {C : Addr} {x : Str} {r : ZC} (F : QMk P w K mg base j x C r) (h : j ≤ k) : QMk P w K mg base k x C r := by
  obtain ⟨f, fd, ps, a, b⟩ := F.ex
  exact ⟨f, fd, ps, fnok_up a h, b⟩
end
end G

set_option maxHeartbeats 4000001
namespace G
open PySem PySem.Spec
open PyProof.Rows L2

/-! ### what is never come to -/
def zNoE : ZE := fun _ _ _ => False
def zNoS : ZS := fun _ _ _ => False
theorem qe_no {X : Cx} {e : Expr} : QE X e zNoE := ⟨fun pins s σ H Q I ⟨ρ, h, Qp, rs, rh, t, k⟩ => t.elim⟩
theorem qs_no {X : Cx} {st : Stmt} : QS X st zNoS := ⟨fun pins s σ H D I ⟨ρ, h, Z, rs, rh, t, k⟩ => t.elim⟩
/-! ### {k: v}, the key a tuple -/
def zDispT (tk tv : ZE) : ZE := fun ρ h Q => tk ρ h fun p h1 => tv ρ h1 fun q h2 => keyOk true p = true ∧ ∀ a, h2 a = none → Q (.ref a) (up h2 a (.dic true none [(p, q)]))
theorem RH.add {P : Program} {w : World} {K : PySem.W.Frag} {H : Hp} {h : PH} {a : Addr} {o : PO} (r : RH P w K H h) (x : RO P w K H a o) : RH P w K H (up h a o) := fun b u e => by
  by_cases z : b = a
  · subst z
    rw [up_same] at e
    cases e
    exact x
  · rw [up_ne z] at e
    exact r b u e
theorem qe_dispT {X : Cx} {k v : Expr} {pos : Pos} {tk tv : ZE} (hu : X.A.units + 70 < cLine) (hk : QE X k tk) (hv : QE X v tv) : QE X (.Dict [some k] [v] pos) (zDispT tk tv) := by
  refine ⟨fun pins s σ H Q I ⟨ρ, h, Qp, rs, rh, t, kk⟩ => ?_⟩
  generalize hd : s.heap.objs.size = d
  have n : H d = none := I.hok.fresh (Nat.le_of_eq hd)
  have nh : h d = none := rh.free n
  have big : (d == sysModules) = false := beq_eq_false_iff_ne.mpr (Ne.symm (Nat.ne_of_lt (hd ▸ I.big)))
  have I1 : Inv X pins σ (upd H d (.ext (dphi X.prog X.w d []))) { s with heap := s.heap.push { cls := .type "dict", data := .dict #[] } } := by
    refine I.laid (a := d) (o := .ext (dphi X.prog X.w d [])) (h' := s.heap.push { cls := .type "dict", data := .dict #[] }) (t' := s.toks) (fun _ _ q => Heap.get?_push_of_some _ q) (Nat.le_of_eq hd) ?_
    have g : (s.heap.push { cls := .type "dict", data := .dict #[] }).get? d = some { cls := .type "dict", data := .dict #[] } := by rw [← hd]; exact Heap.get?_push_size _ rfl
    exact ⟨⟨big, Nat.zero_le _, _, #[], 0, g, ⟨rfl, rfl, rfl⟩, rfl, rfl, List.nodup_nil⟩, ⟨_, g⟩, fun h1 h2 ⟨c1, c2, o1, es1, ep1, c3, c4⟩ hk => ⟨c1, c2, o1, es1, ep1, hk o1 c3, c4⟩⟩
  have s1 : Stp h H h (upd H d (.ext (dphi X.prog X.w d []))) := stp_new0 n
  rw [arm_eval_Dict, zip_pairTrees [some k] [v] X.env pos rfl rfl, dictDisplay_pairs _ (by simp [pairTrees]) (by simp [pairTrees])]
  refine wpAny_bind (wpAny_standAt (wpAny_bind (wpAny_subDictH (knd := nestedKind X.prog X.w) (by show X.A.units + 8 < cLine; omega) (by simp [pairTrees]) ?_)))
  refine pairTrees_cons_walk (thn (hk.run pins _ σ _ (fun x H2 => LE X.prog X.w X.K tv σ H2 fun y H3 => ∃ p q h3, RV X.K H3 x p ∧ RV X.K H3 y q ∧ RH X.prog X.w X.K H3 h3 ∧ Stp h (upd H d (.ext (dphi X.prog X.w d []))) h3 H3 ∧ keyOk true p = true ∧ ∀ a, h3 a = none → Qp (.ref a) (up h3 a (.dic true none [(p, q)]))) I1 ⟨ρ, h, _, rs.stp rh s1, rh.new0 n, t, fun p h2 t2 x H2 s2 r2 rh2 => ⟨ρ, h2, _, (rs.stp rh s1).stp (rh.new0 n) s2, rh2, t2, fun q h3 t3 y H3 s3 r3 rh3 => ⟨p, q, h3, r2.stp rh2 s3, r3, rh3, s2.trans s3, t3.1, t3.2⟩⟩⟩) fun u s2 ⟨x, H2, I2, rx, q2⟩ => thn (hv.run pins s2 σ H2 _ I2 q2) fun u2 s3 ⟨y, H3, I3, ry, p, q, h3, rp, rq, rh3, st3, ko, z⟩ => pairTrees_nil_walk ?_)
  obtain ⟨k', hk1, hk2⟩ := keyT ko
  obtain ⟨b, rfl⟩ := keyT_ref ko rp
  obtain ⟨e3, n3⟩ := st3 d _ upd_same nh
  have ro : RO X.prog X.w X.K H3 d (.dic true none []) := ⟨[], (show LkAt _ _ none _ from e3), Nat.zero_le _, .nil⟩
  have rha := rh3.add ro
  obtain ⟨g1, g2, g3⟩ := dic_of I3 (kvs := []) (.inl e3) .nil
  have ru : u = .ref b := rx
  refine ⟨[(k', b, u2)], ⟨ru, rfl, ⟨rp.nested I3 _ _ _ _ hk1 rfl, hk2⟩, trivial⟩, by rw [hd]; exact g3, fun h' tk dd hs => wpAny_pure ?_⟩
  rw [hd] at dd hs
  obtain ⟨o', es, ep, ho', hx', hd', he', hi', hn'⟩ := dd
  have st : Stp (up h3 d (.dic true none [])) H3 (up (up h3 d (.dic true none [])) d (.dic true none [(p, q)])) (upd H3 d (.ext (dphi X.prog X.w d (storedAllH [] [(k', b, u2)])))) := stp_set up_same
  have new : ObjOk X.prog X.w (upd H3 d (.ext (dphi X.prog X.w d (storedAllH [] [(k', b, u2)])))) h' d (.ext (dphi X.prog X.w d (storedAllH [] [(k', b, u2)]))) :=
    ⟨⟨g1, (by show 1 ≤ sizeLine; decide), o', es, ep, ho', hx', hd', he', hn'⟩, ⟨o', ho'⟩, fun h1 h2 ⟨c1, c2, o1, es1, ep1, c3, c4⟩ hk => ⟨c1, c2, o1, es1, ep1, hk o1 c3, c4⟩⟩
  have I4 := I3.write (x := d) (e := d) (t' := tk) (by rw [e3]; trivial) (.inl rfl) (fun c v hc e => (hs.2 c hc).trans e) ⟨o', ho'⟩ new
  have ent : Paired (EntT X.K H3) [(p, q)] (storedAllH [] [(k', b, u2)]) := .cons ⟨hk1, hk2, rp, y, ry, rq⟩ .nil
  have rh4 := rha.put st ⟨_, (show LkAt _ _ none _ from upd_same), (by show 1 ≤ sizeLine; decide), Paired.mapP ent fun _ _ ⟨c1, c2, c3, v', c4, c5⟩ => ⟨c1, c2, c3.stp rha st, v', c4, c5.stp rha st⟩⟩
  rw [up_up] at rh4
  rw [hd]
  refine ⟨.ref d, _, I4, rfl, kk _ _ (z d n3) _ _ (fun c w0 ec nc => ?_) (.ref d) rh4⟩
  have nd : c ≠ d := fun e => by subst e; rw [n] at ec; cases ec
  obtain ⟨f1, f2⟩ := st3 c w0 (by rw [upd_ne nd]; exact ec) nc
  exact ⟨by rw [upd_ne nd]; exact f1, by rw [up_ne nd]; exact f2⟩
end G

set_option maxHeartbeats 4000001
namespace G
open PySem PySem.Spec
open PyProof.Rows L2

/-! ### sorted(xs, key=f), f an own def -/
section
variable {X : Cx} {pins : List (Addr × Obj)} {σ : L2.St} {H : Hp} {s : Shared} {h' : Heap}
/-- what was laid untracked is tracked from now on -/
theorem Inv_adopt {t' : Nat} {ch : List Addr} {D : Addr} {ob : HO} (I : Inv X pins σ H s) (hD : D ∈ ch) (hf : ∀ b ∈ ch, FpOk X pins H b) (k : ∀ b o, b ∉ ch → s.heap.get? b = some o → h'.get? b = some o)
    (new : ObjOk X.prog X.w (upd H D ob) h' D ob) : Inv X pins σ (upd H D ob) { s with heap := h', toks := t' } := by
  have nD : H D = none := (hf D hD).1
  have out : ∀ {b : Addr}, b ∉ ch → b ≠ D := fun hb z => hb (z ▸ hD)
  have trk : ∀ {b : Addr} {u : HO}, H b = some u → b ∉ ch := fun e z => by rw [(hf _ z).1] at e; cases e
  have un : ∀ {b : Addr} {u : HO}, H b = some u → upd H D ob b = some u := fun e => (upd_ne (out (trk e))).trans e
  refine I.step (g' := s.gens) (d' := s.drawn) (ch := ch) (fun b hb => ⟨(hf b hb).2.2.2.1, (hf b hb).2.1, (hf b hb).2.2.2.2.1, (hf b hb).2.2.2.2.2⟩) (fun b o _ _ c e _ => k b o c e) (fun b o _ _ c e _ => ⟨o.slots, k b o c e⟩)
    (fun b o c _ n => (upd_ne (out c)).trans n) (fun b o c e => ⟨o, k b o c e⟩) (fun b xs e => un e) (fun b o u e => un e) (fun b q e => ⟨#[], by rw [un e]; simp⟩) (fun m ⟨o, es, ep, ho, r⟩ => ⟨o, es, ep, k _ o (fun z => (hf _ z).2.1 rfl) ho, r⟩) (fun b u e => ?_) I.bare
  by_cases z : b = D
  · subst z
    rw [upd_same] at e
    cases e
    exact new
  · rw [upd_ne z] at e
    refine (I.hok b u e).stay (fun c v hc q => k c v ?_ q) (fun c q => un q) fun c xs q => un q
    rcases hc with y | y
    · rw [y]; exact trk e
    · exact trk y
theorem Inv_pin {more : List (Addr × Obj)} (I : Inv X pins σ H s) (h : ∀ p ∈ more, s.heap.get? p.1 = some p.2 ∧ H p.1 = none ∧ p.1 ≠ X.env.locals ∧ p.1 ∉ X.fs ∧ ∀ v, p.2.data ≠ .cell v) : Inv X (more ++ pins) σ H s :=
  ⟨I.ok, I.os, I.bare, I.base, I.loc, I.cell, I.free, I.freeC, fun p hp => by
    rcases List.mem_append.mp hp with z0 | z0
    · exact I.pin p (List.mem_append.mpr (.inl z0))
    · rcases List.mem_append.mp z0 with z | z
      · exact h p z
      · exact I.pin p (List.mem_append.mpr (.inr z)), I.hok, I.len⟩
theorem Inv_unpin {more : List (Addr × Obj)} (I : Inv X (more ++ pins) σ H s) : Inv X pins σ H s :=
  ⟨I.ok, I.os, I.bare, I.base, I.loc, I.cell, I.free, I.freeC, fun p hp => I.pin p (by
    rcases List.mem_append.mp hp with z0 | z0
    · exact List.mem_append.mpr (.inl z0)
    · exact List.mem_append.mpr (.inr (List.mem_append.mpr (.inr z0)))), I.hok, I.len⟩
end
/-- by the keys -/
def ltK (x y : PV × PV) : Bool := PV.o x.1 y.1
theorem ltK_swo : SrtO.Swo ltK := ⟨fun x y => PV.swo.asym _ _, fun x y z => PV.swo.tr _ _ _⟩
theorem call_sortKey {X : Cx} {k : Nat} {f : Addr} {fd : FuncData} {prm : List Str} {r : ZC} (hr : Room (k + 2) X.A) (F : FnOk X.prog X.w X.K X.mg X.base CX0 k f fd prm (spOf X.prog X.w X.K r)) (hb : Binds X.K fd prm [])
    {pins : List (Addr × Obj)} {s : Shared} {σ : L2.St} {H : Hp} {h : PH} {a : Addr} {ps ks : List PV} {Q : VK} {Qp : QV} (I : Inv X pins σ H s) (rh : RH X.prog X.w X.K H h) (ea : h a = some (.lst ps)) (pl : PV.pls ps = true) (lk : ks.length = ps.length) (ok : sortOk ks = true)
    (turn : ∀ (i : Nat) (p q : PV), ps[i]? = some p → ks[i]? = some q → ∀ h', Sub h h' → r [p] h' fun y h2 => y = q ∧ Sub h' h2)
    (fin : ∀ d out, h d = none → SrtO.Srtd ltK out → SrtO.Stb ltK out (ks.zip ps) → Qp (.ref d) (up h d (.lst (out.map Prod.snd)))) (kk : Thn X.prog X.w X.K h H Qp Q) :
    wpAny (model X.prog X.w) X.A (call (.builtin "sorted") [.ref a] [(Str.ofString "key", .ref f)]) (EP X pins σ Q) X.xe s := by
  obtain ⟨ws, f1, l1, q1⟩ := rh a _ ea
  obtain ⟨its, rv, hl, hz⟩ := I.list (SqL.of f1)
  have hzi : its.length ≤ sizeLine := by rw [← rv.length]; exact l1
  refine PySem.W.sorted_of_sort hl.isList hzi (PyProof.Rows.ksk_s1 _ _) (fun _ => PyProof.Rows.ksk_l1 _ _) fun E' => ?_
  rw [PyProof.Rows.ksk_t1]
  have oD := PySem.W.copyHeap_at s.heap its
  have keep0 : ∀ b o, s.heap.get? b = some o → (PySem.W.copyHeap s.heap its).get? b = some o := fun b o e => PySem.W.copyHeap_old e
  generalize PySem.W.copyHeap s.heap its = g at oD keep0 ⊢
  have bigD : s.heap.objs.size ≤ s.heap.objs.size + 1 := Nat.le_succ _
  generalize s.heap.objs.size + 1 = D at oD bigD ⊢
  unfold PyProof.Rows.ksk_tree
  refine wpAny_bind (listItems_at oD rfl ?_)
  refine wpAny_bind (listUpdate_at oD rfl ?_ (by rw [List.size_toArray]; exact hzi) (Nat.zero_le _))
  obtain ⟨e1, oD1⟩ : ∃ e1, (g.update D (Obj.mapSeq fun _ => #[])).get? D = some (seqObj "list" #[] e1) := ⟨_, get?_update_seq oD (fun _ => #[])⟩
  refine wpAny_bind (seqEpoch_at oD1 rfl ?_)
  refine wpAny_bind (wpAny_newTuple ?_ (by show its.length ≤ _; exact hzi))
  refine wpAny_bind (wpAny_newList (wpAny_holding ?_) (Nat.zero_le _))
  have keep1 : ∀ b o, s.heap.get? b = some o → ((((g.update D (Obj.mapSeq fun _ => #[])).push (seqObj "tuple" its.toArray 0))).push (seqObj "list" #[] 0)).get? b = some o := fun b o e => by
    have ne : b ≠ D := Nat.ne_of_lt (Nat.lt_of_lt_of_le (Heap.lt_size e) bigD)
    exact Heap.get?_push_of_some _ (Heap.get?_push_of_some _ ((Heap.get?_update_ne _ _ _ _ ne).trans (keep0 b o e)))
  have okS : (((g.update D (Obj.mapSeq fun _ => #[])).push (seqObj "tuple" its.toArray 0)).push (seqObj "list" #[] 0)).get? ((g.update D (Obj.mapSeq fun _ => #[])).push (seqObj "tuple" its.toArray 0)).objs.size = some (seqObj "list" #[] 0) := Heap.get?_push_size _ rfl
  have oD2 : (((g.update D (Obj.mapSeq fun _ => #[])).push (seqObj "tuple" its.toArray 0)).push (seqObj "list" #[] 0)).get? D = some (seqObj "list" #[] e1) := Heap.get?_push_of_some _ (Heap.get?_push_of_some _ oD1)
  have ltS : D < ((g.update D (Obj.mapSeq fun _ => #[])).push (seqObj "tuple" its.toArray 0)).objs.size := Heap.lt_size (Heap.get?_push_of_some _ oD1)
  show wpAny (model X.prog X.w) X.A.in1.in1 (PyProof.Rows.ksk_rest D (.ref f) false its.toArray e1 (.ref ((g.update D (Obj.mapSeq fun _ => #[])).push (seqObj "tuple" its.toArray 0)).objs.size)) _ E' { s with heap := ((g.update D (Obj.mapSeq fun _ => #[])).push (seqObj "tuple" its.toArray 0)).push (seqObj "list" #[] 0) }
  generalize ((g.update D (Obj.mapSeq fun _ => #[])).push (seqObj "tuple" its.toArray 0)).push (seqObj "list" #[] 0) = g1 at okS oD2 keep1 ⊢
  generalize ((g.update D (Obj.mapSeq fun _ => #[])).push (seqObj "tuple" its.toArray 0)).objs.size = kS at okS ltS ⊢
  clear oD oD1 keep0
  have bigS : s.heap.objs.size ≤ kS := by omega
  have nDS : kS ≠ D := Nat.ne_of_gt ltS
  have fS : FpOk X pins H kS := I.fpOk bigS (I.hok.fresh bigS)
  have fD : FpOk X pins H D := I.fpOk bigD (I.hok.fresh bigD)
  have pinOk : ∀ {g2 : Heap} {H2 : Hp} {kA : Array Value} {e : Nat}, g2.get? kS = some (seqObj "list" kA e) → g2.get? D = some (seqObj "list" #[] e1) → H2 kS = none → H2 D = none → ∀ p ∈ [(kS, seqObj "list" kA e), (D, seqObj "list" #[] e1)], g2.get? p.1 = some p.2 ∧ H2 p.1 = none ∧ p.1 ≠ X.env.locals ∧ p.1 ∉ X.fs ∧ ∀ v, p.2.data ≠ .cell v := fun a1 a2 a3 a4 p hp => by
    rcases List.mem_cons.mp hp with z0 | hp
    · subst z0; exact ⟨a1, a3, fS.2.1, fS.2.2.1, nofun⟩
    · obtain rfl := List.mem_singleton.mp hp
      exact ⟨a2, a4, fD.2.1, fD.2.2.1, nofun⟩
  have I0 : Inv X ([(kS, seqObj "list" #[] 0), (D, seqObj "list" #[] e1)] ++ pins) σ H { s with heap := g1 } := Inv_pin (I.kept (t' := s.toks) keep1) (pinOk okS oD2 fS.1 fD.1)
  have lks : its.length = ks.length := by rw [lk, ← q1.length]; exact rv.length.symm
  unfold PyProof.Rows.ksk_rest
  refine wpAny_bind (wpAny_rule (?_ : wpAny _ _ _ _ _ _))
  rw [← Array.forIn_toList]
  refine wpAny_bind (PyProof.Rows.ksk_fold (fun i s' => ∃ kA e Hi hi kvs, Inv X ([(kS, seqObj "list" kA e), (D, seqObj "list" #[] e1)] ++ pins) σ Hi s' ∧ RH X.prog X.w X.K Hi hi ∧ Sub h hi ∧ Stp h H hi Hi ∧ Vals kvs kA.toList ∧ RVs X.K Hi kvs (ks.take i)) its 0 _
    ⟨#[], 0, H, h, [], I0, rh, Sub.refl _, Stp.refl _ _, .nil, by rw [List.take_zero]; exact .nil⟩ ?step ?done)
  case step =>
    rintro j x s' hx ⟨kA, e, Hi, hi, kvs, Ij, rhi, sub, st, vk, rk⟩
    rw [Nat.zero_add] at rk ⊢
    have hj : j < its.length := (List.getElem?_eq_some_iff.mp hx).1
    have hjp : j < ps.length := by omega
    have hjk : j < ks.length := by omega
    obtain ⟨w, hw, rwp⟩ := q1.get (List.getElem?_eq_getElem hjp)
    obtain ⟨u, hu, ru⟩ := rv.get hw
    obtain rfl : u = x := Option.some.inj (hu.symm.trans hx)
    have tj := turn j _ _ (List.getElem?_eq_getElem hjp) (List.getElem?_eq_getElem hjk) hi sub
    have hsp : spOf X.prog X.w X.K r [w] Hi (fun v H2 => ∃ h2, RV X.K H2 v ks[j] ∧ RH X.prog X.w X.K H2 h2 ∧ Sub hi h2 ∧ Stp hi Hi h2 H2) L2.E0 :=
      ⟨[ps[j]], hi, _, .cons (rwp.stp rh st) .nil, rhi, tj, fun y h2 ⟨ey, sub2⟩ v H2 s2 rv2 rh2 => ⟨h2, ey ▸ rv2, rh2, sub2, s2⟩⟩
    have hrA : Room k X.A.in1.in1 := (Room.in1 (Room.in1 (hr.mono (Nat.le_refl (k + 1 + 1)))))
    refine wpAny_bind (wpAny_attempt (wpAny_mono (E := fun _ _ => False) (Q := EP X ([(kS, seqObj "list" kA e), (D, seqObj "list" #[] e1)] ++ pins) σ (fun v H2 => ∃ h2, RV X.K H2 v ks[j] ∧ RH X.prog X.w X.K H2 h2 ∧ Sub hi h2 ∧ Stp hi Hi h2 H2)) (wpAny_call (codeAny_mono (F.run X.A.in1.in1 X.stack s' Hi ⟨[u], []⟩ [u] [w] _ L2.E0 hrA Ij.env0.in1.in1 (hb s' [u] Ij.kIn (F.len _ _ _ _ hsp)) (.cons ru .nil) hsp) fun rr s2 hq => ?_)) (fun v s'' he => ?_) fun _ _ hF => hF.elim))
    · cases rr with
      | error ex => exact False.elim hq
      | ok fl =>
        cases fl with
        | ret u => exact Ij.after hq
        | next => exact False.elim hq
        | brk => exact False.elim hq
        | cont => exact False.elim hq
    · obtain ⟨kv, H2, I2, rk2, h2, rv2, rh2, sub2, st2⟩ := he
      have pS := I2.pin (kS, seqObj "list" kA e) (by simp)
      have pD := I2.pin (D, seqObj "list" #[] e1) (by simp)
      have lA : kA.size = j := by
        have a1 : kvs.length = kA.toList.length := vk.length
        have a2 : kvs.length = (ks.take j).length := rk.length
        have a3 : kA.toList.length = kA.size := Array.length_toList
        rw [List.length_take, Nat.min_eq_left (Nat.le_of_lt hjk)] at a2
        omega
      obtain ⟨c2, hc2⟩ : ∃ c2, (s''.heap.update kS (Obj.mapSeq (·.push v))).get? kS = some (seqObj "list" (kA.push v) c2) := ⟨_, get?_update_seq pS.1 (·.push v)⟩
      refine wpAny_bind (listUpdate_at pS.1 rfl ?_ (by omega) (by simp; omega))
      have I3 : Inv X ((D, seqObj "list" #[] e1) :: pins) σ H2 { s'' with heap := s''.heap.update kS (Obj.mapSeq (·.push v)) } :=
        (Inv_unpin (more := [(kS, seqObj "list" kA e)]) (pins := (D, seqObj "list" #[] e1) :: pins) I2).turned (t' := s''.toks) (it := kS) (fun b o hb e => (Heap.get?_update_ne _ _ _ _ hb).trans e) pS.2.1 fS.2.1 fS.2.2.2.1 fS.2.2.2.2.1 fun p hp => by
          rcases List.mem_append.mp hp with z0 | z0
          · exact fS.2.2.2.2.2 p (List.mem_append.mpr (.inl z0))
          · rcases List.mem_cons.mp z0 with z1 | z
            · subst z1; exact nDS.symm
            · exact fS.2.2.2.2.2 p (List.mem_append.mpr (.inr z))
      refine wpAny_pure ⟨rfl, kA.push v, c2, H2, h2, kvs ++ [kv], Inv_pin (more := [(kS, seqObj "list" (kA.push v) c2)]) (pins := (D, seqObj "list" #[] e1) :: pins) I3 (fun p hp => ?_), rh2, sub.trans sub2, st.trans st2, ?_, ?_⟩
      · obtain rfl := List.mem_singleton.mp hp
        exact ⟨hc2, pS.2.1, fS.2.1, fS.2.2.1, nofun⟩
      · rw [Array.toList_push]
        exact vk.append (.cons rk2 .nil)
      · rw [List.take_add_one, List.getElem?_eq_getElem hjk]
        exact (rk.stp rhi st2).append (.cons rv2 .nil)
  case done =>
    rintro s' ⟨kA, e, Hi, hi, kvs, Ij, rhi, sub, st, vk, rk⟩
    rw [Nat.zero_add, List.take_of_length_le (by omega)] at rk
    have pS := Ij.pin (kS, seqObj "list" kA e) (by simp)
    have pD := Ij.pin (D, seqObj "list" #[] e1) (by simp)
    have I4 : Inv X pins σ Hi s' := Inv_unpin Ij
    have okk := ok
    unfold sortOk at okk
    simp only [Bool.and_eq_true] at okk
    have vK : VPs s'.heap ks kA.toList := RVs.vp Ij ks kvs kA.toList rk okk.1.1.1 vk
    have vP : VPs s'.heap ps its := RVs.vp Ij ps ws its (q1.stp rh st) pl rv
    have lA : kA.size = its.length := by
      have a1 : kvs.length = kA.toList.length := vk.length
      have a2 : kvs.length = ks.length := rk.length
      have a3 : kA.toList.length = kA.size := Array.length_toList
      omega
    refine wpAny_bind (listItems_at pS.1 rfl ?_)
    have tail : ∀ st' : SortSt, SrtO.Srtd (SrtO.lt2 (ltD s'.heap)) (arrOf st').toList → SrtO.Stb (SrtO.lt2 (ltD s'.heap)) (arrOf st').toList (kA.zip its.toArray).toList → failedOf st' = none →
        wpAny (model X.prog X.w) X.A.in1.in1 (PyProof.Rows.ksk_tail D false e1 (.ref kS) st') (fun f s' => f = .done (.ret .none) ∧ EP X pins σ Q (.ref D) s') E' s' := by
      intro st' h1 h2 hf
      have mem : ∀ p ∈ (arrOf st').toList, p.1 ∈ kA.toList ∧ p.2 ∈ its := fun p hp => by
        have q := h2.perm.mem_iff.mp hp
        rw [Array.toList_zip] at q
        exact ⟨List.of_mem_zip q |>.1, by simpa using (List.of_mem_zip q).2⟩
      have outm : ∀ u ∈ ((arrOf st').map (·.2)).toList, u ∈ its := fun u hu => by
        rw [Array.toList_map] at hu
        obtain ⟨p, hp, rfl⟩ := List.mem_map.mp hu
        exact (mem p hp).2
      have len : ((arrOf st').map (·.2)).size = its.length := by
        have q := h2.perm.length_eq
        have a3 : (arrOf st').toList.length = (arrOf st').size := Array.length_toList
        have a4 : (kA.zip its.toArray).toList.length = (kA.zip its.toArray).size := Array.length_toList
        have a5 : kA.toList.length = kA.size := Array.length_toList
        have a6 : its.toArray.size = its.length := by simp
        rw [Array.size_zip] at a4
        rw [Array.size_map]
        omega
      obtain ⟨ys, y1, y2⟩ := back_rvs (q1.stp rh st) rv vP ((arrOf st').map (·.2)).toList outm
      let dc : Value × Value → PV × PV := fun p => (dec s'.heap p.1, dec s'.heap p.2)
      have zipE : (kA.zip its.toArray).toList.map dc = ks.zip ps := by
        rw [Array.toList_zip]
        show (kA.toList.zip its).map dc = _
        rw [← vps_map vK, ← vps_map vP, List.zip_map]
        rfl
      have srt : SrtO.Srtd ltK ((arrOf st').toList.map dc) := SrtO.srtd_map h1
      have stb : SrtO.Stb ltK ((arrOf st').toList.map dc) (ks.zip ps) := by
        have q : SrtO.Stb ltK ((arrOf st').toList.map dc) ((kA.zip its.toArray).toList.map dc) := SrtO.Stb.map ltK_swo dc h2
        rw [zipE] at q
        exact q
      have snd : ((arrOf st').toList.map dc).map Prod.snd = ((arrOf st').map (·.2)).toList.map (dec s'.heap) := by
        rw [Array.toList_map, List.map_map, List.map_map]
        rfl
      have na1 : (s'.heap.update kS (Obj.mapSeq fun _ => #[])).get? D = some (seqObj "list" #[] e1) := (Heap.get?_update_ne _ _ _ _ nDS.symm).trans pD.1
      obtain ⟨c2, hc2⟩ : ∃ c2, ((s'.heap.update kS (Obj.mapSeq fun _ => #[])).update D (Obj.mapSeq fun _ => (arrOf st').map (·.2))).get? D = some (seqObj "list" ((arrOf st').map (·.2)) c2) := ⟨_, get?_update_seq na1 fun _ => (arrOf st').map (·.2)⟩
      have ysl : ys.length ≤ sizeLine := by
        have q : ys.length = ((arrOf st').map (·.2)).toList.length := y1.length
        have a4 : ((arrOf st').map (·.2)).toList.length = ((arrOf st').map (·.2)).size := Array.length_toList
        omega
      unfold PyProof.Rows.ksk_tail
      dsimp only
      refine wpAny_bind (listUpdate_at pS.1 rfl ?_ (by omega) (Nat.zero_le _))
      refine wpAny_bind (wpAny_letGo (wpAny_bind (seqEpoch_at na1 rfl ?_)))
      refine wpAny_bind (listUpdate_at na1 rfl ?_ (Nat.zero_le _) (by simp only [Bool.false_eq_true, if_false]; omega))
      rw [hf]
      simp only [bne_self_eq_false, if_false, Bool.false_eq_true]
      refine wpAny_pure ⟨rfl, .ref D, upd Hi D (.lst ys), ?_, rfl, ?_⟩
      · refine Inv_adopt (ch := [kS, D]) (t' := s'.toks) I4 (by simp) (fun b hb => ?_) (fun b o hb e => ?_) ⟨ysl, _, c2, y1, by rw [Array.toArray_toList]; exact hc2⟩
        · rcases List.mem_cons.mp hb with z | z
          · subst z; exact ⟨pS.2.1, fS.2⟩
          · obtain rfl := List.mem_singleton.mp z
            exact ⟨pD.2.1, fD.2⟩
        · have n1 : b ≠ kS := fun z => hb (by simp [z])
          have n2 : b ≠ D := fun z => hb (by simp [z])
          exact (Heap.get?_update_ne _ _ _ _ n2).trans ((Heap.get?_update_ne _ _ _ _ n1).trans e)
      · have nD : h D = none := rh.free fD.1
        have rh0 := rhi.sub sub
        have st0 : Stp h Hi (up h D (.lst (((arrOf st').toList.map dc).map Prod.snd))) (upd Hi D (.lst ys)) := stp_new rh0 pD.2.1
        refine kk _ _ (fin D _ nD srt stb) _ _ (fun b o eb nb => ?_) (.ref D) (rh0.put st0 ⟨ys, upd_same, ysl, by rw [snd]; exact y2.stp rh0 st0⟩)
        have ne : b ≠ D := fun z => by subst z; rw [fD.1] at eb; cases eb
        obtain ⟨g1', g2'⟩ := st b o eb nb
        exact ⟨by rw [upd_ne ne]; exact g1', by rw [up_ne ne]; exact nb⟩
    unfold PyProof.Rows.ksk_end
    try dsimp only
    simp only [if_false, Bool.false_eq_true]
    by_cases h2 : its.toArray.size < 2
    · rw [if_pos h2, if_pos h2]
      refine wpAny_bind (wpAny_pure (?_ : wpAny _ _ _ _ _ _))
      rw [StateT.run_pure]
      refine wpAny_bind (wpAny_pure (?_ : wpAny _ _ _ _ _ _))
      try dsimp only
      refine tail (SortSt.mk' general' (kA.zip its.toArray) #[] 7 none) ?_ (SrtO.Stb.refl _) rfl
      show SrtO.Srtd _ (kA.zip its.toArray).toList
      have zl : (kA.zip its.toArray).toList.length < 2 := by
        have a4 : (kA.zip its.toArray).toList.length = (kA.zip its.toArray).size := Array.length_toList
        rw [Array.size_zip] at a4
        omega
      generalize (kA.zip its.toArray).toList = z at zl
      match z, zl with
      | [], _ => exact .nil
      | [z0], _ => exact List.pairwise_singleton _ _
    · rw [if_neg h2, if_neg h2]
      rw [List.size_toArray] at h2
      have ku : 2 ≤ kA.toList.length := by
        have a3 : kA.toList.length = kA.size := Array.length_toList
        omega
      obtain ⟨κ, hkind, hT⟩ := sortable_pv (prog := X.prog) (w := X.w) (A := X.A.in1.in1) (s := s') (a := D) vK vK ok ku (by have := hr.un; show X.A.units + 1 + 1 + 60 < cLine; omega) (fun o eo => by rw [pD.1] at eo; cases eo; exact fun z => absurd (Value.type.inj z) (by decide)) s'.heap (fun b o _ eo => eo)
      rw [Array.toArray_toList] at hkind
      refine wpAny_bind (hkind _ E' ?_)
      have hall : SrtO.AllL (fun p : Keyed => p.1 ∈ kA.toList) (kA.zip its.toArray).toList := fun p hm => by
        rw [Array.toList_zip] at hm
        exact (List.of_mem_zip hm).1
      refine wpAny_bind (wpAny_mono (SrtO.wpS_sortO (st0 := SortSt.mk' κ (kA.zip its.toArray) #[] 7 none) (Q := fun _ st' => SrtO.Srtd (SrtO.lt2 (ltD s'.heap)) (arrOf st').toList ∧ SrtO.Stb (SrtO.lt2 (ltD s'.heap)) (arrOf st').toList (kA.zip its.toArray).toList ∧ failedOf st' = none)
        (SrtO.swo2 (ltD_swo s'.heap)) hT rfl hall rfl rfl fun st' a1 a2 a3 => ⟨a1, a2, a3⟩) ?_ fun _ _ e => e)
      rintro ⟨⟨⟩, st'⟩ s2 ⟨rfl, b1, b2, b3⟩
      try dsimp only
      exact tail st' b1 b2 b3
end G

set_option maxHeartbeats 4000001
namespace G
open PySem PySem.Spec
open PyProof.Rows L2

/-! ### sorted(e, key=f) over trees -/
def zSortKO (r : ZC) (o : Option PO) (h : PH) (Q : QV) : Prop := match o with
  | some (.lst ps) => ∃ ks : List PV, PV.pls ps = true ∧ ks.length = ps.length ∧ sortOk ks = true ∧ (∀ (i : Nat) (p q : PV), ps[i]? = some p → ks[i]? = some q → ∀ h', Sub h h' → r [p] h' fun y h2 => y = q ∧ Sub h' h2) ∧
      ∀ d out, h d = none → SrtO.Srtd ltK out → SrtO.Stb ltK out (ks.zip ps) → Q (.ref d) (up h d (.lst (out.map Prod.snd)))
  | _ => False
def zSortKI (r : ZC) (ps : List PV) (h : PH) (Q : QV) : Prop := match ps with
  | [.ref a] => zSortKO r (h a) h Q
  | _ => False
def zSortK (r : ZC) (ta : ZA) : ZE := fun ρ h Q => ta ρ h fun ps h1 => zSortKI r ps h1 Q
theorem qe_sortK {X : Cx} {k : Nat} {x : Str} {r : ZC} {e : Expr} {ta : ZA} {p p2 kpos pos : Pos} (hc : X.calm = true) (F : QF X.prog X.w X.K X.mg X.base k x 1 r) (hr : Room (k + 2) X.A) (hn : nmOk x = true) (hx : Gl X x) (hg : Gl X "sorted") (hm : X.mg "sorted" = none) (ha : QA X [e] ta)
    (he : backTo pos (starEach [e] X.env) = (false, eval e X.env) :: backTo pos (starEach [] X.env)) (hpl : (backTo pos (starEach [e] X.env)).any (·.1) = false) :
    QE X (.Call (.Name "sorted" p) [e] [⟨some "key", .Name x p2, kpos⟩] pos) (zSortK r ta) := by
  obtain ⟨f, fd, prm, F, hf, hk, hb⟩ := F.ex
  have hk1 : PE X (.Name x p2) (tC (.ref f)) := pe_glob hx hf rfl (nm1 hn)
  let rr : List V → List V → Hp → VK → Prop := fun xs zs H Q => zs = [.ref f] ∧ ∃ pps h Qp, RVs X.K H xs pps ∧ RH X.prog X.w X.K H h ∧ zSortKI r pps h Qp ∧ Thn X.prog X.w X.K h H Qp Q
  have cr : CallRK X (.builtin "sorted") [Str.ofString "key"] rr := by
    intro pins s σ H xs zs us ws Q I rx rz ⟨ez, pps, h, Qp, rp, rh, t, kk⟩
    subst ez
    obtain ⟨u, rfl, ru⟩ := rz.one
    obtain rfl : u = Value.ref f := ru
    unfold zSortKI at t
    split at t
    · rename_i a
      obtain ⟨v, rfl, rv⟩ := rvs_one rp
      cases rv
      obtain ⟨u2, rfl, ru2⟩ := rx.one
      obtain rfl : u2 = Value.ref a := ru2
      unfold zSortKO at t
      split at t
      · rename_i ps ea
        obtain ⟨ks, t1, t2, t3, t4, t5⟩ := t
        exact call_sortKey hr F hb I rh ea t1 t2 t3 t4 t5 kk
      · exact False.elim t
    · exact False.elim t
  refine peI (pe_callBK (x := "sorted") cr hg hm (by decide +kernel) ha (pk_cons (nm := some "key") hk1 pk_nil) (by decide) (by decide) he hpl rfl rfl rfl) fun σ H Q ⟨ρ, h, Qp, rs, rh, t, kk⟩ => ?_
  refine ⟨ρ, h, _, rs, rh, t, fun ps h1 t1 vs H1 s1 r1 rh1 => ?_⟩
  exact ⟨rfl, ps, h1, Qp, r1, rh1, t1, kk.later s1⟩
theorem zSortK_x {r : ZC} {ta : ZA} {ρ : Ev} {h : PH} {Q : QV} : zSortK r ta ρ h Q = ta ρ h fun ps h1 => zSortKI r ps h1 Q := rfl
theorem zSortKI_r {r : ZC} {a : Addr} {h : PH} {Q : QV} : zSortKI r [.ref a] h Q = zSortKO r (h a) h Q := rfl
end G

section
open PySem PySem.Spec PyProof.Rows L2 G
local macro_rules | `(tactic| simp! [$ts,*]) => `(tactic| try simp only [zEqO_l, zAddO_l, zEq_r, zEq_tt, zEq_ti, zEq_it, zIs_n, zIsN_n, zFn_x, zSeq_asg, zSeq_drop, zNext_x, zBrk_x, zCont_x, zDrop_x, zRet_x, zRetN_x, zIfS_x, zAsg_x, zgName_x, zgTup_t, zgCons_c, zgNil_n, zgSub_x, zVar_x, zC_x, z2_x, zAdd_i, zAdd_s, zAdd_t, zAdd_r, zSub_i, zDiv_i, zMod_i, zMul_i, zPow_i, zLt_i, zLe_i, zGt_i, zGe_i, zEq_str, zEq_int, zNe_str, zNe_int, zIx_r, zIx_t, zIx_s, zIxO_l, zIxO_d,   zSet_r, zSetO_l, zSetO_d, ztB_ok, ztBI_b, ztOf_x, ztAnd_x, ztOr_x, ztNot_x, ztYes_x, zTr_r, zTr_n, zTr_b, zTr_i, zTr_s, zTr_t, zTrO_l, zTrO_d, zAnd_x, zOr_x, zNt_x, zIf_x, zNeg_ok, zNegI_i, zaNil_x, zaCons_x, zTup_x, zLst_x, zSl_x, zoNone_x, zoSome_ok, zoI_i, zSlV_r, zSlV_t, zSlV_s, zSlO_l, zCall_x, zLen_r, zLen_t, zLen_s, zLenO_l, zLenO_d, zAbs_i, zInt_i, zInt_b, zMax_i, zMin_i,   zTupC_r, zTupC_t, zTupO_l, zListC_r, zListC_t, zListC_s, zListO_l, zListO_d, zSum_r, zSumO_l, zAll_r, zAllO_l, zSorted_r, zSortO_l, zSortO_d, zAny_r, zAnyC_l, zAny_t, zMul_r, zMulO_l, zMul_t, zInn_x, zHas_r, zHas_t, zHasO_l, zHasO_d, zMt_r, tyP_r, tyO_l, tyO_d, zAppend_r, zAppO_l, zIsa_ok, zIsa_n, zIsa_b, zIsa_i, zIsa_s, zIsa_t, up_same, up_up, at0, at1, at2, at3, at4, at5, ix0, ix1, ix2, ix3,   List.getElem?_cons_zero, List.getElem?_cons_succ, List.set_cons_zero, List.set_cons_succ, List.map_cons, List.map_nil, List.cons_append, List.nil_append, List.replicate, List.length_cons, List.length_nil, Option.some.injEq, exists_eq_left', true_and, and_true, Nat.reduceAdd, Nat.reduceSub, PO.lst.injEq, decide_true, decide_false, if_true, Bool.false_eq_true, if_false, reduceCtorEq, $ts,*])
local macro_rules | `(tactic| dsimp! [$ts,*]) => `(tactic| simp! [zDispN_x, zPairs_n, zPairs_c, zFor_x, zsAny_x, zsAnyI_t, zsAnyI_r, zsAnyO_l, zsAnyO_d, zsR1_x, zsR1I_i, zsR2_x, zsR2I_i, zLc_x, Tg.z, Tgs.z, Tgs.len, zwipe, $ts,*])
/-! ### toldinwaves_k81_shortest_walks: the text -/
namespace K81
open PySem PySem.Spec PyProof.Rows L2 G
def top (i : Nat) : Stmt := PySem.Challenge.pw_toldinwaves_k81_shortest_walks.main.body.getD i (.Pass ⟨0, 0, 0, 0⟩)
abbrev s_references_in : Stmt := top 1
def N_references_in : List Str := ["expression", "found", "part"]
theorem S_references_in : FnScope N_references_in ["expression"] (defScope s_references_in) := ⟨rfl, rfl, rfl, by decide +kernel, rfl, by decide +kernel, by decide +kernel⟩
abbrev s_is_integer : Stmt := top 3
def N_is_integer : List Str := ["datum"]
theorem S_is_integer : FnScope N_is_integer ["datum"] (defScope s_is_integer) := ⟨rfl, rfl, rfl, by decide +kernel, rfl, by decide +kernel, by decide +kernel⟩
abbrev s_is_count : Stmt := top 4
def N_is_count : List Str := ["datum"]
theorem S_is_count : FnScope N_is_count ["datum"] (defScope s_is_count) := ⟨rfl, rfl, rfl, by decide +kernel, rfl, by decide +kernel, by decide +kernel⟩
abbrev s_shifted : Stmt := top 6
def N_shifted : List Str := ["place", "offsets", "at", "step"]
theorem S_shifted : FnScope N_shifted ["place", "offsets"] (defScope s_shifted) := ⟨rfl, rfl, rfl, by decide +kernel, rfl, by decide +kernel, by decide +kernel⟩
abbrev s_rule_names : Stmt := top 8
def N_rule_names : List Str := ["table", "row"]
theorem S_rule_names : FnScope N_rule_names ["table"] (defScope s_rule_names) := ⟨rfl, rfl, rfl, by decide +kernel, rfl, by decide +kernel, by decide +kernel⟩
abbrev s_edges_of : Stmt := top 9
def N_edges_of : List Str := ["table", "names", "found", "name", "rim", "expression", "kind", "other", "offsets"]
theorem S_edges_of : FnScope N_edges_of ["table"] (defScope s_edges_of) := ⟨rfl, rfl, rfl, by decide +kernel, rfl, by decide +kernel, by decide +kernel⟩
abbrev s_Walks_init : Stmt := clsAt (top 11) 0
def N_Walks_init : List Str := ["self", "table", "name"]
theorem S_Walks_init : FnScope N_Walks_init ["self", "table", "name"] (defScope s_Walks_init) := ⟨rfl, rfl, rfl, by decide +kernel, rfl, by decide +kernel, by decide +kernel⟩
abbrev s_Walks_longer : Stmt := clsAt (top 11) 1
def N_Walks_longer : List Str := ["self", "found", "place", "walk", "number", "one", "other", "offsets", "target"]
theorem S_Walks_longer : FnScope N_Walks_longer ["self"] (defScope s_Walks_longer) := ⟨rfl, rfl, rfl, by decide +kernel, rfl, by decide +kernel, by decide +kernel⟩
abbrev s_Walks_step : Stmt := clsAt (top 11) 2
def N_Walks_step : List Str := ["self", "place"]
theorem S_Walks_step : FnScope N_Walks_step ["self"] (defScope s_Walks_step) := ⟨rfl, rfl, rfl, by decide +kernel, rfl, by decide +kernel, by decide +kernel⟩
abbrev s_shortest_from : Stmt := top 12
def N_shortest_from : List Str := ["table", "name", "most", "walks", "many", "found"]
theorem S_shortest_from : FnScope N_shortest_from ["table", "name", "most"] (defScope s_shortest_from) := ⟨rfl, rfl, rfl, by decide +kernel, rfl, by decide +kernel, by decide +kernel⟩
abbrev s_walk_order : Stmt := top 13
def N_walk_order : List Str := ["walk"]
theorem S_walk_order : FnScope N_walk_order ["walk"] (defScope s_walk_order) := ⟨rfl, rfl, rfl, by decide +kernel, rfl, by decide +kernel, by decide +kernel⟩
abbrev s_shortest_walk : Stmt := top 14
def N_shortest_walk : List Str := ["table", "most", "found", "name", "walk"]
theorem S_shortest_walk : FnScope N_shortest_walk ["table", "most"] (defScope s_shortest_walk) := ⟨rfl, rfl, rfl, by decide +kernel, rfl, by decide +kernel, by decide +kernel⟩
abbrev s_sums_along : Stmt := top 16
def N_sums_along : List Str := ["table", "edges", "walk", "sums", "number", "at", "step"]
theorem S_sums_along : FnScope N_sums_along ["table", "edges", "walk"] (defScope s_sums_along) := ⟨rfl, rfl, rfl, by decide +kernel, rfl, by decide +kernel, by decide +kernel⟩
abbrev s_shows_walk : Stmt := top 17
def N_shows_walk : List Str := ["table", "datum", "edges", "one", "other", "number"]
theorem S_shows_walk : FnScope N_shows_walk ["table", "datum"] (defScope s_shows_walk) := ⟨rfl, rfl, rfl, by decide +kernel, rfl, by decide +kernel, by decide +kernel⟩
abbrev s__law_start : Stmt := top 19
def N__law_start : List Str := ["script"]
theorem S__law_start : FnScope N__law_start ["script"] (defScope s__law_start) := ⟨rfl, rfl, rfl, by decide +kernel, rfl, by decide +kernel, by decide +kernel⟩
abbrev s__law_draw : Stmt := top 20
def N__law_draw : List Str := ["state", "most", "found", "cell", "mixed"]
theorem S__law_draw : FnScope N__law_draw ["state", "most"] (defScope s__law_draw) := ⟨rfl, rfl, rfl, by decide +kernel, rfl, by decide +kernel, by decide +kernel⟩
abbrev s__law_one_of : Stmt := top 21
def N__law_one_of : List Str := ["state", "items"]
theorem S__law_one_of : FnScope N__law_one_of ["state", "items"] (defScope s__law_one_of) := ⟨rfl, rfl, rfl, by decide +kernel, rfl, by decide +kernel, by decide +kernel⟩
abbrev s__law_shuffled : Stmt := top 22
def N__law_shuffled : List Str := ["state", "items", "found", "item"]
theorem S__law_shuffled : FnScope N__law_shuffled ["state", "items"] (defScope s__law_shuffled) := ⟨rfl, rfl, rfl, by decide +kernel, rfl, by decide +kernel, by decide +kernel⟩
abbrev s__law_words : Stmt := top 23
def N__law_words : List Str := ["state", "many", "letters", "start", "step", "shared", "k"]
theorem S__law_words : FnScope N__law_words ["state", "many"] (defScope s__law_words) := ⟨rfl, rfl, rfl, by decide +kernel, rfl, by decide +kernel, by decide +kernel⟩
abbrev s__law_is_int : Stmt := top 24
def N__law_is_int : List Str := ["x"]
theorem S__law_is_int : FnScope N__law_is_int ["x"] (defScope s__law_is_int) := ⟨rfl, rfl, rfl, by decide +kernel, rfl, by decide +kernel, by decide +kernel⟩
abbrev s__law_same : Stmt := top 25
def N__law_same : List Str := ["x", "y", "k"]
theorem S__law_same : FnScope N__law_same ["x", "y"] (defScope s__law_same) := ⟨rfl, rfl, rfl, by decide +kernel, rfl, by decide +kernel, by decide +kernel⟩
abbrev s__law_offsets : Stmt := top 26
def N__law_offsets : List Str := ["state", "many", "most", "k"]
theorem S__law_offsets : FnScope N__law_offsets ["state", "many", "most"] (defScope s__law_offsets) := ⟨rfl, rfl, rfl, by decide +kernel, rfl, by decide +kernel, by decide +kernel⟩
abbrev s__law_some_part : Stmt := top 27
def N__law_some_part : List Str := ["state", "w", "depth", "pick", "one", "other", "sign"]
theorem S__law_some_part : FnScope N__law_some_part ["state", "w", "depth"] (defScope s__law_some_part) := ⟨rfl, rfl, rfl, by decide +kernel, rfl, by decide +kernel, by decide +kernel⟩
abbrev s__law_leaf : Stmt := top 28
def N__law_leaf : List Str := ["state", "w", "pick", "other", "offsets"]
theorem S__law_leaf : FnScope N__law_leaf ["state", "w"] (defScope s__law_leaf) := ⟨rfl, rfl, rfl, by decide +kernel, rfl, by decide +kernel, by decide +kernel⟩
abbrev s__law_slope : Stmt := top 29
def N__law_slope : List Str := ["w", "name", "other", "offsets", "total", "k"]
theorem S__law_slope : FnScope N__law_slope ["w", "name", "other", "offsets"] (defScope s__law_slope) := ⟨rfl, rfl, rfl, by decide +kernel, rfl, by decide +kernel, by decide +kernel⟩
abbrev s__law_rim : Stmt := top 30
def N__law_rim : List Str := ["state"]
theorem S__law_rim : FnScope N__law_rim ["state"] (defScope s__law_rim) := ⟨rfl, rfl, rfl, by decide +kernel, rfl, by decide +kernel, by decide +kernel⟩
abbrev s__law_given_row : Stmt := top 31
def N__law_given_row : List Str := ["state", "name", "rim", "low", "high"]
theorem S__law_given_row : FnScope N__law_given_row ["state", "name"] (defScope s__law_given_row) := ⟨rfl, rfl, rfl, by decide +kernel, rfl, by decide +kernel, by decide +kernel⟩
abbrev s__law_table_world : Stmt := top 32
def N__law_table_world : List Str := ["state", "many", "rules", "givens", "words", "w"]
theorem S__law_table_world : FnScope N__law_table_world ["state", "many", "rules", "givens"] (defScope s__law_table_world) := ⟨rfl, rfl, rfl, by decide +kernel, rfl, by decide +kernel, by decide +kernel⟩
abbrev s__law_with_row : Stmt := top 33
def N__law_with_row : List Str := ["state", "w", "least", "name", "k"]
theorem S__law_with_row : FnScope N__law_with_row ["state", "w", "least"] (defScope s__law_with_row) := ⟨rfl, rfl, rfl, by decide +kernel, rfl, by decide +kernel, by decide +kernel⟩
abbrev s__law_rules_of : Stmt := top 34
def N__law_rules_of : List Str := ["state", "w", "depth", "rules", "name", "givens"]
theorem S__law_rules_of : FnScope N__law_rules_of ["state", "w", "depth"] (defScope s__law_rules_of) := ⟨rfl, rfl, rfl, by decide +kernel, rfl, by decide +kernel, by decide +kernel⟩
abbrev s__law_refs : Stmt := top 35
def N__law_refs : List Str := ["e", "found", "part"]
theorem S__law_refs : FnScope N__law_refs ["e"] (defScope s__law_refs) := ⟨rfl, rfl, rfl, by decide +kernel, rfl, by decide +kernel, by decide +kernel⟩
abbrev s__law_at_offsets : Stmt := top 36
def N__law_at_offsets : List Str := ["place", "offsets", "k"]
theorem S__law_at_offsets : FnScope N__law_at_offsets ["place", "offsets"] (defScope s__law_at_offsets) := ⟨rfl, rfl, rfl, by decide +kernel, rfl, by decide +kernel, by decide +kernel⟩
abbrev s__law_ring_table : Stmt := top 37
def N__law_ring_table : List Str := ["state", "w", "table", "names", "rules", "total", "k", "offsets", "cell", "e", "other", "kind", "x"]
theorem S__law_ring_table : FnScope N__law_ring_table ["state"] (defScope s__law_ring_table) := ⟨rfl, rfl, rfl, by decide +kernel, rfl, by decide +kernel, by decide +kernel⟩
abbrev s__law_own_edges : Stmt := top 38
def N__law_own_edges : List Str := ["table", "names", "found", "name", "rim", "e", "row", "kind", "other", "offsets"]
theorem S__law_own_edges : FnScope N__law_own_edges ["table"] (defScope s__law_own_edges) := ⟨rfl, rfl, rfl, by decide +kernel, rfl, by decide +kernel, by decide +kernel⟩
abbrev s__law_planted_ring : Stmt := top 39
def N__law_planted_ring : List Str := ["state", "table", "edges", "weights", "names", "k", "row", "i"]
theorem S__law_planted_ring : FnScope N__law_planted_ring ["state"] (defScope s__law_planted_ring) := ⟨rfl, rfl, rfl, by decide +kernel, rfl, by decide +kernel, by decide +kernel⟩
abbrev s__law_star_table : Stmt := top 40
def N__law_star_table : List Str := ["state", "names", "over", "many", "rows", "name", "turn", "walk", "total", "k", "offsets", "rules", "e", "cell", "x"]
theorem S__law_star_table : FnScope N__law_star_table ["state"] (defScope s__law_star_table) := ⟨rfl, rfl, rfl, by decide +kernel, rfl, by decide +kernel, by decide +kernel⟩
abbrev s__law_is_walk : Stmt := top 41
def N__law_is_walk : List Str := ["edges", "datum", "total", "k", "x"]
theorem S__law_is_walk : FnScope N__law_is_walk ["edges", "datum"] (defScope s__law_is_walk) := ⟨rfl, rfl, rfl, by decide +kernel, rfl, by decide +kernel, by decide +kernel⟩
abbrev s__law_cell_at : Stmt := top 42
def N__law_cell_at : List Str := ["name", "many", "steps", "offsets", "k", "step"]
theorem S__law_cell_at : FnScope N__law_cell_at ["name", "many", "steps"] (defScope s__law_cell_at) := ⟨rfl, rfl, rfl, by decide +kernel, rfl, by decide +kernel, by decide +kernel⟩
abbrev s__law_gadget : Stmt := top 43
def N__law_gadget : List Str := ["state", "names", "many", "across", "along", "sign", "x", "y", "step", "rows"]
theorem S__law_gadget : FnScope N__law_gadget ["state", "names", "many", "across", "along", "sign"] (defScope s__law_gadget) := ⟨rfl, rfl, rfl, by decide +kernel, rfl, by decide +kernel, by decide +kernel⟩
abbrev s__law_rules_by : Stmt := top 44
def N__law_rules_by : List Str := ["state", "rows", "rules", "name", "e", "cell"]
theorem S__law_rules_by : FnScope N__law_rules_by ["state", "rows"] (defScope s__law_rules_by) := ⟨rfl, rfl, rfl, by decide +kernel, rfl, by decide +kernel, by decide +kernel⟩
abbrev s__law_levelled : Stmt := top 45
def N__law_levelled : List Str := ["state", "words", "over", "levels", "turn", "rows", "axes", "other"]
theorem S__law_levelled : FnScope N__law_levelled ["state"] (defScope s__law_levelled) := ⟨rfl, rfl, rfl, by decide +kernel, rfl, by decide +kernel, by decide +kernel⟩
abbrev s__law_told_table : Stmt := top 46
def N__law_told_table : List Str := ["state", "pick", "w"]
theorem S__law_told_table : FnScope N__law_told_table ["state"] (defScope s__law_told_table) := ⟨rfl, rfl, rfl, by decide +kernel, rfl, by decide +kernel, by decide +kernel⟩
abbrev s__law_numbers_in : Stmt := top 47
def N__law_numbers_in : List Str := ["e", "found", "part"]
theorem S__law_numbers_in : FnScope N__law_numbers_in ["e"] (defScope s__law_numbers_in) := ⟨rfl, rfl, rfl, by decide +kernel, rfl, by decide +kernel, by decide +kernel⟩
abbrev s__law_token_count : Stmt := top 48
def N__law_token_count : List Str := ["over", "e", "kind", "total", "x", "part"]
theorem S__law_token_count : FnScope N__law_token_count ["over", "e"] (defScope s__law_token_count) := ⟨rfl, rfl, rfl, by decide +kernel, rfl, by decide +kernel, by decide +kernel⟩
abbrev s__law_can_be_read : Stmt := top 49
def N__law_can_be_read : List Str := ["over", "row", "head", "number"]
theorem S__law_can_be_read : FnScope N__law_can_be_read ["over", "row"] (defScope s__law_can_be_read) := ⟨rfl, rfl, rfl, by decide +kernel, rfl, by decide +kernel, by decide +kernel⟩
abbrev s__law_round_walks : Stmt := top 50
def N__law_round_walks : List Str := ["edges", "most", "walks", "length", "walk", "longer", "k"]
theorem S__law_round_walks : FnScope N__law_round_walks ["edges", "most"] (defScope s__law_round_walks) := ⟨rfl, rfl, rfl, by decide +kernel, rfl, by decide +kernel, by decide +kernel⟩
abbrev s_law : Stmt := top 51
def N_law : List Str := ["script", "state", "turn", "table", "edges", "most", "due"]
theorem S_law : FnScope N_law ["script"] (defScope s_law) := ⟨rfl, rfl, rfl, by decide +kernel, rfl, by decide +kernel, by decide +kernel⟩
theorem s_0 : Str.ofString "cell" = tS [99, 101, 108, 108] := by decide +kernel
theorem s_1 : Str.ofString "edges" = tS [101, 100, 103, 101, 115] := by decide +kernel
theorem s_2 : Str.ofString "origin" = tS [111, 114, 105, 103, 105, 110] := by decide +kernel
theorem s_3 : Str.ofString "here" = tS [104, 101, 114, 101] := by decide +kernel
theorem s_4 : Str.ofString "seen" = tS [115, 101, 101, 110] := by decide +kernel
theorem s_5 : Str.ofString "longer" = tS [108, 111, 110, 103, 101, 114] := by decide +kernel
theorem s_6 : Str.ofString "step" = tS [115, 116, 101, 112] := by decide +kernel
theorem s_7 : Str.ofString "abcdefghijklmnopqrstuvwxyz" = tS [97, 98, 99, 100, 101, 102, 103, 104, 105, 106, 107, 108, 109, 110, 111, 112, 113, 114, 115, 116, 117, 118, 119, 120, 121, 122] := by decide +kernel
theorem s_8 : Str.ofString "qxz" = tS [113, 120, 122] := by decide +kernel
theorem s_9 : Str.ofString "negate" = tS [110, 101, 103, 97, 116, 101] := by decide +kernel
theorem s_10 : Str.ofString "scale" = tS [115, 99, 97, 108, 101] := by decide +kernel
theorem s_11 : Str.ofString "greatest" = tS [103, 114, 101, 97, 116, 101, 115, 116] := by decide +kernel
theorem s_12 : Str.ofString "least" = tS [108, 101, 97, 115, 116] := by decide +kernel
theorem s_13 : Str.ofString "minus" = tS [109, 105, 110, 117, 115] := by decide +kernel
theorem s_14 : Str.ofString "plus" = tS [112, 108, 117, 115] := by decide +kernel
theorem s_15 : Str.ofString "!=" = tS [33, 61] := by decide +kernel
theorem s_16 : Str.ofString "==" = tS [61, 61] := by decide +kernel
theorem s_17 : Str.ofString ">=" = tS [62, 61] := by decide +kernel
theorem s_18 : Str.ofString ">" = tS [62] := by decide +kernel
theorem s_19 : Str.ofString "<=" = tS [60, 61] := by decide +kernel
theorem s_20 : Str.ofString "<" = tS [60] := by decide +kernel
theorem s_21 : Str.ofString "pick" = tS [112, 105, 99, 107] := by decide +kernel
theorem s_22 : Str.ofString "number" = tS [110, 117, 109, 98, 101, 114] := by decide +kernel
theorem s_23 : Str.ofString "many" = tS [109, 97, 110, 121] := by decide +kernel
theorem s_24 : Str.ofString "counter" = tS [99, 111, 117, 110, 116, 101, 114] := by decide +kernel
theorem s_25 : Str.ofString "room" = tS [114, 111, 111, 109] := by decide +kernel
theorem s_26 : Str.ofString "given_names" = tS [103, 105, 118, 101, 110, 95, 110, 97, 109, 101, 115] := by decide +kernel
theorem s_27 : Str.ofString "rule_names" = tS [114, 117, 108, 101, 95, 110, 97, 109, 101, 115] := by decide +kernel
theorem s_28 : Str.ofString "most" = tS [109, 111, 115, 116] := by decide +kernel
theorem s_29 : Str.ofString "row" = tS [114, 111, 119] := by decide +kernel
theorem s_30 : Str.ofString "name" = tS [110, 97, 109, 101] := by decide +kernel
theorem s_31 : Str.ofString "numbers" = tS [110, 117, 109, 98, 101, 114, 115] := by decide +kernel
theorem s_32 : Str.ofString "over" = tS [111, 118, 101, 114] := by decide +kernel
theorem s_33 : Str.ofString "_j" = tS [95, 106] := by decide +kernel
theorem s_34 : Str.ofString "_i" = tS [95, 105] := by decide +kernel
theorem n_0 : nmOk "expression" = true := by decide +kernel
theorem n_1 : nmOk "part" = true := by decide +kernel
theorem n_2 : nmOk "found" = true := by decide +kernel
theorem n_3 : nmOk "references_in" = true := by decide +kernel
theorem n_4 : nmOk "datum" = true := by decide +kernel
theorem n_5 : nmOk "is_integer" = true := by decide +kernel
theorem n_6 : nmOk "offsets" = true := by decide +kernel
theorem n_7 : nmOk "place" = true := by decide +kernel
theorem n_8 : nmOk "at" = true := by decide +kernel
theorem n_9 : nmOk "step" = true := by decide +kernel
theorem n_10 : nmOk "table" = true := by decide +kernel
theorem n_11 : nmOk "row" = true := by decide +kernel
theorem n_12 : nmOk "rule_names" = true := by decide +kernel
theorem n_13 : nmOk "other" = true := by decide +kernel
theorem n_14 : nmOk "names" = true := by decide +kernel
theorem n_15 : nmOk "name" = true := by decide +kernel
theorem n_16 : nmOk "self" = true := by decide +kernel
theorem n_17 : nmOk "edges_of" = true := by decide +kernel
theorem n_18 : nmOk "shifted" = true := by decide +kernel
theorem n_19 : nmOk "one" = true := by decide +kernel
theorem n_20 : nmOk "target" = true := by decide +kernel
theorem n_21 : nmOk "walk" = true := by decide +kernel
theorem n_22 : nmOk "number" = true := by decide +kernel
theorem n_23 : nmOk "Walks" = true := by decide +kernel
theorem n_24 : nmOk "most" = true := by decide +kernel
theorem n_25 : nmOk "walks" = true := by decide +kernel
theorem n_26 : nmOk "shortest_from" = true := by decide +kernel
theorem n_27 : nmOk "walk_order" = true := by decide +kernel
theorem n_28 : nmOk "sums" = true := by decide +kernel
theorem n_29 : nmOk "edges" = true := by decide +kernel
theorem n_30 : nmOk "is_count" = true := by decide +kernel
theorem n_31 : nmOk "sums_along" = true := by decide +kernel
theorem n_32 : nmOk "script" = true := by decide +kernel
theorem n_33 : nmOk "state" = true := by decide +kernel
theorem n_34 : nmOk "cell" = true := by decide +kernel
theorem n_35 : nmOk "mixed" = true := by decide +kernel
theorem n_36 : nmOk "items" = true := by decide +kernel
theorem n_37 : nmOk "_law_draw" = true := by decide +kernel
theorem n_38 : nmOk "item" = true := by decide +kernel
theorem n_39 : nmOk "many" = true := by decide +kernel
theorem n_40 : nmOk "shared" = true := by decide +kernel
theorem n_41 : nmOk "letters" = true := by decide +kernel
theorem n_42 : nmOk "start" = true := by decide +kernel
theorem n_43 : nmOk "k" = true := by decide +kernel
theorem n_44 : nmOk "x" = true := by decide +kernel
theorem n_45 : nmOk "y" = true := by decide +kernel
theorem n_46 : nmOk "_law_same" = true := by decide +kernel
theorem n_47 : nmOk "_law_is_int" = true := by decide +kernel
theorem n_48 : nmOk "depth" = true := by decide +kernel
theorem n_49 : nmOk "pick" = true := by decide +kernel
theorem n_50 : nmOk "w" = true := by decide +kernel
theorem n_51 : nmOk "_law_leaf" = true := by decide +kernel
theorem n_52 : nmOk "_law_some_part" = true := by decide +kernel
theorem n_53 : nmOk "sign" = true := by decide +kernel
theorem n_54 : nmOk "_law_offsets" = true := by decide +kernel
theorem n_55 : nmOk "_law_one_of" = true := by decide +kernel
theorem n_56 : nmOk "_law_slope" = true := by decide +kernel
theorem n_57 : nmOk "total" = true := by decide +kernel
theorem n_58 : nmOk "_law_rim" = true := by decide +kernel
theorem n_59 : nmOk "rim" = true := by decide +kernel
theorem n_60 : nmOk "high" = true := by decide +kernel
theorem n_61 : nmOk "low" = true := by decide +kernel
theorem n_62 : nmOk "rules" = true := by decide +kernel
theorem n_63 : nmOk "givens" = true := by decide +kernel
theorem n_64 : nmOk "_law_words" = true := by decide +kernel
theorem n_65 : nmOk "words" = true := by decide +kernel
theorem n_66 : nmOk "least" = true := by decide +kernel
theorem n_67 : nmOk "_law_given_row" = true := by decide +kernel
theorem n_68 : nmOk "e" = true := by decide +kernel
theorem n_69 : nmOk "_law_refs" = true := by decide +kernel
theorem n_70 : nmOk "_law_table_world" = true := by decide +kernel
theorem n_71 : nmOk "_law_rules_of" = true := by decide +kernel
theorem n_72 : nmOk "_law_at_offsets" = true := by decide +kernel
theorem n_73 : nmOk "kind" = true := by decide +kernel
theorem n_74 : nmOk "_law_can_be_read" = true := by decide +kernel
theorem n_75 : nmOk "_law_ring_table" = true := by decide +kernel
theorem n_76 : nmOk "_law_own_edges" = true := by decide +kernel
theorem n_77 : nmOk "weights" = true := by decide +kernel
theorem n_78 : nmOk "i" = true := by decide +kernel
theorem n_79 : nmOk "over" = true := by decide +kernel
theorem n_80 : nmOk "rows" = true := by decide +kernel
theorem n_81 : nmOk "steps" = true := by decide +kernel
theorem n_82 : nmOk "along" = true := by decide +kernel
theorem n_83 : nmOk "_law_cell_at" = true := by decide +kernel
theorem n_84 : nmOk "across" = true := by decide +kernel
theorem n_85 : nmOk "_law_shuffled" = true := by decide +kernel
theorem n_86 : nmOk "levels" = true := by decide +kernel
theorem n_87 : nmOk "turn" = true := by decide +kernel
theorem n_88 : nmOk "_law_gadget" = true := by decide +kernel
theorem n_89 : nmOk "axes" = true := by decide +kernel
theorem n_90 : nmOk "_law_rules_by" = true := by decide +kernel
theorem n_91 : nmOk "_law_levelled" = true := by decide +kernel
theorem n_92 : nmOk "_law_with_row" = true := by decide +kernel
theorem n_93 : nmOk "_law_numbers_in" = true := by decide +kernel
theorem n_94 : nmOk "_law_token_count" = true := by decide +kernel
theorem n_95 : nmOk "head" = true := by decide +kernel
theorem n_96 : nmOk "_law_is_walk" = true := by decide +kernel
theorem n_97 : nmOk "longer" = true := by decide +kernel
theorem n_98 : nmOk "_law_start" = true := by decide +kernel
theorem n_99 : nmOk "_law_told_table" = true := by decide +kernel
theorem n_100 : nmOk "_law_planted_ring" = true := by decide +kernel
theorem n_101 : nmOk "_law_star_table" = true := by decide +kernel
theorem n_102 : nmOk "_law_round_walks" = true := by decide +kernel
theorem n_103 : nmOk "due" = true := by decide +kernel
theorem n_104 : nmOk "shortest_walk" = true := by decide +kernel
theorem n_105 : nmOk "shows_walk" = true := by decide +kernel
/-- where the classes stand -/
structure Cl where
  Walks : Addr
/-- what the defs do -/
structure Cs where
  references_in : ZC
  is_integer : ZC
  is_count : ZC
  shifted : ZC
  rule_names : ZC
  edges_of : ZC
  Walks_init : ZC
  Walks_longer : ZC
  Walks_step : ZC
  shortest_from : ZC
  walk_order : ZC
  shortest_walk : ZC
  sums_along : ZC
  shows_walk : ZC
  _law_start : ZC
  _law_draw : ZC
  _law_one_of : ZC
  _law_shuffled : ZC
  _law_words : ZC
  _law_is_int : ZC
  _law_same : ZC
  _law_offsets : ZC
  _law_some_part : ZC
  _law_leaf : ZC
  _law_slope : ZC
  _law_rim : ZC
  _law_given_row : ZC
  _law_table_world : ZC
  _law_with_row : ZC
  _law_rules_of : ZC
  _law_refs : ZC
  _law_at_offsets : ZC
  _law_ring_table : ZC
  _law_own_edges : ZC
  _law_planted_ring : ZC
  _law_star_table : ZC
  _law_is_walk : ZC
  _law_cell_at : ZC
  _law_gadget : ZC
  _law_rules_by : ZC
  _law_levelled : ZC
  _law_told_table : ZC
  _law_numbers_in : ZC
  _law_token_count : ZC
  _law_can_be_read : ZC
  _law_round_walks : ZC
  law : ZC
/-- the defs can be called, and what else the bodies ask -/
structure Own (P : Program) (w : World) (K : PySem.W.Frag) (mg : Str → Option Value) (base : Heap) (k : Nat) (a : Cl) (c : Cs) : Prop where
  len : mg "len" = none
  abs : mg "abs" = none
  sum : mg "sum" = none
  all : mg "all" = none
  any : mg "any" = none
  sorted : mg "sorted" = none
  int : mg "int" = none
  tuple : mg "tuple" = none
  list : mg "list" = none
  range : mg "range" = none
  isinstance : mg "isinstance" = none
  str : mg "str" = none
  bool : mg "bool" = none
  enumerate : mg "enumerate" = none
  zip : mg "zip" = none
  c_Walks : Cls K a.Walks
  n_Walks_edges : NoAttr K a.Walks "edges"
  n_Walks_origin : NoAttr K a.Walks "origin"
  n_Walks_here : NoAttr K a.Walks "here"
  n_Walks_seen : NoAttr K a.Walks "seen"
  f_references_in : QF P w K mg base k "references_in" 1 c.references_in
  f_is_integer : QF P w K mg base k "is_integer" 1 c.is_integer
  f_is_count : QF P w K mg base k "is_count" 1 c.is_count
  f_shifted : QF P w K mg base k "shifted" 2 c.shifted
  f_rule_names : QF P w K mg base k "rule_names" 1 c.rule_names
  f_edges_of : QF P w K mg base k "edges_of" 1 c.edges_of
  f_Walks_init : QMk P w K mg base k "Walks" a.Walks c.Walks_init
  f_Walks_longer : QMe P w K mg base k a.Walks "longer" c.Walks_longer
  f_Walks_step : QMe P w K mg base k a.Walks "step" c.Walks_step
  f_shortest_from : QF P w K mg base k "shortest_from" 3 c.shortest_from
  f_walk_order : QF P w K mg base k "walk_order" 1 c.walk_order
  f_shortest_walk : QF P w K mg base k "shortest_walk" 2 c.shortest_walk
  f_sums_along : QF P w K mg base k "sums_along" 3 c.sums_along
  f_shows_walk : QF P w K mg base k "shows_walk" 2 c.shows_walk
  f__law_start : QF P w K mg base k "_law_start" 1 c._law_start
  f__law_draw : QF P w K mg base k "_law_draw" 2 c._law_draw
  f__law_one_of : QF P w K mg base k "_law_one_of" 2 c._law_one_of
  f__law_shuffled : QF P w K mg base k "_law_shuffled" 2 c._law_shuffled
  f__law_words : QF P w K mg base k "_law_words" 2 c._law_words
  f__law_is_int : QF P w K mg base k "_law_is_int" 1 c._law_is_int
  f__law_same : QF P w K mg base k "_law_same" 2 c._law_same
  f__law_offsets : QF P w K mg base k "_law_offsets" 3 c._law_offsets
  f__law_some_part : QF P w K mg base k "_law_some_part" 3 c._law_some_part
  f__law_leaf : QF P w K mg base k "_law_leaf" 2 c._law_leaf
  f__law_slope : QF P w K mg base k "_law_slope" 4 c._law_slope
  f__law_rim : QF P w K mg base k "_law_rim" 1 c._law_rim
  f__law_given_row : QF P w K mg base k "_law_given_row" 2 c._law_given_row
  f__law_table_world : QF P w K mg base k "_law_table_world" 4 c._law_table_world
  f__law_with_row : QF P w K mg base k "_law_with_row" 3 c._law_with_row
  f__law_rules_of : QF P w K mg base k "_law_rules_of" 3 c._law_rules_of
  f__law_refs : QF P w K mg base k "_law_refs" 1 c._law_refs
  f__law_at_offsets : QF P w K mg base k "_law_at_offsets" 2 c._law_at_offsets
  f__law_ring_table : QF P w K mg base k "_law_ring_table" 1 c._law_ring_table
  f__law_own_edges : QF P w K mg base k "_law_own_edges" 1 c._law_own_edges
  f__law_planted_ring : QF P w K mg base k "_law_planted_ring" 1 c._law_planted_ring
  f__law_star_table : QF P w K mg base k "_law_star_table" 1 c._law_star_table
  f__law_is_walk : QF P w K mg base k "_law_is_walk" 2 c._law_is_walk
  f__law_cell_at : QF P w K mg base k "_law_cell_at" 3 c._law_cell_at
  f__law_gadget : QF P w K mg base k "_law_gadget" 6 c._law_gadget
  f__law_rules_by : QF P w K mg base k "_law_rules_by" 2 c._law_rules_by
  f__law_levelled : QF P w K mg base k "_law_levelled" 1 c._law_levelled
  f__law_told_table : QF P w K mg base k "_law_told_table" 1 c._law_told_table
  f__law_numbers_in : QF P w K mg base k "_law_numbers_in" 1 c._law_numbers_in
  f__law_token_count : QF P w K mg base k "_law_token_count" 2 c._law_token_count
  f__law_can_be_read : QF P w K mg base k "_law_can_be_read" 2 c._law_can_be_read
  f__law_round_walks : QF P w K mg base k "_law_round_walks" 2 c._law_round_walks
  f_law : QF P w K mg base k "law" 1 c.law
def b_references_in (a : Cl) (c : Cs) : ZS :=
    (zSeq (zIfS (ztB (z2 zEq (z2 zIx (zVar 0) (zC (.int 0))) (zC (.str [99, 101, 108, 108])))) (zRet (zLst (zaCons (zVar 0) zaNil))) zNext)
    (zSeq (zAsg (zLst zaNil) (zgName 1))
    (zSeq (zFor (zsAny (zSl (zVar 0) (zoSome (zC (.int 1))) zoNone)) (zgName 2) (zIfS (ztOf (zIsa .tuple (zVar 2))) (zDrop (zMt "list" zExtend (zVar 1) (zaCons (zCall c.references_in (zaCons (zVar 2) zaNil)) zaNil))) zNext))
    (zRet (zVar 1)))))
def b_is_integer (a : Cl) (c : Cs) : ZS :=
    (zRet (zAnd (zIsa .int (zVar 0)) (zNt (zIsa .bool (zVar 0)))))
def b_is_count (a : Cl) (c : Cs) : ZS :=
    (zRet (zAnd (zCall c.is_integer (zaCons (zVar 0) zaNil)) (z2 zGe (zVar 0) (zC (.int 0)))))
def b_shifted (a : Cl) (c : Cs) : ZS :=
    (zRet (zCall zTupC (zaCons (zLc (zsZip (zaCons (zVar 0) (zaCons (zVar 1) zaNil))) (Tg.z (.tp (.cons (.nm 2) (.cons (.nm 3) .nil)))) ztYes (z2 zAdd (zVar 2) (zVar 3)) [2, 3]) zaNil)))
def b_rule_names (a : Cl) (c : Cs) : ZS :=
    (zRet (zLc (zsAny (z2 zIx (zVar 0) (zC (.int 2)))) (Tg.z (.nm 1)) ztYes (z2 zIx (zVar 1) (zC (.int 0))) [1]))
def b_edges_of (a : Cl) (c : Cs) : ZS :=
    (zSeq (zAsg (zCall c.rule_names (zaCons (zVar 0) zaNil)) (zgName 1))
    (zSeq (zAsg (zLst zaNil) (zgName 2))
    (zSeq (zFor (zsAny (z2 zIx (zVar 0) (zC (.int 2)))) (zgTup 3 (zgCons (zgName 3) (zgCons (zgName 4) (zgCons (zgName 5) zgNil)))) (zFor (zsAny (zCall c.references_in (zaCons (zVar 5) zaNil))) (zgTup 3 (zgCons (zgName 6) (zgCons (zgName 7) (zgCons (zgName 8) zgNil)))) (zIfS (ztB (z2 (zInn false) (zVar 7) (zVar 1))) (zDrop (zMt "list" zAppend (zVar 2) (zaCons (zTup (zaCons (zVar 3) (zaCons (zVar 7) (zaCons (zVar 8) zaNil)))) zaNil))) zNext)))
    (zRet (zCall zTupC (zaCons (zVar 2) zaNil))))))
def b_Walks_init (a : Cl) (c : Cs) : ZS :=
    (zSeq (zSetF a.Walks [101, 100, 103, 101, 115] (zVar 0) (zCall c.edges_of (zaCons (zVar 1) zaNil)))
    (zSeq (zSetF a.Walks [111, 114, 105, 103, 105, 110] (zVar 0) (zTup (zaCons (zVar 2) (zaCons (z2 zMul (zTup (zaCons (zC (.int 0)) zaNil)) (zCall zLen (zaCons (z2 zIx (zVar 1) (zC (.int 0))) zaNil))) zaNil))))
    (zSeq (zSetF a.Walks [104, 101, 114, 101] (zVar 0) (zDispT (zFld a.Walks [111, 114, 105, 103, 105, 110] (zVar 0)) (zTup zaNil)))
    (zSetF a.Walks [115, 101, 101, 110] (zVar 0) zDn))))
def b_Walks_longer (a : Cl) (c : Cs) : ZS :=
    (zSeq (zAsg zDn (zgName 1))
    (zSeq (zLock (zFor (zsItems (zFld a.Walks [104, 101, 114, 101] (zVar 0))) (zgTup 2 (zgCons (zgName 2) (zgCons (zgName 3) zgNil))) (zFor (zsEnum (zaCons (zFld a.Walks [101, 100, 103, 101, 115] (zVar 0)) zaNil)) (zgTup 2 (zgCons (zgName 4) (zgCons (zgTup 3 (zgCons (zgName 5) (zgCons (zgName 6) (zgCons (zgName 7) zgNil)))) zgNil))) (zSeq (zAsg (zTup (zaCons (zVar 6) (zaCons (zCall c.shifted (zaCons (z2 zIx (zVar 2) (zC (.int 1))) (zaCons (zVar 7) zaNil))) zaNil))) (zgName 8))
    (zIfS (ztAnd (ztB (z2 zEq (zVar 5) (z2 zIx (zVar 2) (zC (.int 0))))) (ztAnd (ztB (z2 (zInn true) (zVar 8) (zFld a.Walks [115, 101, 101, 110] (zVar 0)))) (ztB (z2 (zInn true) (zVar 8) (zVar 1))))) (zAsg (z2 zAdd (zVar 3) (zTup (zaCons (zVar 4) zaNil))) (zgSub (zVar 1) (zVar 8))) zNext)))))
    (zRet (zVar 1))))
def b_Walks_step (a : Cl) (c : Cs) : ZS :=
    (zSeq (zSetF a.Walks [104, 101, 114, 101] (zVar 0) (zMeth a.Walks [108, 111, 110, 103, 101, 114] c.Walks_longer (zVar 0) zaNil))
    (zSeq (zLock (zFor (zsKeyT (zFld a.Walks [104, 101, 114, 101] (zVar 0))) (zgName 1) (zAsg (zC (.bl true)) (zgSub (zFld a.Walks [115, 101, 101, 110] (zVar 0)) (zVar 1)))))
    (zRet (zMt "dict" zDget (zFld a.Walks [104, 101, 114, 101] (zVar 0)) (zaCons (zFld a.Walks [111, 114, 105, 103, 105, 110] (zVar 0)) (zaCons (zTup zaNil) zaNil))))))
def b_shortest_from (a : Cl) (c : Cs) : ZS :=
    (zSeq (zAsg (zMake a.Walks c.Walks_init (zaCons (zVar 0) (zaCons (zVar 1) zaNil))) (zgName 3))
    (zSeq (zFor (zsR1 (zaCons (zVar 2) zaNil)) (zgName 4) (zSeq (zAsg (zMeth a.Walks [115, 116, 101, 112] c.Walks_step (zVar 3) zaNil) (zgName 5))
    (zIfS (ztB (z2 (zNot zEq) (zVar 5) (zTup zaNil))) (zRet (zVar 5)) zNext)))
    (zRet (zTup zaNil))))
def b_walk_order (a : Cl) (c : Cs) : ZS :=
    (zRet (zTup (zaCons (zCall zLen (zaCons (zVar 0) zaNil)) (zaCons (zVar 0) zaNil))))
def b_shortest_walk (a : Cl) (c : Cs) : ZS :=
    (zSeq (zAsg (zLc (zsAny (zCall c.rule_names (zaCons (zVar 0) zaNil))) (Tg.z (.nm 3)) ztYes (zCall c.shortest_from (zaCons (zVar 0) (zaCons (zVar 3) (zaCons (zVar 1) zaNil)))) [3]) (zgName 2))
    (zSeq (zAsg (zSortK c.walk_order (zaCons (zLc (zsAny (zVar 2)) (Tg.z (.nm 4)) (ztB (z2 (zNot zEq) (zVar 4) (zTup zaNil))) (zVar 4) [4]) zaNil)) (zgName 2))
    (zRet (zIf (ztOf (zVar 2)) (z2 zIx (zVar 2) (zC (.int 0))) (zTup zaNil)))))
def b_sums_along (a : Cl) (c : Cs) : ZS :=
    (zSeq (zAsg (zLst (zaCons (z2 zMul (zTup (zaCons (zC (.int 0)) zaNil)) (zCall zLen (zaCons (z2 zIx (zVar 0) (zC (.int 0))) zaNil))) zaNil)) (zgName 3))
    (zSeq (zFor (zsAny (zVar 2)) (zgName 4) (zDrop (zMt "list" zAppend (zVar 3) (zaCons (zCall zTupC (zaCons (zLc (zsZip (zaCons (z2 zIx (zVar 3) (zNeg (zC (.int 1)))) (zaCons (z2 zIx (z2 zIx (zVar 1) (zVar 4)) (zC (.int 2))) zaNil))) (Tg.z (.tp (.cons (.nm 5) (.cons (.nm 6) .nil)))) ztYes (z2 zAdd (zVar 5) (zVar 6)) [5, 6]) zaNil)) zaNil))))
    (zRet (zVar 3))))
def b_shows_walk (a : Cl) (c : Cs) : ZS :=
    (zSeq (zAsg (zCall c.edges_of (zaCons (zVar 0) zaNil)) (zgName 2))
    (zSeq (zIfS (ztOr (ztNot (ztOf (zIsa .tuple (zVar 1)))) (ztB (z2 zEq (zVar 1) (zTup zaNil)))) (zRet (zC (.bl false))) zNext)
    (zSeq (zIfS (ztNot (ztOf (zCall zAll (zaCons (zLc (zsAny (zVar 1)) (Tg.z (.nm 5)) ztYes (zAnd (zCall c.is_count (zaCons (zVar 5) zaNil)) (z2 zLt (zVar 5) (zCall zLen (zaCons (zVar 2) zaNil)))) [5]) zaNil)))) (zRet (zC (.bl false))) zNext)
    (zSeq (zFor (zsZip (zaCons (zVar 1) (zaCons (z2 zAdd (zSl (zVar 1) (zoSome (zC (.int 1))) zoNone) (zSl (zVar 1) zoNone (zoSome (zC (.int 1))))) zaNil))) (zgTup 2 (zgCons (zgName 3) (zgCons (zgName 4) zgNil))) (zIfS (ztB (z2 (zNot zEq) (z2 zIx (z2 zIx (zVar 2) (zVar 3)) (zC (.int 1))) (z2 zIx (z2 zIx (zVar 2) (zVar 4)) (zC (.int 0))))) (zRet (zC (.bl false))) zNext))
    (zRet (zNt (zCall zAny (zaCons (z2 zIx (zCall c.sums_along (zaCons (zVar 0) (zaCons (zVar 2) (zaCons (zVar 1) zaNil)))) (zNeg (zC (.int 1)))) zaNil))))))))
def b__law_start (a : Cl) (c : Cs) : ZS :=
    (zRet (zLst (zaCons (zCall zListC (zaCons (zVar 0) zaNil)) (zaCons (zC (.int 0)) (zaCons (zC (.int 0)) (zaCons (zC (.int 0)) zaNil))))))
def b__law_draw (a : Cl) (c : Cs) : ZS :=
    (zSeq (zAsg (z2 zAdd (z2 zIx (zVar 0) (zC (.int 3))) (zC (.int 1))) (zgSub (zVar 0) (zC (.int 3))))
    (zSeq (zIfS (ztB (z2 zGt (z2 zIx (zVar 0) (zC (.int 2))) (zC (.int 0)))) (zSeq (zAsg (z2 zMod (zCall zInt (zaCons (z2 zIx (zVar 0) (zC (.int 2))) zaNil)) (zVar 1)) (zgName 2))
    (zSeq (zAsg (z2 zDiv (z2 zIx (zVar 0) (zC (.int 2))) (zVar 1)) (zgSub (zVar 0) (zC (.int 2))))
    (zRet (zVar 2)))) zNext)
    (zSeq (zAsg (zC (.int 0)) (zgName 3))
    (zSeq (zIfS (ztB (z2 zGt (zCall zLen (zaCons (z2 zIx (zVar 0) (zC (.int 0))) zaNil)) (zC (.int 0)))) (zAsg (zCall zAbs (zaCons (z2 zIx (z2 zIx (zVar 0) (zC (.int 0))) (z2 zMod (zCall zInt (zaCons (z2 zIx (zVar 0) (zC (.int 1))) zaNil)) (zCall zLen (zaCons (z2 zIx (zVar 0) (zC (.int 0))) zaNil)))) zaNil)) (zgName 3)) zNext)
    (zSeq (zAsg (z2 zAdd (z2 zIx (zVar 0) (zC (.int 1))) (zC (.int 1))) (zgSub (zVar 0) (zC (.int 1))))
    (zSeq (zIfS (ztB (z2 zGe (zVar 3) (z2 zPow (zC (.int 10)) (zC (.int 18))))) (zSeq (zAsg (z2 zDiv (zVar 3) (zVar 1)) (zgSub (zVar 0) (zC (.int 2))))
    (zRet (z2 zMod (zCall zInt (zaCons (zVar 3) zaNil)) (zVar 1)))) zNext)
    (zSeq (zAsg (z2 zMod (zCall zInt (zaCons (z2 zAdd (z2 zMul (z2 zAdd (zVar 3) (zC (.int 1))) (zC (.int 48271))) (z2 zMul (z2 zIx (zVar 0) (zC (.int 3))) (zC (.int 69621)))) zaNil)) (zC (.int 2147483647))) (zgName 4))
    (zSeq (zAsg (z2 zMod (zCall zInt (zaCons (z2 zAdd (z2 zAdd (z2 zMul (zVar 4) (zC (.int 16807))) (z2 zDiv (zVar 3) (zC (.int 97)))) (z2 zIx (zVar 0) (zC (.int 3)))) zaNil)) (zC (.int 2147483629))) (zgName 4))
    (zRet (z2 zMod (z2 zDiv (zVar 4) (zC (.int 11))) (zVar 1)))))))))))
def b__law_one_of (a : Cl) (c : Cs) : ZS :=
    (zRet (z2 zIx (zVar 1) (zCall c._law_draw (zaCons (zVar 0) (zaCons (zCall zLen (zaCons (zVar 1) zaNil)) zaNil)))))
def b__law_shuffled (a : Cl) (c : Cs) : ZS :=
    (zSeq (zAsg (zLst zaNil) (zgName 2))
    (zSeq (zFor (zsAny (zVar 1)) (zgName 3) (zDrop (zMt "list" zInsert (zVar 2) (zaCons (zCall c._law_draw (zaCons (zVar 0) (zaCons (z2 zAdd (zCall zLen (zaCons (zVar 2) zaNil)) (zC (.int 1))) zaNil))) (zaCons (zVar 3) zaNil)))))
    (zRet (zVar 2))))
def b__law_words (a : Cl) (c : Cs) : ZS :=
    (zSeq (zAsg (zC (.str [97, 98, 99, 100, 101, 102, 103, 104, 105, 106, 107, 108, 109, 110, 111, 112, 113, 114, 115, 116, 117, 118, 119, 120, 121, 122])) (zgName 2))
    (zSeq (zAsg (zCall c._law_draw (zaCons (zVar 0) (zaCons (zC (.int 26)) zaNil))) (zgName 3))
    (zSeq (zAsg (z2 zAdd (zC (.int 1)) (z2 zMul (zC (.int 2)) (zCall c._law_draw (zaCons (zVar 0) (zaCons (zC (.int 6)) zaNil))))) (zgName 4))
    (zSeq (zAsg (zSl (zC (.str [113, 120, 122])) zoNone (zoSome (zCall c._law_draw (zaCons (zVar 0) (zaCons (zC (.int 4)) zaNil))))) (zgName 5))
    (zSeq (zIfS (ztB (z2 zEq (zCall c._law_draw (zaCons (zVar 0) (zaCons (zC (.int 2)) zaNil))) (zC (.int 0)))) (zRet (zLc (zsR1 (zaCons (zVar 1) zaNil)) (Tg.z (.nm 6)) ztYes (z2 zAdd (zVar 5) (z2 zIx (zVar 2) (z2 zMod (zCall zInt (zaCons (z2 zAdd (zVar 3) (z2 zMul (zVar 6) (zVar 4))) zaNil)) (zC (.int 26))))) [6])) zNext)
    (zRet (zLc (zsR1 (zaCons (zVar 1) zaNil)) (Tg.z (.nm 6)) ztYes (z2 zAdd (z2 zIx (zVar 2) (z2 zMod (zCall zInt (zaCons (z2 zAdd (zVar 3) (z2 zMul (zVar 6) (zVar 4))) zaNil)) (zC (.int 26)))) (zVar 5)) [6])))))))
def b__law_is_int (a : Cl) (c : Cs) : ZS :=
    (zRet (zAnd (zIsa .int (zVar 0)) (zNt (zIsa .bool (zVar 0)))))
def b__law_same (a : Cl) (c : Cs) : ZS :=
    (zSeq (zIfS (ztOf (zIsa .tuple (zVar 1))) (zSeq (zIfS (ztOr (ztNot (ztOf (zIsa .tuple (zVar 0)))) (ztB (z2 (zNot zEq) (zCall zLen (zaCons (zVar 0) zaNil)) (zCall zLen (zaCons (zVar 1) zaNil))))) (zRet (zC (.bl false))) zNext)
    (zRet (zCall zAll (zaCons (zLc (zsR1 (zaCons (zCall zLen (zaCons (zVar 1) zaNil)) zaNil)) (Tg.z (.nm 2)) ztYes (zCall c._law_same (zaCons (z2 zIx (zVar 0) (zVar 2)) (zaCons (z2 zIx (zVar 1) (zVar 2)) zaNil))) [2]) zaNil)))) zNext)
    (zSeq (zIfS (ztOf (zIsa .str (zVar 1))) (zRet (zAnd (zIsa .str (zVar 0)) (z2 zEq (zVar 0) (zVar 1)))) zNext)
    (zRet (zAnd (zCall c._law_is_int (zaCons (zVar 0) zaNil)) (z2 zEq (zVar 0) (zVar 1))))))
def b__law_offsets (a : Cl) (c : Cs) : ZS :=
    (zRet (zCall zTupC (zaCons (zLc (zsR1 (zaCons (zVar 1) zaNil)) (Tg.z (.nm 3)) ztYes (z2 zSub (zCall c._law_draw (zaCons (zVar 0) (zaCons (z2 zAdd (z2 zMul (zC (.int 2)) (zVar 2)) (zC (.int 1))) zaNil))) (zVar 2)) [3]) zaNil)))
def b__law_some_part (a : Cl) (c : Cs) : ZS :=
    (zSeq (zAsg (zCall c._law_draw (zaCons (zVar 0) (zaCons (zC (.int 12)) zaNil))) (zgName 3))
    (zSeq (zIfS (ztOr (ztB (z2 zEq (zVar 2) (zC (.int 0)))) (ztB (z2 zLt (zVar 3) (zC (.int 4))))) (zRet (zCall c._law_leaf (zaCons (zVar 0) (zaCons (zVar 1) zaNil)))) zNext)
    (zSeq (zIfS (ztB (z2 zEq (zVar 3) (zC (.int 4)))) (zRet (zTup (zaCons (zC (.str [110, 101, 103, 97, 116, 101])) (zaCons (zCall c._law_some_part (zaCons (zVar 0) (zaCons (zVar 1) (zaCons (z2 zSub (zVar 2) (zC (.int 1))) zaNil)))) zaNil)))) zNext)
    (zSeq (zIfS (ztB (z2 zEq (zVar 3) (zC (.int 5)))) (zRet (zTup (zaCons (zC (.str [115, 99, 97, 108, 101])) (zaCons (zCall c._law_draw (zaCons (zVar 0) (zaCons (zC (.int 4)) zaNil))) (zaCons (zCall c._law_some_part (zaCons (zVar 0) (zaCons (zVar 1) (zaCons (z2 zSub (zVar 2) (zC (.int 1))) zaNil)))) zaNil))))) zNext)
    (zSeq (zAsg (zCall c._law_some_part (zaCons (zVar 0) (zaCons (zVar 1) (zaCons (z2 zSub (zVar 2) (zC (.int 1))) zaNil)))) (zgName 4))
    (zSeq (zAsg (zCall c._law_some_part (zaCons (zVar 0) (zaCons (zVar 1) (zaCons (z2 zSub (zVar 2) (zC (.int 1))) zaNil)))) (zgName 5))
    (zSeq (zIfS (ztB (z2 zLt (zVar 3) (zC (.int 10)))) (zRet (zTup (zaCons (z2 zIx (zLst (zaCons (zC (.str [112, 108, 117, 115])) (zaCons (zC (.str [109, 105, 110, 117, 115])) (zaCons (zC (.str [108, 101, 97, 115, 116])) (zaCons (zC (.str [103, 114, 101, 97, 116, 101, 115, 116])) zaNil))))) (z2 zSub (zVar 3) (zC (.int 6)))) (zaCons (zVar 4) (zaCons (zVar 5) zaNil))))) zNext)
    (zSeq (zAsg (z2 zIx (zLst (zaCons (zC (.str [60])) (zaCons (zC (.str [60, 61])) (zaCons (zC (.str [62])) (zaCons (zC (.str [62, 61])) (zaCons (zC (.str [61, 61])) (zaCons (zC (.str [33, 61])) zaNil))))))) (zCall c._law_draw (zaCons (zVar 0) (zaCons (zC (.int 6)) zaNil)))) (zgName 6))
    (zRet (zTup (zaCons (zC (.str [112, 105, 99, 107])) (zaCons (zVar 6) (zaCons (zVar 4) (zaCons (zCall c._law_leaf (zaCons (zVar 0) (zaCons (zVar 1) zaNil))) (zaCons (zVar 5) (zaCons (zCall c._law_leaf (zaCons (zVar 0) (zaCons (zVar 1) zaNil))) zaNil))))))))))))))))
def b__law_leaf (a : Cl) (c : Cs) : ZS :=
    (zSeq (zAsg (zCall c._law_draw (zaCons (zVar 0) (zaCons (zC (.int 6)) zaNil))) (zgName 2))
    (zSeq (zIfS (ztB (z2 zEq (zVar 2) (zC (.int 0)))) (zRet (zTup (zaCons (zC (.str [110, 117, 109, 98, 101, 114])) (zaCons (zCall c._law_draw (zaCons (zVar 0) (zaCons (zC (.int 10)) zaNil))) zaNil)))) zNext)
    (zSeq (zIfS (ztB (z2 zEq (zVar 2) (zC (.int 1)))) (zRet (zTup (zaCons (zC (.str [99, 111, 117, 110, 116, 101, 114])) (zaCons (zCall c._law_draw (zaCons (zVar 0) (zaCons (z2 zIx (zVar 1) (zC (.str [109, 97, 110, 121]))) zaNil))) zaNil)))) zNext)
    (zSeq (zIfS (ztOr (ztB (z2 zEq (z2 zIx (zVar 1) (zC (.str [114, 111, 111, 109]))) (zC (.int 0)))) (ztAnd (ztB (z2 zEq (zVar 2) (zC (.int 2)))) (ztB (z2 zEq (z2 zIx (zVar 1) (zC (.str [103, 105, 118, 101, 110, 95, 110, 97, 109, 101, 115]))) (zLst zaNil))))) (zRet (zTup (zaCons (zC (.str [110, 117, 109, 98, 101, 114])) (zaCons (zCall c._law_draw (zaCons (zVar 0) (zaCons (zC (.int 4)) zaNil))) zaNil)))) zNext)
    (zSeq (zAsg (z2 zSub (z2 zIx (zVar 1) (zC (.str [114, 111, 111, 109]))) (zC (.int 1))) (zgSub (zVar 1) (zC (.str [114, 111, 111, 109]))))
    (zSeq (zIfS (ztB (z2 zEq (zVar 2) (zC (.int 2)))) (zRet (zTup (zaCons (zC (.str [99, 101, 108, 108])) (zaCons (zCall c._law_one_of (zaCons (zVar 0) (zaCons (z2 zIx (zVar 1) (zC (.str [103, 105, 118, 101, 110, 95, 110, 97, 109, 101, 115]))) zaNil))) (zaCons (zCall c._law_offsets (zaCons (zVar 0) (zaCons (z2 zIx (zVar 1) (zC (.str [109, 97, 110, 121]))) (zaCons (zC (.int 2)) zaNil)))) zaNil))))) zNext)
    (zSeq (zAsg (zCall c._law_one_of (zaCons (zVar 0) (zaCons (z2 zIx (zVar 1) (zC (.str [114, 117, 108, 101, 95, 110, 97, 109, 101, 115]))) zaNil))) (zgName 3))
    (zSeq (zAsg (zCall c._law_offsets (zaCons (zVar 0) (zaCons (z2 zIx (zVar 1) (zC (.str [109, 97, 110, 121]))) (zaCons (z2 zIx (zVar 1) (zC (.str [109, 111, 115, 116]))) zaNil)))) (zgName 4))
    (zSeq (zIfS (ztAnd (ztB (z2 (zIs true) (z2 zIx (zVar 1) (zC (.str [114, 111, 119]))) (zC .non))) (ztB (z2 zGt (zCall c._law_slope (zaCons (zVar 1) (zaCons (z2 zIx (zVar 1) (zC (.str [110, 97, 109, 101]))) (zaCons (zVar 3) (zaCons (zVar 4) zaNil))))) (z2 zIx (zVar 1) (zC (.str [108, 101, 97, 115, 116])))))) (zRet (zTup (zaCons (zC (.str [110, 117, 109, 98, 101, 114])) (zaCons (zCall c._law_draw (zaCons (zVar 0) (zaCons (zC (.int 4)) zaNil))) zaNil)))) zNext)
    (zRet (zTup (zaCons (zC (.str [99, 101, 108, 108])) (zaCons (zVar 3) (zaCons (zVar 4) zaNil))))))))))))))
def b__law_slope (a : Cl) (c : Cs) : ZS :=
    (zSeq (zAsg (zCall zSum (zaCons (zLc (zsR1 (zaCons (zCall zLen (zaCons (zVar 3) zaNil)) zaNil)) (Tg.z (.nm 5)) ztYes (z2 zMul (z2 zIx (z2 zIx (zVar 0) (zC (.str [114, 111, 119]))) (zVar 5)) (z2 zIx (zVar 3) (zVar 5))) [5]) zaNil)) (zgName 4))
    (zRet (z2 zSub (z2 zAdd (zVar 4) (z2 zIx (z2 zIx (zVar 0) (zC (.str [110, 117, 109, 98, 101, 114, 115]))) (zVar 2))) (z2 zIx (z2 zIx (zVar 0) (zC (.str [110, 117, 109, 98, 101, 114, 115]))) (zVar 1)))))
def b__law_rim (a : Cl) (c : Cs) : ZS :=
    (zRet (z2 zIx (zLst (zaCons (zC (.int 0)) (zaCons (zC (.int 0)) (zaCons (z2 zSub (zCall c._law_draw (zaCons (zVar 0) (zaCons (zC (.int 9)) zaNil))) (zC (.int 4))) zaNil)))) (zCall c._law_draw (zaCons (zVar 0) (zaCons (zC (.int 3)) zaNil)))))
def b__law_given_row (a : Cl) (c : Cs) : ZS :=
    (zSeq (zAsg (zCall c._law_rim (zaCons (zVar 0) zaNil)) (zgName 2))
    (zSeq (zAsg (z2 zIx (zLst (zaCons (zTup zaNil) (zaCons (z2 zSub (zVar 2) (zCall c._law_draw (zaCons (zVar 0) (zaCons (zC (.int 4)) zaNil)))) zaNil))) (zCall c._law_draw (zaCons (zVar 0) (zaCons (zC (.int 2)) zaNil)))) (zgName 3))
    (zSeq (zAsg (z2 zIx (zLst (zaCons (zTup zaNil) (zaCons (z2 zAdd (zVar 2) (zCall c._law_draw (zaCons (zVar 0) (zaCons (zC (.int 4)) zaNil)))) zaNil))) (zCall c._law_draw (zaCons (zVar 0) (zaCons (zC (.int 2)) zaNil)))) (zgName 4))
    (zRet (zTup (zaCons (zVar 1) (zaCons (zVar 2) (zaCons (zVar 3) (zaCons (zVar 4) zaNil)))))))))
def b__law_table_world (a : Cl) (c : Cs) : ZS :=
    (zSeq (zAsg (zCall c._law_words (zaCons (zVar 0) (zaCons (z2 zAdd (z2 zAdd (zVar 1) (zVar 2)) (zVar 3)) zaNil))) (zgName 4))
    (zSeq (zAsg (zDispN 15 [((zC (.str [109, 97, 110, 121])), (zVar 1)), ((zC (.str [111, 118, 101, 114])), (zCall zTupC (zaCons (zSl (zVar 4) zoNone (zoSome (zVar 1))) zaNil))), ((zC (.str [114, 117, 108, 101, 95, 110, 97, 109, 101, 115])), (zCall zSorted (zaCons (zSl (zVar 4) (zoSome (zVar 1)) (zoSome (z2 zAdd (zVar 1) (zVar 2)))) zaNil))), ((zC (.str [109, 111, 115, 116])), (zC (.int 2)))]) (zgName 5))
    (zSeq (zAsg (zCall zSorted (zaCons (zSl (zVar 4) (zoSome (z2 zAdd (zVar 1) (zVar 2))) zoNone) zaNil)) (zgSub (zVar 5) (zC (.str [103, 105, 118, 101, 110, 95, 110, 97, 109, 101, 115]))))
    (zSeq (zAsg (zC .non) (zgSub (zVar 5) (zC (.str [114, 111, 119]))))
    (zRet (zVar 5))))))
def b__law_with_row (a : Cl) (c : Cs) : ZS :=
    (zSeq (zAsg (zLc (zsR1 (zaCons (z2 zIx (zVar 1) (zC (.str [109, 97, 110, 121]))) zaNil)) (Tg.z (.nm 4)) ztYes (z2 zSub (zCall c._law_draw (zaCons (zVar 0) (zaCons (zC (.int 5)) zaNil))) (zC (.int 2))) [4]) (zgSub (zVar 1) (zC (.str [114, 111, 119]))))
    (zSeq (zAsg (z2 zIx (zLst (zaCons (zC (.int 1)) (zaCons (zNeg (zC (.int 1))) (zaCons (zC (.int 2)) zaNil)))) (zCall c._law_draw (zaCons (zVar 0) (zaCons (zC (.int 3)) zaNil)))) (zgSub (z2 zIx (zVar 1) (zC (.str [114, 111, 119]))) (zCall c._law_draw (zaCons (zVar 0) (zaCons (z2 zIx (zVar 1) (zC (.str [109, 97, 110, 121]))) zaNil)))))
    (zSeq (zAsg zDn (zgSub (zVar 1) (zC (.str [110, 117, 109, 98, 101, 114, 115]))))
    (zSeq (zFor (zsAny (z2 zIx (zVar 1) (zC (.str [114, 117, 108, 101, 95, 110, 97, 109, 101, 115])))) (zgName 3) (zAsg (zCall c._law_draw (zaCons (zVar 0) (zaCons (zC (.int 3)) zaNil))) (zgSub (z2 zIx (zVar 1) (zC (.str [110, 117, 109, 98, 101, 114, 115]))) (zVar 3))))
    (zAsg (zVar 2) (zgSub (zVar 1) (zC (.str [108, 101, 97, 115, 116]))))))))
def b__law_rules_of (a : Cl) (c : Cs) : ZS :=
    (zSeq (zAsg (zLst zaNil) (zgName 3))
    (zSeq (zFor (zsAny (z2 zIx (zVar 1) (zC (.str [114, 117, 108, 101, 95, 110, 97, 109, 101, 115])))) (zgName 4) (zSeq (zAsg (z2 zIx (zLst (zaCons (zC (.int 5)) (zaCons (zC (.int 4)) (zaCons (zC (.int 3)) zaNil)))) (z2 zSub (z2 zIx (zVar 1) (zC (.str [109, 97, 110, 121]))) (zC (.int 1)))) (zgSub (zVar 1) (zC (.str [114, 111, 111, 109]))))
    (zSeq (zAsg (zVar 4) (zgSub (zVar 1) (zC (.str [110, 97, 109, 101]))))
    (zDrop (zMt "list" zAppend (zVar 3) (zaCons (zTup (zaCons (zVar 4) (zaCons (zCall c._law_rim (zaCons (zVar 0) zaNil)) (zaCons (zCall c._law_some_part (zaCons (zVar 0) (zaCons (zVar 1) (zaCons (zVar 2) zaNil)))) zaNil)))) zaNil))))))
    (zSeq (zAsg (zCall zTupC (zaCons (zLc (zsAny (z2 zIx (zVar 1) (zC (.str [103, 105, 118, 101, 110, 95, 110, 97, 109, 101, 115])))) (Tg.z (.nm 4)) ztYes (zCall c._law_given_row (zaCons (zVar 0) (zaCons (zVar 4) zaNil))) [4]) zaNil)) (zgName 5))
    (zRet (zTup (zaCons (z2 zIx (zVar 1) (zC (.str [111, 118, 101, 114]))) (zaCons (zVar 5) (zaCons (zCall zTupC (zaCons (zVar 3) zaNil)) (zaCons (zTup zaNil) zaNil)))))))))
def b__law_refs (a : Cl) (c : Cs) : ZS :=
    (zSeq (zIfS (ztB (z2 zEq (z2 zIx (zVar 0) (zC (.int 0))) (zC (.str [99, 101, 108, 108])))) (zRet (zLst (zaCons (zVar 0) zaNil))) zNext)
    (zSeq (zAsg (zLst zaNil) (zgName 1))
    (zSeq (zFor (zsAny (zSl (zVar 0) (zoSome (zC (.int 1))) zoNone)) (zgName 2) (zIfS (ztOf (zIsa .tuple (zVar 2))) (zAsg (z2 zAdd (zVar 1) (zCall c._law_refs (zaCons (zVar 2) zaNil))) (zgName 1)) zNext))
    (zRet (zVar 1)))))
def b__law_at_offsets (a : Cl) (c : Cs) : ZS :=
    (zRet (zCall zTupC (zaCons (zLc (zsR1 (zaCons (zCall zLen (zaCons (zVar 0) zaNil)) zaNil)) (Tg.z (.nm 2)) ztYes (z2 zAdd (z2 zIx (zVar 0) (zVar 2)) (z2 zIx (zVar 1) (zVar 2))) [2]) zaNil)))
def b__law_ring_table (a : Cl) (c : Cs) : ZS :=
    (zSeq (zAsg (zCall c._law_table_world (zaCons (zVar 0) (zaCons (z2 zAdd (zC (.int 1)) (zCall c._law_draw (zaCons (zVar 0) (zaCons (zC (.int 3)) zaNil)))) (zaCons (z2 zAdd (zC (.int 1)) (zCall c._law_draw (zaCons (zVar 0) (zaCons (zC (.int 3)) zaNil)))) (zaCons (zCall c._law_draw (zaCons (zVar 0) (zaCons (zC (.int 2)) zaNil))) zaNil))))) (zgName 1))
    (zSeq (zAsg (zCall c._law_rules_of (zaCons (zVar 0) (zaCons (zVar 1) (zaCons (zC (.int 2)) zaNil)))) (zgName 2))
    (zSeq (zAsg (z2 zIx (zVar 1) (zC (.str [114, 117, 108, 101, 95, 110, 97, 109, 101, 115]))) (zgName 3))
    (zSeq (zAsg (zCall zListC (zaCons (z2 zIx (zVar 2) (zC (.int 2))) zaNil)) (zgName 4))
    (zSeq (zAsg (z2 zMul (zTup (zaCons (zC (.int 0)) zaNil)) (z2 zIx (zVar 1) (zC (.str [109, 97, 110, 121])))) (zgName 5))
    (zSeq (zFor (zsR1 (zaCons (zCall zLen (zaCons (zVar 3) zaNil)) zaNil)) (zgName 6) (zSeq (zAsg (zCall c._law_offsets (zaCons (zVar 0) (zaCons (z2 zIx (zVar 1) (zC (.str [109, 97, 110, 121]))) (zaCons (zC (.int 2)) zaNil)))) (zgName 7))
    (zSeq (zIfS (ztB (z2 zEq (zVar 6) (z2 zSub (zCall zLen (zaCons (zVar 3) zaNil)) (zC (.int 1))))) (zAsg (zCall zTupC (zaCons (zLc (zsAny (zVar 5)) (Tg.z (.nm 12)) ztYes (z2 zSub (zC (.int 0)) (zVar 12)) [12]) zaNil)) (zgName 7)) zNext)
    (zSeq (zAsg (zCall c._law_at_offsets (zaCons (zVar 5) (zaCons (zVar 7) zaNil))) (zgName 5))
    (zSeq (zAsg (zTup (zaCons (zC (.str [99, 101, 108, 108])) (zaCons (z2 zIx (zVar 3) (z2 zMod (zCall zInt (zaCons (z2 zAdd (zVar 6) (zC (.int 1))) zaNil)) (zCall zLen (zaCons (zVar 3) zaNil)))) (zaCons (zVar 7) zaNil)))) (zgName 8))
    (zSeq (zAsg (z2 zIx (zLst (zaCons (zC (.str [110, 117, 109, 98, 101, 114])) (zaCons (zC (.str [99, 101, 108, 108])) zaNil))) (zCall c._law_draw (zaCons (zVar 0) (zaCons (zC (.int 2)) zaNil)))) (zgName 9))
    (zSeq (zAsg (z2 zIx (z2 zIx (zVar 4) (zVar 6)) (zC (.int 2))) (zgName 10))
    (zSeq (zIfS (ztOr (ztB (z2 zEq (zVar 9) (zC (.str [110, 117, 109, 98, 101, 114])))) (ztB (z2 zGt (zCall zLen (zaCons (zCall c._law_refs (zaCons (zVar 10) zaNil)) zaNil)) (zC (.int 6))))) (zAsg (zTup (zaCons (zC (.str [110, 117, 109, 98, 101, 114])) (zaCons (zCall c._law_draw (zaCons (zVar 0) (zaCons (zC (.int 9)) zaNil))) zaNil))) (zgName 10)) zNext)
    (zSeq (zAsg (z2 zIx (zLst (zaCons (zC (.str [112, 108, 117, 115])) (zaCons (zC (.str [108, 101, 97, 115, 116])) (zaCons (zC (.str [109, 105, 110, 117, 115])) zaNil)))) (zCall c._law_draw (zaCons (zVar 0) (zaCons (zC (.int 3)) zaNil)))) (zgName 11))
    (zSeq (zIfS (ztNot (ztOf (zCall c._law_can_be_read (zaCons (z2 zIx (zVar 2) (zC (.int 0))) (zaCons (zTup (zaCons (z2 zIx (zVar 3) (zVar 6)) (zaCons (zNeg (zC (.int 1))) (zaCons (zTup (zaCons (zVar 11) (zaCons (zVar 8) (zaCons (zVar 10) zaNil)))) zaNil)))) zaNil))))) (zAsg (zTup (zaCons (zC (.str [110, 117, 109, 98, 101, 114])) (zaCons (zC (.int 2)) zaNil))) (zgName 10)) zNext)
    (zAsg (zTup (zaCons (z2 zIx (zVar 3) (zVar 6)) (zaCons (z2 zIx (z2 zIx (zVar 4) (zVar 6)) (zC (.int 1))) (zaCons (zTup (zaCons (zVar 11) (zaCons (zVar 8) (zaCons (zVar 10) zaNil)))) zaNil)))) (zgSub (zVar 4) (zVar 6)))))))))))))
    (zRet (z2 zAdd (zSl (zVar 2) zoNone (zoSome (zC (.int 2)))) (zTup (zaCons (zCall zTupC (zaCons (zVar 4) zaNil)) (zaCons (zTup zaNil) zaNil)))))))))))
def b__law_own_edges (a : Cl) (c : Cs) : ZS :=
    (zSeq (zAsg (zLc (zsAny (z2 zIx (zVar 0) (zC (.int 2)))) (Tg.z (.nm 6)) ztYes (z2 zIx (zVar 6) (zC (.int 0))) [6]) (zgName 1))
    (zSeq (zAsg (zLst zaNil) (zgName 2))
    (zSeq (zFor (zsAny (z2 zIx (zVar 0) (zC (.int 2)))) (zgTup 3 (zgCons (zgName 3) (zgCons (zgName 4) (zgCons (zgName 5) zgNil)))) (zAsg (z2 zAdd (zVar 2) (zLc (zsAny (zCall c._law_refs (zaCons (zVar 5) zaNil))) (Tg.z (.tp (.cons (.nm 7) (.cons (.nm 8) (.cons (.nm 9) .nil))))) (ztB (z2 (zInn false) (zVar 8) (zVar 1))) (zTup (zaCons (zVar 3) (zaCons (zVar 8) (zaCons (zVar 9) zaNil)))) [7, 8, 9])) (zgName 2)))
    (zRet (zVar 2)))))
def b__law_planted_ring (a : Cl) (c : Cs) : ZS :=
    (zSeq (zAsg (zCall c._law_ring_table (zaCons (zVar 0) zaNil)) (zgName 1))
    (zSeq (zAsg (zCall c._law_own_edges (zaCons (zVar 1) zaNil)) (zgName 2))
    (zSeq (zAsg (z2 zMul (zLst (zaCons (zC (.int 0)) zaNil)) (zCall zLen (zaCons (zVar 2) zaNil))) (zgName 3))
    (zSeq (zAsg (zLc (zsAny (z2 zIx (zVar 1) (zC (.int 2)))) (Tg.z (.nm 6)) ztYes (z2 zIx (zVar 6) (zC (.int 0))) [6]) (zgName 4))
    (zSeq (zFor (zsR1 (zaCons (zCall zLen (zaCons (zVar 4) zaNil)) zaNil)) (zgName 5) (zAsg (zC (.int 1)) (zgSub (zVar 3) (z2 zIx (zLc (zsR1 (zaCons (zCall zLen (zaCons (zVar 2) zaNil)) zaNil)) (Tg.z (.nm 7)) (ztB (z2 zEq (z2 zIx (z2 zIx (zVar 2) (zVar 7)) (zC (.int 0))) (z2 zIx (zVar 4) (zVar 5)))) (zVar 7) [7]) (zC (.int 0))))))
    (zRet (zTup (zaCons (zVar 1) (zaCons (zCall zTupC (zaCons (zVar 3) zaNil)) zaNil)))))))))
def b__law_star_table (a : Cl) (c : Cs) : ZS :=
    (zSeq (zAsg (zCall zSorted (zaCons (zCall c._law_words (zaCons (zVar 0) (zaCons (zC (.int 3)) zaNil))) zaNil)) (zgName 1))
    (zSeq (zAsg (zSl (zTup (zaCons (z2 zAdd (z2 zIx (zVar 1) (zC (.int 0))) (zC (.str [95, 105]))) (zaCons (z2 zAdd (z2 zIx (zVar 1) (zC (.int 0))) (zC (.str [95, 106]))) zaNil))) zoNone (zoSome (z2 zAdd (zC (.int 1)) (zCall c._law_draw (zaCons (zVar 0) (zaCons (zC (.int 2)) zaNil)))))) (zgName 2))
    (zSeq (zAsg (zCall zLen (zaCons (zVar 2) zaNil)) (zgName 3))
    (zSeq (zAsg zDn (zgName 4))
    (zSeq (zFor (zsAny (zVar 1)) (zgName 5) (zAsg (zLst zaNil) (zgSub (zVar 4) (zVar 5))))
    (zSeq (zFor (zsR1 (zaCons (z2 zAdd (zC (.int 2)) (zCall c._law_draw (zaCons (zVar 0) (zaCons (zC (.int 2)) zaNil)))) zaNil)) (zgName 6) (zSeq (zAsg (zLc (zsR1 (zaCons (z2 zAdd (zC (.int 1)) (zCall c._law_draw (zaCons (zVar 0) (zaCons (zC (.int 3)) zaNil)))) zaNil)) (Tg.z (.nm 9)) ztYes (zCall c._law_one_of (zaCons (zVar 0) (zaCons (zVar 1) zaNil))) [9]) (zgName 7))
    (zSeq (zAsg (z2 zMul (zTup (zaCons (zC (.int 0)) zaNil)) (zVar 3)) (zgName 8))
    (zFor (zsR1 (zaCons (zCall zLen (zaCons (zVar 7) zaNil)) zaNil)) (zgName 9) (zSeq (zAsg (zCall c._law_offsets (zaCons (zVar 0) (zaCons (zVar 3) (zaCons (zC (.int 3)) zaNil)))) (zgName 10))
    (zSeq (zIfS (ztB (z2 zEq (zVar 9) (z2 zSub (zCall zLen (zaCons (zVar 7) zaNil)) (zC (.int 1))))) (zAsg (zCall zTupC (zaCons (zLc (zsAny (zVar 8)) (Tg.z (.nm 14)) ztYes (z2 zSub (zC (.int 0)) (zVar 14)) [14]) zaNil)) (zgName 10)) zNext)
    (zSeq (zAsg (zCall c._law_at_offsets (zaCons (zVar 8) (zaCons (zVar 10) zaNil))) (zgName 8))
    (zIfS (ztB (z2 zLt (zCall zLen (zaCons (z2 zIx (zVar 4) (z2 zIx (zVar 7) (zVar 9))) zaNil)) (zC (.int 5)))) (zDrop (zMt "list" zAppend (z2 zIx (zVar 4) (z2 zIx (zVar 7) (zVar 9))) (zaCons (zTup (zaCons (zC (.str [99, 101, 108, 108])) (zaCons (z2 zIx (zVar 7) (z2 zMod (zCall zInt (zaCons (z2 zAdd (zVar 9) (zC (.int 1))) zaNil)) (zCall zLen (zaCons (zVar 7) zaNil)))) (zaCons (zVar 10) zaNil)))) zaNil))) zNext))))))))
    (zSeq (zAsg (zLst zaNil) (zgName 11))
    (zSeq (zFor (zsAny (zVar 1)) (zgName 5) (zSeq (zAsg (zTup (zaCons (zC (.str [110, 117, 109, 98, 101, 114])) (zaCons (zC (.int 1)) zaNil))) (zgName 12))
    (zSeq (zFor (zsAny (z2 zIx (zVar 4) (zVar 5))) (zgName 13) (zAsg (zTup (zaCons (z2 zIx (zLst (zaCons (zC (.str [112, 108, 117, 115])) (zaCons (zC (.str [108, 101, 97, 115, 116])) zaNil))) (zCall c._law_draw (zaCons (zVar 0) (zaCons (zC (.int 2)) zaNil)))) (zaCons (zVar 12) (zaCons (zVar 13) zaNil)))) (zgName 12)))
    (zDrop (zMt "list" zAppend (zVar 11) (zaCons (zTup (zaCons (zVar 5) (zaCons (zC (.int 0)) (zaCons (zVar 12) zaNil)))) zaNil))))))
    (zRet (zTup (zaCons (zVar 2) (zaCons (zTup zaNil) (zaCons (zCall zTupC (zaCons (zVar 11) zaNil)) (zaCons (zTup zaNil) zaNil))))))))))))))
def b__law_is_walk (a : Cl) (c : Cs) : ZS :=
    (zSeq (zIfS (ztOr (ztNot (ztOf (zIsa .tuple (zVar 1)))) (ztB (z2 zEq (zVar 1) (zTup zaNil)))) (zRet (zC (.bl false))) zNext)
    (zSeq (zIfS (ztNot (ztOf (zCall zAll (zaCons (zLc (zsAny (zVar 1)) (Tg.z (.nm 4)) ztYes (zAnd (zCall c._law_is_int (zaCons (zVar 4) zaNil)) (zAnd (z2 zLe (zC (.int 0)) (zVar 4)) (z2 zLt (zVar 4) (zCall zLen (zaCons (zVar 0) zaNil))))) [4]) zaNil)))) (zRet (zC (.bl false))) zNext)
    (zSeq (zAsg (z2 zMul (zTup (zaCons (zC (.int 0)) zaNil)) (zCall zLen (zaCons (z2 zIx (z2 zIx (zVar 0) (zC (.int 0))) (zC (.int 2))) zaNil))) (zgName 2))
    (zSeq (zFor (zsR1 (zaCons (zCall zLen (zaCons (zVar 1) zaNil)) zaNil)) (zgName 3) (zSeq (zIfS (ztB (z2 (zNot zEq) (z2 zIx (z2 zIx (zVar 0) (z2 zIx (zVar 1) (zVar 3))) (zC (.int 0))) (z2 zIx (z2 zIx (zVar 0) (z2 zIx (zVar 1) (z2 zSub (zVar 3) (zC (.int 1))))) (zC (.int 1))))) (zRet (zC (.bl false))) zNext)
    (zAsg (zCall c._law_at_offsets (zaCons (zVar 2) (zaCons (z2 zIx (z2 zIx (zVar 0) (z2 zIx (zVar 1) (zVar 3))) (zC (.int 2))) zaNil))) (zgName 2))))
    (zRet (zNt (zCall zAny (zaCons (zLc (zsAny (zVar 2)) (Tg.z (.nm 4)) ztYes (z2 (zNot zEq) (zVar 4) (zC (.int 0))) [4]) zaNil))))))))
def b__law_cell_at (a : Cl) (c : Cs) : ZS :=
    (zSeq (zAsg (z2 zMul (zLst (zaCons (zC (.int 0)) zaNil)) (zVar 1)) (zgName 3))
    (zSeq (zFor (zsAny (zVar 2)) (zgTup 2 (zgCons (zgName 4) (zgCons (zgName 5) zgNil))) (zAsg (zVar 5) (zgSub (zVar 3) (zVar 4))))
    (zRet (zTup (zaCons (zC (.str [99, 101, 108, 108])) (zaCons (zVar 0) (zaCons (zCall zTupC (zaCons (zVar 3) zaNil)) zaNil)))))))
def b__law_gadget (a : Cl) (c : Cs) : ZS :=
    (zSeq (zAsg (zVar 1) (zgLst 2 (zgCons (zgName 6) (zgCons (zgName 7) zgNil))))
    (zSeq (zAsg (z2 zAdd (zC (.int 1)) (zCall c._law_draw (zaCons (zVar 0) (zaCons (zC (.int 2)) zaNil)))) (zgName 8))
    (zSeq (zAsg (zDispN 15 [((zVar 6), (zLst (zaCons (zCall c._law_cell_at (zaCons (zVar 6) (zaCons (zVar 2) (zaCons (zLst (zaCons (zTup (zaCons (zVar 4) (zaCons (z2 zAdd (zC (.int 1)) (zCall c._law_draw (zaCons (zVar 0) (zaCons (zC (.int 2)) zaNil)))) zaNil))) zaNil)) zaNil)))) zaNil))), ((zVar 7), (zLst zaNil))]) (zgName 9))
    (zSeq (zDrop (zMt "list" zAppend (z2 zIx (zVar 9) (zVar 7)) (zaCons (zCall c._law_cell_at (zaCons (zVar 7) (zaCons (zVar 2) (zaCons (zLst (zaCons (zTup (zaCons (zVar 4) (zaCons (z2 zSub (zNeg (zC (.int 1))) (zCall c._law_draw (zaCons (zVar 0) (zaCons (zC (.int 2)) zaNil)))) zaNil))) zaNil)) zaNil)))) zaNil)))
    (zSeq (zDrop (zMt "list" zAppend (z2 zIx (zVar 9) (zVar 6)) (zaCons (zCall c._law_cell_at (zaCons (zVar 7) (zaCons (zVar 2) (zaCons (zLst (zaCons (zTup (zaCons (zVar 3) (zaCons (z2 zSub (zC (.int 0)) (z2 zMul (zVar 5) (zVar 8))) zaNil))) (zaCons (zTup (zaCons (zVar 4) (zaCons (z2 zSub (zCall c._law_draw (zaCons (zVar 0) (zaCons (zC (.int 3)) zaNil))) (zC (.int 1))) zaNil))) zaNil))) zaNil)))) zaNil)))
    (zSeq (zDrop (zMt "list" zAppend (z2 zIx (zVar 9) (zVar 7)) (zaCons (zCall c._law_cell_at (zaCons (zVar 6) (zaCons (zVar 2) (zaCons (zLst (zaCons (zTup (zaCons (zVar 4) (zaCons (z2 zSub (zCall c._law_draw (zaCons (zVar 0) (zaCons (zC (.int 3)) zaNil))) (zC (.int 1))) zaNil))) zaNil)) zaNil)))) zaNil)))
    (zRet (zVar 9))))))))
def b__law_rules_by (a : Cl) (c : Cs) : ZS :=
    (zSeq (zAsg (zLst zaNil) (zgName 2))
    (zSeq (zFor (zsAny (zCall zSorted (zaCons (zVar 1) zaNil))) (zgName 3) (zSeq (zAsg (zTup (zaCons (zC (.str [99, 111, 117, 110, 116, 101, 114])) (zaCons (zC (.int 0)) zaNil))) (zgName 4))
    (zSeq (zFor (zsAny (zCall c._law_shuffled (zaCons (zVar 0) (zaCons (z2 zIx (zVar 1) (zVar 3)) zaNil)))) (zgName 5) (zAsg (zTup (zaCons (zCall c._law_one_of (zaCons (zVar 0) (zaCons (zLst (zaCons (zC (.str [112, 108, 117, 115])) (zaCons (zC (.str [109, 105, 110, 117, 115])) (zaCons (zC (.str [108, 101, 97, 115, 116])) (zaCons (zC (.str [103, 114, 101, 97, 116, 101, 115, 116])) zaNil))))) zaNil))) (zaCons (zVar 4) (zaCons (zVar 5) zaNil)))) (zgName 4)))
    (zDrop (zMt "list" zAppend (zVar 2) (zaCons (zTup (zaCons (zVar 3) (zaCons (zCall c._law_rim (zaCons (zVar 0) zaNil)) (zaCons (zVar 4) zaNil)))) zaNil))))))
    (zRet (zCall zTupC (zaCons (zVar 2) zaNil)))))
def b__law_levelled (a : Cl) (c : Cs) : ZS :=
    (zSeq (zAsg (zCall c._law_words (zaCons (zVar 0) (zaCons (zC (.int 7)) zaNil))) (zgName 1))
    (zSeq (zAsg (zCall zTupC (zaCons (zSl (zVar 1) zoNone (zoSome (zC (.int 3)))) zaNil)) (zgName 2))
    (zSeq (zAsg (z2 zAdd (zC (.int 2)) (zCall c._law_draw (zaCons (zVar 0) (zaCons (zC (.int 2)) zaNil)))) (zgName 3))
    (zSeq (zIfS (ztB (z2 zEq (zVar 3) (zC (.int 2)))) (zSeq (zAsg (zSl (zVar 2) zoNone (zoSome (zC (.int 2)))) (zgName 2))
    (zSeq (zAsg (zCall c._law_draw (zaCons (zVar 0) (zaCons (zC (.int 2)) zaNil))) (zgName 4))
    (zAsg (zCall c._law_gadget (zaCons (zVar 0) (zaCons (zSl (zVar 1) (zoSome (zC (.int 3))) (zoSome (zC (.int 5)))) (zaCons (zC (.int 2)) (zaCons (zVar 4) (zaCons (z2 zSub (zC (.int 1)) (zVar 4)) (zaCons (z2 zIx (zLst (zaCons (zC (.int 1)) (zaCons (zNeg (zC (.int 1))) zaNil))) (zCall c._law_draw (zaCons (zVar 0) (zaCons (zC (.int 2)) zaNil)))) zaNil))))))) (zgName 5)))) (zSeq (zAsg (zCall c._law_shuffled (zaCons (zVar 0) (zaCons (zLst (zaCons (zC (.int 0)) (zaCons (zC (.int 1)) (zaCons (zC (.int 2)) zaNil)))) zaNil))) (zgName 6))
    (zSeq (zAsg (zCall c._law_gadget (zaCons (zVar 0) (zaCons (zSl (zVar 1) (zoSome (zC (.int 3))) (zoSome (zC (.int 5)))) (zaCons (zC (.int 3)) (zaCons (z2 zIx (zVar 6) (zC (.int 1))) (zaCons (z2 zIx (zVar 6) (zC (.int 2))) (zaCons (zC (.int 1)) zaNil))))))) (zgName 5))
    (zSeq (zAsg (zCall c._law_gadget (zaCons (zVar 0) (zaCons (zSl (zVar 1) (zoSome (zC (.int 5))) (zoSome (zC (.int 7)))) (zaCons (zC (.int 3)) (zaCons (z2 zIx (zVar 6) (zC (.int 1))) (zaCons (z2 zIx (zVar 6) (zC (.int 2))) (zaCons (zNeg (zC (.int 1))) zaNil))))))) (zgName 7))
    (zSeq (zAsg (z2 zAdd (z2 zIx (zVar 7) (z2 zIx (zVar 1) (zC (.int 5)))) (zLst (zaCons (zCall c._law_cell_at (zaCons (z2 zIx (zVar 1) (zC (.int 3))) (zaCons (zC (.int 3)) (zaCons (zLst zaNil) zaNil)))) zaNil))) (zgSub (zVar 5) (z2 zIx (zVar 1) (zC (.int 5)))))
    (zSeq (zAsg (z2 zIx (zVar 7) (z2 zIx (zVar 1) (zC (.int 6)))) (zgSub (zVar 5) (z2 zIx (zVar 1) (zC (.int 6)))))
    (zDrop (zMt "list" zAppend (z2 zIx (zVar 5) (z2 zIx (zVar 1) (zC (.int 3)))) (zaCons (zCall c._law_cell_at (zaCons (z2 zIx (zVar 1) (zC (.int 5))) (zaCons (zC (.int 3)) (zaCons (zLst (zaCons (zTup (zaCons (z2 zIx (zVar 6) (zC (.int 0))) (zaCons (z2 zIx (zLst (zaCons (zC (.int 1)) (zaCons (zNeg (zC (.int 1))) zaNil))) (zCall c._law_draw (zaCons (zVar 0) (zaCons (zC (.int 2)) zaNil)))) zaNil))) zaNil)) zaNil)))) zaNil)))))))))
    (zRet (zTup (zaCons (zTup (zaCons (zVar 2) (zaCons (zTup zaNil) (zaCons (zCall c._law_rules_by (zaCons (zVar 0) (zaCons (zVar 5) zaNil))) (zaCons (zTup zaNil) zaNil))))) (zaCons (zVar 3) zaNil))))))))
def b__law_told_table (a : Cl) (c : Cs) : ZS :=
    (zSeq (zAsg (zCall c._law_draw (zaCons (zVar 0) (zaCons (zC (.int 3)) zaNil))) (zgName 1))
    (zSeq (zIfS (ztB (z2 zEq (zVar 1) (zC (.int 0)))) (zRet (z2 zIx (zCall c._law_levelled (zaCons (zVar 0) zaNil)) (zC (.int 0)))) zNext)
    (zSeq (zAsg (zCall c._law_table_world (zaCons (zVar 0) (zaCons (z2 zAdd (zC (.int 1)) (zCall c._law_draw (zaCons (zVar 0) (zaCons (zC (.int 3)) zaNil)))) (zaCons (z2 zAdd (zC (.int 1)) (zCall c._law_draw (zaCons (zVar 0) (zaCons (zC (.int 3)) zaNil)))) (zaCons (zCall c._law_draw (zaCons (zVar 0) (zaCons (zC (.int 3)) zaNil))) zaNil))))) (zgName 2))
    (zSeq (zDrop (zCall c._law_with_row (zaCons (zVar 0) (zaCons (zVar 2) (zaCons (zNeg (zC (.int 1))) zaNil)))))
    (zRet (zCall c._law_rules_of (zaCons (zVar 0) (zaCons (zVar 2) (zaCons (zC (.int 2)) zaNil)))))))))
def b__law_numbers_in (a : Cl) (c : Cs) : ZS :=
    (zSeq (zIfS (ztB (z2 zEq (z2 zIx (zVar 0) (zC (.int 0))) (zC (.str [110, 117, 109, 98, 101, 114])))) (zRet (zLst (zaCons (z2 zIx (zVar 0) (zC (.int 1))) zaNil))) zNext)
    (zSeq (zAsg (zLst zaNil) (zgName 1))
    (zSeq (zIfS (ztB (z2 zEq (z2 zIx (zVar 0) (zC (.int 0))) (zC (.str [115, 99, 97, 108, 101])))) (zDrop (zMt "list" zAppend (zVar 1) (zaCons (z2 zIx (zVar 0) (zC (.int 1))) zaNil))) zNext)
    (zSeq (zFor (zsAny (zSl (zVar 0) (zoSome (zC (.int 1))) zoNone)) (zgName 2) (zIfS (ztAnd (ztOf (zIsa .tuple (zVar 2))) (ztB (z2 (zNot zEq) (z2 zIx (zVar 0) (zC (.int 0))) (zC (.str [99, 101, 108, 108]))))) (zAsg (z2 zAdd (zVar 1) (zCall c._law_numbers_in (zaCons (zVar 2) zaNil))) (zgName 1)) zNext))
    (zRet (zVar 1))))))
def b__law_token_count (a : Cl) (c : Cs) : ZS :=
    (zSeq (zAsg (z2 zIx (zVar 1) (zC (.int 0))) (zgName 2))
    (zSeq (zIfS (ztOr (ztB (z2 zEq (zVar 2) (zC (.str [110, 117, 109, 98, 101, 114])))) (ztB (z2 zEq (zVar 2) (zC (.str [99, 111, 117, 110, 116, 101, 114]))))) (zRet (zC (.int 1))) zNext)
    (zSeq (zIfS (ztB (z2 zEq (zVar 2) (zC (.str [99, 101, 108, 108])))) (zRet (z2 zAdd (z2 zAdd (zC (.int 2)) (z2 zMul (zC (.int 2)) (zCall zLen (zaCons (zVar 0) zaNil)))) (z2 zMul (zC (.int 2)) (zCall zLen (zaCons (zLc (zsAny (z2 zIx (zVar 1) (zC (.int 2)))) (Tg.z (.nm 4)) (ztB (z2 (zNot zEq) (zVar 4) (zC (.int 0)))) (zVar 4) [4]) zaNil))))) zNext)
    (zSeq (zIfS (ztB (z2 zEq (zVar 2) (zC (.str [110, 101, 103, 97, 116, 101])))) (zRet (z2 zAdd (z2 zAdd (zC (.int 1)) (zCall c._law_token_count (zaCons (zVar 0) (zaCons (z2 zIx (zVar 1) (zC (.int 1))) zaNil)))) (z2 zMul (zC (.int 2)) (zCall zInt (zaCons (z2 (zInn false) (z2 zIx (z2 zIx (zVar 1) (zC (.int 1))) (zC (.int 0))) (zLst (zaCons (zC (.str [112, 108, 117, 115])) (zaCons (zC (.str [109, 105, 110, 117, 115])) (zaCons (zC (.str [110, 101, 103, 97, 116, 101])) zaNil))))) zaNil))))) zNext)
    (zSeq (zIfS (ztB (z2 zEq (zVar 2) (zC (.str [115, 99, 97, 108, 101])))) (zRet (z2 zAdd (z2 zAdd (zC (.int 2)) (zCall c._law_token_count (zaCons (zVar 0) (zaCons (z2 zIx (zVar 1) (zC (.int 2))) zaNil)))) (z2 zMul (zC (.int 2)) (zCall zInt (zaCons (z2 (zInn false) (z2 zIx (z2 zIx (zVar 1) (zC (.int 2))) (zC (.int 0))) (zLst (zaCons (zC (.str [112, 108, 117, 115])) (zaCons (zC (.str [109, 105, 110, 117, 115])) (zaCons (zC (.str [110, 101, 103, 97, 116, 101])) (zaCons (zC (.str [115, 99, 97, 108, 101])) zaNil)))))) zaNil))))) zNext)
    (zSeq (zAsg (zCall zSum (zaCons (zLc (zsAny (zSl (zVar 1) (zoSome (zC (.int 1))) zoNone)) (Tg.z (.nm 5)) (ztOf (zIsa .tuple (zVar 5))) (zCall c._law_token_count (zaCons (zVar 0) (zaCons (zVar 5) zaNil))) [5]) zaNil)) (zgName 3))
    (zSeq (zIfS (ztB (z2 zEq (zVar 2) (zC (.str [112, 105, 99, 107])))) (zRet (z2 zAdd (zVar 3) (zC (.int 6)))) zNext)
    (zSeq (zIfS (ztOr (ztB (z2 zEq (zVar 2) (zC (.str [112, 108, 117, 115])))) (ztB (z2 zEq (zVar 2) (zC (.str [109, 105, 110, 117, 115]))))) (zRet (z2 zAdd (z2 zAdd (zVar 3) (zC (.int 1))) (z2 zMul (zC (.int 2)) (zCall zInt (zaCons (z2 (zInn false) (z2 zIx (z2 zIx (zVar 1) (zC (.int 2))) (zC (.int 0))) (zLst (zaCons (zC (.str [112, 108, 117, 115])) (zaCons (zC (.str [109, 105, 110, 117, 115])) (zaCons (zC (.str [110, 101, 103, 97, 116, 101])) zaNil))))) zaNil))))) zNext)
    (zRet (z2 zAdd (zVar 3) (zC (.int 4))))))))))))
def b__law_can_be_read (a : Cl) (c : Cs) : ZS :=
    (zSeq (zAsg (z2 zAdd (z2 zAdd (zC (.int 3)) (z2 zMul (zC (.int 2)) (zCall zInt (zaCons (z2 (zNot zEq) (z2 zIx (zVar 1) (zC (.int 1))) (zC (.int 0))) zaNil)))) (zCall zInt (zaCons (z2 zLt (z2 zIx (zVar 1) (zC (.int 1))) (zC (.int 0))) zaNil))) (zgName 2))
    (zSeq (zIfS (ztOr (ztB (z2 zGt (z2 zAdd (zVar 2) (zCall c._law_token_count (zaCons (zVar 0) (zaCons (z2 zIx (zVar 1) (zC (.int 2))) zaNil)))) (zC (.int 80)))) (ztB (z2 zGt (zCall zLen (zaCons (zCall c._law_refs (zaCons (z2 zIx (zVar 1) (zC (.int 2))) zaNil)) zaNil)) (zC (.int 12))))) (zRet (zC (.bl false))) zNext)
    (zRet (zCall zAll (zaCons (zLc (zsAny (zCall c._law_numbers_in (zaCons (z2 zIx (zVar 1) (zC (.int 2))) zaNil))) (Tg.z (.nm 3)) ztYes (z2 zLt (zVar 3) (z2 zPow (zC (.int 10)) (zC (.int 6)))) [3]) zaNil)))))
def b__law_round_walks (a : Cl) (c : Cs) : ZS :=
    (zSeq (zAsg (zLc (zsR1 (zaCons (zCall zLen (zaCons (zVar 0) zaNil)) zaNil)) (Tg.z (.nm 6)) ztYes (zTup (zaCons (zVar 6) zaNil)) [6]) (zgName 2))
    (zSeq (zFor (zsR2 (zaCons (zC (.int 1)) (zaCons (z2 zAdd (zVar 1) (zC (.int 1))) zaNil))) (zgName 3) (zSeq (zFor (zsAny (zVar 2)) (zgName 4) (zIfS (ztOf (zCall c._law_is_walk (zaCons (zVar 0) (zaCons (zVar 4) zaNil)))) (zRet (zVar 4)) zNext))
    (zSeq (zAsg (zLst zaNil) (zgName 5))
    (zSeq (zFor (zsAny (zVar 2)) (zgName 4) (zAsg (z2 zAdd (zVar 5) (zLc (zsR1 (zaCons (zCall zLen (zaCons (zVar 0) zaNil)) zaNil)) (Tg.z (.nm 6)) (ztB (z2 zEq (z2 zIx (z2 zIx (zVar 0) (zVar 6)) (zC (.int 0))) (z2 zIx (z2 zIx (zVar 0) (z2 zIx (zVar 4) (zNeg (zC (.int 1))))) (zC (.int 1))))) (z2 zAdd (zVar 4) (zTup (zaCons (zVar 6) zaNil))) [6])) (zgName 5)))
    (zSeq (zAsg (zVar 5) (zgName 2))
    (zIfS (ztB (z2 zGt (zCall zLen (zaCons (zVar 2) zaNil)) (zC (.int 4000)))) (zRet (zC .non)) zNext))))))
    (zRet (zTup zaNil))))
def b_law (a : Cl) (c : Cs) : ZS :=
    (zSeq (zAsg (zCall c._law_start (zaCons (zVar 0) zaNil)) (zgName 1))
    (zSeq (zFor (zsR1 (zaCons (zC (.int 3)) zaNil)) (zgName 2) (zSeq (zAsg (z2 zIx (zLst (zaCons (zCall c._law_star_table (zaCons (zVar 1) zaNil)) (zaCons (z2 zIx (zCall c._law_planted_ring (zaCons (zVar 1) zaNil)) (zC (.int 0))) (zaCons (zCall c._law_told_table (zaCons (zVar 1) zaNil)) zaNil)))) (zVar 2)) (zgName 3))
    (zSeq (zAsg (zCall c._law_own_edges (zaCons (zVar 3) zaNil)) (zgName 4))
    (zSeq (zAsg (zCall c._law_draw (zaCons (zVar 1) (zaCons (zC (.int 5)) zaNil))) (zgName 5))
    (zSeq (zAsg (zTup zaNil) (zgName 6))
    (zSeq (zIfS (ztB (z2 (zNot zEq) (zVar 4) (zLst zaNil))) (zAsg (zCall c._law_round_walks (zaCons (zVar 4) (zaCons (zVar 5) zaNil))) (zgName 6)) zNext)
    (zSeq (zIfS (ztB (z2 (zIs true) (zVar 6) (zC .non))) (zSeq (zIfS (ztNot (ztOf (zCall c._law_same (zaCons (zCall c.shortest_walk (zaCons (zVar 3) (zaCons (zVar 5) zaNil))) (zaCons (zVar 6) zaNil))))) (zRet (zC (.bl false))) zNext)
    (zIfS (ztAnd (ztB (z2 (zNot zEq) (zVar 6) (zTup zaNil))) (ztB (z2 (zIs true) (zCall c.shows_walk (zaCons (zVar 3) (zaCons (zVar 6) zaNil))) (zC (.bl true))))) (zRet (zC (.bl false))) zNext)) zNext)
    (zIfS (ztAnd (ztB (z2 zEq (zVar 2) (zC (.int 2)))) (ztNot (ztOf (zCall c._law_same (zaCons (zCall c.shortest_walk (zaCons (zVar 3) (zaCons (zC (.int 3)) zaNil))) (zaCons (zTup zaNil) zaNil)))))) (zRet (zC (.bl false))) zNext))))))))
    (zRet (zC (.bl true)))))
section
variable {P : Program} {w : World} {K : PySem.W.Frag} {mg : Str → Option Value} {base : Heap} {k : Nat} {a : Cl} {c : Cs} {f : Addr} {cdv : Value} {A : Around} {outer : List Env} {s : Shared} {H : Hp} {E : XK}
theorem d_references_in (e : Own P w K mg base k a c) (hr : Room (k + 2) (A.deeper (envOfC "references_in" (defScope s_references_in) s.heap.objs.size f cdv))) : QSs (cxOf CX0 P w K mg base N_references_in "references_in" (defScope s_references_in) f cdv A outer s H E).nox (defBody s_references_in) (b_references_in a c) := by
  have hu := G.hu_of hr
  have hq := hr.mono (Nat.le_add_right k 2)
  have hm := hr.mono (Nat.add_le_add_left (by decide : 1 ≤ 2) k)
  exact (qss_cons (qs_if (qt_cmp (q_eq hu) (q_ix hu (qv (i := 0) n_0 rfl (.inl rfl)) qe_int (fun _ _ => rfl)) (q_str s_0) (nomark _)) (qss_one (qs_ret (qe_lst (qa_cons (qv (i := 0) n_0 rfl (.inl rfl)) qa_nil rfl)))) qss_nil)
    (qss_cons (qs_set (i := 1) S_references_in.nd rfl (.inl rfl) (qe_lst qa_nil) rfl (.inl rfl))
    (qss_cons (qs_for PassesOwn.never rfl (qi_any (qe_sl (qv (i := 0) n_0 rfl (.inl rfl)) (qp_some qe_int) qp_none)) (qg_name (i := 2) S_references_in.nd rfl (.inl rfl) (.inl rfl)) (qss_one (qs_if (qt_of (q_isa .tuple rfl e.isinstance rfl e.tuple (qv (i := 2) n_1 rfl (.inl rfl)) rfl rfl rfl) (fun _ => rfl)) (qss_one (qs_expr (q_extend (qv (i := 1) n_2 rfl (.inl rfl)) (qa_cons (q_own e.f_references_in hq n_3 rfl (qa_cons (qv (i := 2) n_1 rfl (.inl rfl)) qa_nil rfl) rfl rfl) qa_nil rfl) rfl rfl rfl rfl rfl) rfl)) qss_nil)) (fun _ => rfl))
    (qss_one (qs_ret (qv (i := 1) n_2 rfl (.inl rfl)))))))
theorem d_is_integer (e : Own P w K mg base k a c) (hr : Room (k + 2) (A.deeper (envOfC "is_integer" (defScope s_is_integer) s.heap.objs.size f cdv))) : QSs (cxOf CX0 P w K mg base N_is_integer "is_integer" (defScope s_is_integer) f cdv A outer s H E).nox (defBody s_is_integer) (b_is_integer a c) := by
  have hu := G.hu_of hr
  have hq := hr.mono (Nat.le_add_right k 2)
  have hm := hr.mono (Nat.add_le_add_left (by decide : 1 ≤ 2) k)
  exact (qss_one (qs_ret (qe_and (q_isa .int rfl e.isinstance rfl e.int (qv (i := 0) n_4 rfl (.inl rfl)) rfl rfl rfl) (qe_one (qe_not (q_isa .bool rfl e.isinstance rfl e.bool (qv (i := 0) n_4 rfl (.inl rfl)) rfl rfl rfl))))))
theorem d_is_count (e : Own P w K mg base k a c) (hr : Room (k + 2) (A.deeper (envOfC "is_count" (defScope s_is_count) s.heap.objs.size f cdv))) : QSs (cxOf CX0 P w K mg base N_is_count "is_count" (defScope s_is_count) f cdv A outer s H E).nox (defBody s_is_count) (b_is_count a c) := by
  have hu := G.hu_of hr
  have hq := hr.mono (Nat.le_add_right k 2)
  have hm := hr.mono (Nat.add_le_add_left (by decide : 1 ≤ 2) k)
  exact (qss_one (qs_ret (qe_and (q_own e.f_is_integer hq n_5 rfl (qa_cons (qv (i := 0) n_4 rfl (.inl rfl)) qa_nil rfl) rfl rfl) (qe_one (qe_cmp qo_ge (qv (i := 0) n_4 rfl (.inl rfl)) qe_int (nomark _))))))
theorem d_shifted (e : Own P w K mg base k a c) (hr : Room (k + 2) (A.deeper (envOfC "shifted" (defScope s_shifted) s.heap.objs.size f cdv))) : QSs (cxOf CX0 P w K mg base N_shifted "shifted" (defScope s_shifted) f cdv A outer s H E).nox (defBody s_shifted) (b_shifted a c) := by
  have hu := G.hu_of hr
  have hq := hr.mono (Nat.le_add_right k 2)
  have hm := hr.mono (Nat.add_le_add_left (by decide : 1 ≤ 2) k)
  exact (qss_one (qs_ret (q_tuple (qa_cons (qe_lc rfl S_shifted.nd (own := [("at", 2), ("step", 3)]) (t := (.tp (.cons (.nm 2) (.cons (.nm 3) .nil)))) (qi_zip rfl e.zip (qa_cons (qv (i := 0) n_7 rfl (.inl rfl)) (qa_cons (qv (i := 1) n_6 rfl (.inl rfl)) qa_nil rfl) rfl) rfl rfl) (by show blkC N_shifted (defScope s_shifted) _ _ = true; decide +kernel) (by decide) (fun _ _ _ _ _ => (pg_tup rfl (pgs_cons (pg_name (i := 2) S_shifted.nd rfl (.inl rfl) (.inr rfl)) (pgs_cons (pg_name (i := 3) S_shifted.nd rfl (.inl rfl) (.inr rfl)) pgs_nil rfl) rfl) rfl rfl)) (fun _ _ _ _ _ => qts_nil) (fun _ _ _ _ _ => (qe_op qo_add (qv (i := 2) n_8 rfl (.inl rfl)) (qv (i := 3) n_9 rfl (.inl rfl)))) (fun _ => rfl)) qa_nil rfl) rfl rfl rfl e.tuple)))
theorem d_rule_names (e : Own P w K mg base k a c) (hr : Room (k + 2) (A.deeper (envOfC "rule_names" (defScope s_rule_names) s.heap.objs.size f cdv))) : QSs (cxOf CX0 P w K mg base N_rule_names "rule_names" (defScope s_rule_names) f cdv A outer s H E).nox (defBody s_rule_names) (b_rule_names a c) := by
  have hu := G.hu_of hr
  have hq := hr.mono (Nat.le_add_right k 2)
  have hm := hr.mono (Nat.add_le_add_left (by decide : 1 ≤ 2) k)
  exact (qss_one (qs_ret (qe_lc rfl S_rule_names.nd (own := [("row", 1)]) (t := (.nm 1)) (qi_any (q_ix hu (qv (i := 0) n_10 rfl (.inl rfl)) qe_int (fun _ _ => rfl))) (by show blkC N_rule_names (defScope s_rule_names) _ _ = true; decide +kernel) (by decide) (fun _ _ _ _ _ => (pg_name (i := 1) S_rule_names.nd rfl (.inl rfl) (.inr rfl))) (fun _ _ _ _ _ => qts_nil) (fun _ _ _ _ _ => (q_ix hu (qv (i := 1) n_11 rfl (.inl rfl)) qe_int (fun _ _ => rfl))) (fun _ => rfl))))
theorem d_edges_of (e : Own P w K mg base k a c) (hr : Room (k + 2) (A.deeper (envOfC "edges_of" (defScope s_edges_of) s.heap.objs.size f cdv))) : QSs (cxOf CX0 P w K mg base N_edges_of "edges_of" (defScope s_edges_of) f cdv A outer s H E).nox (defBody s_edges_of) (b_edges_of a c) := by
  have hu := G.hu_of hr
  have hq := hr.mono (Nat.le_add_right k 2)
  have hm := hr.mono (Nat.add_le_add_left (by decide : 1 ≤ 2) k)
  exact (qss_cons (qs_set (i := 1) S_edges_of.nd rfl (.inl rfl) (q_own e.f_rule_names hq n_12 rfl (qa_cons (qv (i := 0) n_10 rfl (.inl rfl)) qa_nil rfl) rfl rfl) rfl (.inl rfl))
    (qss_cons (qs_set (i := 2) S_edges_of.nd rfl (.inl rfl) (qe_lst qa_nil) rfl (.inl rfl))
    (qss_cons (qs_for PassesOwn.never rfl (qi_any (q_ix hu (qv (i := 0) n_10 rfl (.inl rfl)) qe_int (fun _ _ => rfl))) (qg_tup rfl (qgs_cons (qg_name (i := 3) S_edges_of.nd rfl (.inl rfl) (.inl rfl)) (qgs_cons (qg_name (i := 4) S_edges_of.nd rfl (.inl rfl) (.inl rfl)) (qgs_cons (qg_name (i := 5) S_edges_of.nd rfl (.inl rfl) (.inl rfl)) qgs_nil rfl) rfl) rfl) rfl rfl) (qss_one (qs_for PassesOwn.never rfl (qi_any (q_own e.f_references_in hq n_3 rfl (qa_cons (qv (i := 5) n_0 rfl (.inl rfl)) qa_nil rfl) rfl rfl)) (qg_tup rfl (qgs_cons (qg_name (i := 6) S_edges_of.nd rfl (.inl rfl) (.inl rfl)) (qgs_cons (qg_name (i := 7) S_edges_of.nd rfl (.inl rfl) (.inl rfl)) (qgs_cons (qg_name (i := 8) S_edges_of.nd rfl (.inl rfl) (.inl rfl)) qgs_nil rfl) rfl) rfl) rfl rfl) (qss_one (qs_if (qt_cmp (qo_in hu) (qv (i := 7) n_13 rfl (.inl rfl)) (qv (i := 1) n_14 rfl (.inl rfl)) (by with_unfolding_all rfl)) (qss_one (qs_expr (q_append (qv (i := 2) n_2 rfl (.inl rfl)) (qa_cons (qe_tup (qa_cons (qv (i := 3) n_15 rfl (.inl rfl)) (qa_cons (qv (i := 7) n_13 rfl (.inl rfl)) (qa_cons (qv (i := 8) n_6 rfl (.inl rfl)) qa_nil rfl) rfl) rfl)) qa_nil rfl) rfl rfl rfl rfl rfl) rfl)) qss_nil)) (fun _ => rfl))) (fun _ => rfl))
    (qss_one (qs_ret (q_tuple (qa_cons (qv (i := 2) n_2 rfl (.inl rfl)) qa_nil rfl) rfl rfl rfl e.tuple))))))
theorem d_Walks_init (e : Own P w K mg base k a c) (hr : Room (k + 2) (A.deeper (envOfC "Walks.__init__" (defScope s_Walks_init) s.heap.objs.size f cdv))) : QSs (cxOf CX0 P w K mg base N_Walks_init "Walks.__init__" (defScope s_Walks_init) f cdv A outer s H E).nox (defBody s_Walks_init) (b_Walks_init a c) := by
  have hu := G.hu_of hr
  have hq := hr.mono (Nat.le_add_right k 2)
  have hm := hr.mono (Nat.add_le_add_left (by decide : 1 ≤ 2) k)
  exact (qss_cons (qs_setF e.c_Walks e.n_Walks_edges s_1 (qv (i := 0) n_16 rfl (.inl rfl)) (q_own e.f_edges_of hq n_17 rfl (qa_cons (qv (i := 1) n_10 rfl (.inl rfl)) qa_nil rfl) rfl rfl) rfl)
    (qss_cons (qs_setF e.c_Walks e.n_Walks_origin s_2 (qv (i := 0) n_16 rfl (.inl rfl)) (qe_tup (qa_cons (qv (i := 2) n_15 rfl (.inl rfl)) (qa_cons (qe_op qo_mul (qe_tup (qa_cons qe_int qa_nil rfl)) (q_len (qa_cons (q_ix hu (qv (i := 1) n_10 rfl (.inl rfl)) qe_int (fun _ _ => rfl)) qa_nil rfl) rfl rfl rfl e.len)) qa_nil rfl) rfl)) rfl)
    (qss_cons (qs_setF e.c_Walks e.n_Walks_here s_3 (qv (i := 0) n_16 rfl (.inl rfl)) (qe_dispT hu (qe_fld e.c_Walks e.n_Walks_origin s_2 (qv (i := 0) n_16 rfl (.inl rfl)) rfl) (qe_tup qa_nil)) rfl)
    (qss_one (qs_setF e.c_Walks e.n_Walks_seen s_4 (qv (i := 0) n_16 rfl (.inl rfl)) qe_dn rfl)))))
theorem d_Walks_longer (e : Own P w K mg base k a c) (hr : Room (k + 2) (A.deeper (envOfC "Walks.longer" (defScope s_Walks_longer) s.heap.objs.size f cdv))) : QSs (cxOf CX0 P w K mg base N_Walks_longer "Walks.longer" (defScope s_Walks_longer) f cdv A outer s H E).nox (defBody s_Walks_longer) (b_Walks_longer a c) := by
  have hu := G.hu_of hr
  have hq := hr.mono (Nat.le_add_right k 2)
  have hm := hr.mono (Nat.add_le_add_left (by decide : 1 ≤ 2) k)
  exact (qss_cons (qs_set (i := 1) S_Walks_longer.nd rfl (.inl rfl) qe_dn rfl (.inl rfl))
    (qss_cons (qs_lock (qs_for PassesOwn.never rfl (qi_items (qe_fld e.c_Walks e.n_Walks_here s_3 (qv (i := 0) n_16 rfl (.inl rfl)) rfl) rfl rfl) (qg_tup rfl (qgs_cons (qg_name (i := 2) S_Walks_longer.nd rfl (.inl rfl) (.inl rfl)) (qgs_cons (qg_name (i := 3) S_Walks_longer.nd rfl (.inl rfl) (.inl rfl)) qgs_nil rfl) rfl) rfl rfl) (qss_one (qs_for PassesOwn.never rfl (qi_enum rfl e.enumerate (qa_cons (qe_fld e.c_Walks e.n_Walks_edges s_1 (qv (i := 0) n_16 rfl (.inl rfl)) rfl) qa_nil rfl) rfl) (qg_tup rfl (qgs_cons (qg_name (i := 4) S_Walks_longer.nd rfl (.inl rfl) (.inl rfl)) (qgs_cons (qg_tup rfl (qgs_cons (qg_name (i := 5) S_Walks_longer.nd rfl (.inl rfl) (.inl rfl)) (qgs_cons (qg_name (i := 6) S_Walks_longer.nd rfl (.inl rfl) (.inl rfl)) (qgs_cons (qg_name (i := 7) S_Walks_longer.nd rfl (.inl rfl) (.inl rfl)) qgs_nil rfl) rfl) rfl) rfl rfl) qgs_nil rfl) rfl) rfl rfl) (qss_cons (qs_set (i := 8) S_Walks_longer.nd rfl (.inl rfl) (qe_tup (qa_cons (qv (i := 6) n_13 rfl (.inl rfl)) (qa_cons (q_own e.f_shifted hq n_18 rfl (qa_cons (q_ix hu (qv (i := 2) n_7 rfl (.inl rfl)) qe_int (fun _ _ => rfl)) (qa_cons (qv (i := 7) n_6 rfl (.inl rfl)) qa_nil rfl) rfl) rfl rfl) qa_nil rfl) rfl)) rfl (.inl rfl))
    (qss_one (qs_if (q_w (qw_and (qt_cmp (q_eq hu) (qv (i := 5) n_19 rfl (.inl rfl)) (q_ix hu (qv (i := 2) n_7 rfl (.inl rfl)) qe_int (fun _ _ => rfl)) (nomark _)) (qw_and (qt_cmp (qo_notIn hu) (qv (i := 8) n_20 rfl (.inl rfl)) (qe_fld e.c_Walks e.n_Walks_seen s_4 (qv (i := 0) n_16 rfl (.inl rfl)) rfl) (by with_unfolding_all rfl)) (qw_and1 (qt_cmp (qo_notIn hu) (qv (i := 8) n_20 rfl (.inl rfl)) (qv (i := 1) n_2 rfl (.inl rfl)) (by with_unfolding_all rfl)))))) (qss_one (qs_asg (qe_op qo_add (qv (i := 3) n_21 rfl (.inl rfl)) (qe_tup (qa_cons (qv (i := 4) n_22 rfl (.inl rfl)) qa_nil rfl))) (qg_sub' hu (qv (i := 1) n_2 rfl (.inl rfl)) (qv (i := 8) n_20 rfl (.inl rfl)) (fun _ => rfl)) rfl rfl rfl)) qss_nil))) (fun _ => rfl))) (fun _ => rfl)))
    (qss_one (qs_ret (qv (i := 1) n_2 rfl (.inl rfl))))))
theorem d_Walks_step (e : Own P w K mg base k a c) (hr : Room (k + 2) (A.deeper (envOfC "Walks.step" (defScope s_Walks_step) s.heap.objs.size f cdv))) : QSs (cxOf CX0 P w K mg base N_Walks_step "Walks.step" (defScope s_Walks_step) f cdv A outer s H E).nox (defBody s_Walks_step) (b_Walks_step a c) := by
  have hu := G.hu_of hr
  have hq := hr.mono (Nat.le_add_right k 2)
  have hm := hr.mono (Nat.add_le_add_left (by decide : 1 ≤ 2) k)
  exact (qss_cons (qs_setF e.c_Walks e.n_Walks_here s_3 (qv (i := 0) n_16 rfl (.inl rfl)) (qe_meth0 e.c_Walks e.f_Walks_longer hq s_5 (qv (i := 0) n_16 rfl (.inl rfl)) rfl) rfl)
    (qss_cons (qs_lock (qs_for PassesOwn.never rfl (qi_keyT (qe_fld e.c_Walks e.n_Walks_here s_3 (qv (i := 0) n_16 rfl (.inl rfl)) rfl)) (qg_name (i := 1) S_Walks_step.nd rfl (.inl rfl) (.inl rfl)) (qss_one (qs_asg qe_bl (qg_sub' hu (qe_fld e.c_Walks e.n_Walks_seen s_4 (qv (i := 0) n_16 rfl (.inl rfl)) rfl) (qv (i := 1) n_7 rfl (.inl rfl)) (fun _ => rfl)) rfl rfl rfl)) (fun _ => rfl)))
    (qss_one (qs_ret (q_get (qe_fld e.c_Walks e.n_Walks_here s_3 (qv (i := 0) n_16 rfl (.inl rfl)) rfl) (qa_cons (qe_fld e.c_Walks e.n_Walks_origin s_2 (qv (i := 0) n_16 rfl (.inl rfl)) rfl) (qa_cons (qe_tup qa_nil) qa_nil rfl) rfl) rfl rfl rfl rfl hu rfl)))))
theorem d_shortest_from (e : Own P w K mg base k a c) (hr : Room (k + 2) (A.deeper (envOfC "shortest_from" (defScope s_shortest_from) s.heap.objs.size f cdv))) : QSs (cxOf CX0 P w K mg base N_shortest_from "shortest_from" (defScope s_shortest_from) f cdv A outer s H E).nox (defBody s_shortest_from) (b_shortest_from a c) := by
  have hu := G.hu_of hr
  have hq := hr.mono (Nat.le_add_right k 2)
  have hm := hr.mono (Nat.add_le_add_left (by decide : 1 ≤ 2) k)
  exact (qss_cons (qs_set (i := 3) S_shortest_from.nd rfl (.inl rfl) (qe_make e.f_Walks_init hm rfl (qa_cons (qv (i := 0) n_10 rfl (.inl rfl)) (qa_cons (qv (i := 1) n_15 rfl (.inl rfl)) qa_nil rfl) rfl) (nm1 n_23) rfl rfl) rfl (.inl rfl))
    (qss_cons (qs_for PassesOwn.never rfl (qi_r1 rfl e.range (qa_cons (qv (i := 2) n_24 rfl (.inl rfl)) qa_nil rfl) rfl) (qg_name (i := 4) S_shortest_from.nd rfl (.inl rfl) (.inl rfl)) (qss_cons (qs_set (i := 5) S_shortest_from.nd rfl (.inl rfl) (qe_meth0 e.c_Walks e.f_Walks_step hq s_6 (qv (i := 3) n_25 rfl (.inl rfl)) rfl) rfl (.inl rfl))
    (qss_one (qs_if (qt_cmp (q_ne hu) (qv (i := 5) n_2 rfl (.inl rfl)) (qe_tup qa_nil) (nomark _)) (qss_one (qs_ret (qv (i := 5) n_2 rfl (.inl rfl)))) qss_nil))) (fun _ => rfl))
    (qss_one (qs_ret (qe_tup qa_nil)))))
theorem d_walk_order (e : Own P w K mg base k a c) (hr : Room (k + 2) (A.deeper (envOfC "walk_order" (defScope s_walk_order) s.heap.objs.size f cdv))) : QSs (cxOf CX0 P w K mg base N_walk_order "walk_order" (defScope s_walk_order) f cdv A outer s H E).nox (defBody s_walk_order) (b_walk_order a c) := by
  have hu := G.hu_of hr
  have hq := hr.mono (Nat.le_add_right k 2)
  have hm := hr.mono (Nat.add_le_add_left (by decide : 1 ≤ 2) k)
  exact (qss_one (qs_ret (qe_tup (qa_cons (q_len (qa_cons (qv (i := 0) n_21 rfl (.inl rfl)) qa_nil rfl) rfl rfl rfl e.len) (qa_cons (qv (i := 0) n_21 rfl (.inl rfl)) qa_nil rfl) rfl))))
theorem d_shortest_walk (e : Own P w K mg base k a c) (hr : Room (k + 2) (A.deeper (envOfC "shortest_walk" (defScope s_shortest_walk) s.heap.objs.size f cdv))) : QSs (cxOf CX0 P w K mg base N_shortest_walk "shortest_walk" (defScope s_shortest_walk) f cdv A outer s H E).nox (defBody s_shortest_walk) (b_shortest_walk a c) := by
  have hu := G.hu_of hr
  have hq := hr.mono (Nat.le_add_right k 2)
  have hm := hr.mono (Nat.add_le_add_left (by decide : 1 ≤ 2) k)
  exact (qss_cons (qs_setLc (i := 2) rfl S_shortest_walk.nd rfl rfl (sw_true rfl rfl rfl (by decide +kernel)) (own := [("name", 3)]) (t := (.nm 3)) (qi_any (q_own e.f_rule_names hq n_12 rfl (qa_cons (qv (i := 0) n_10 rfl (.inr (.inl rfl))) qa_nil rfl) rfl rfl)) (by show blkC N_shortest_walk (defScope s_shortest_walk) _ _ = true; decide +kernel) (by decide) (fun _ _ _ _ _ => (pg_name (i := 3) S_shortest_walk.nd rfl (.inl rfl) (.inr rfl))) (fun _ _ _ _ _ => qts_nil) (fun _ _ _ _ _ => (q_own e.f_shortest_from hq n_26 rfl (qa_cons (qv (i := 0) n_10 rfl (.inr (.inl rfl))) (qa_cons (qv (i := 3) n_15 rfl (.inl rfl)) (qa_cons (qv (i := 1) n_24 rfl (.inr (.inl rfl))) qa_nil rfl) rfl) rfl) rfl rfl)) (fun _ => rfl))
    (qss_cons (qs_set (i := 2) S_shortest_walk.nd rfl (.inl rfl) (qe_sortK rfl e.f_walk_order hr n_27 rfl rfl e.sorted (qa_cons (qe_lc rfl S_shortest_walk.nd (own := [("walk", 4)]) (t := (.nm 4)) (qi_any (qv (i := 2) n_2 rfl (.inl rfl))) (by show blkC N_shortest_walk (defScope s_shortest_walk) _ _ = true; decide +kernel) (by decide) (fun _ _ _ _ _ => (pg_name (i := 4) S_shortest_walk.nd rfl (.inl rfl) (.inr rfl))) (fun _ _ _ _ _ => (qts_one (qt_cmp (q_ne hu) (qv (i := 4) n_21 rfl (.inl rfl)) (qe_tup qa_nil) (nomark _)))) (fun _ _ _ _ _ => (qv (i := 4) n_21 rfl (.inl rfl))) (fun _ => rfl)) qa_nil rfl) rfl rfl) rfl (.inl rfl))
    (qss_one (qs_ret (qe_if (qt_of (qv (i := 2) n_2 rfl (.inl rfl)) (fun _ => rfl)) (q_ix hu (qv (i := 2) n_2 rfl (.inl rfl)) qe_int (fun _ _ => rfl)) (qe_tup qa_nil))))))
theorem d_sums_along (e : Own P w K mg base k a c) (hr : Room (k + 2) (A.deeper (envOfC "sums_along" (defScope s_sums_along) s.heap.objs.size f cdv))) : QSs (cxOf CX0 P w K mg base N_sums_along "sums_along" (defScope s_sums_along) f cdv A outer s H E).nox (defBody s_sums_along) (b_sums_along a c) := by
  have hu := G.hu_of hr
  have hq := hr.mono (Nat.le_add_right k 2)
  have hm := hr.mono (Nat.add_le_add_left (by decide : 1 ≤ 2) k)
  exact (qss_cons (qs_set (i := 3) S_sums_along.nd rfl (.inl rfl) (qe_lst (qa_cons (qe_op qo_mul (qe_tup (qa_cons qe_int qa_nil rfl)) (q_len (qa_cons (q_ix hu (qv (i := 0) n_10 rfl (.inl rfl)) qe_int (fun _ _ => rfl)) qa_nil rfl) rfl rfl rfl e.len)) qa_nil rfl)) rfl (.inl rfl))
    (qss_cons (qs_for PassesOwn.never rfl (qi_any (qv (i := 2) n_21 rfl (.inl rfl))) (qg_name (i := 4) S_sums_along.nd rfl (.inl rfl) (.inl rfl)) (qss_one (qs_expr (q_append (qv (i := 3) n_28 rfl (.inl rfl)) (qa_cons (q_tuple (qa_cons (qe_lc rfl S_sums_along.nd (own := [("at", 5), ("step", 6)]) (t := (.tp (.cons (.nm 5) (.cons (.nm 6) .nil)))) (qi_zip rfl e.zip (qa_cons (q_ix hu (qv (i := 3) n_28 rfl (.inl rfl)) (qe_neg qe_int) (fun _ _ => rfl)) (qa_cons (q_ix hu (q_ix hu (qv (i := 1) n_29 rfl (.inl rfl)) (qv (i := 4) n_22 rfl (.inl rfl)) (fun _ _ => rfl)) qe_int (fun _ _ => rfl)) qa_nil rfl) rfl) rfl rfl) (by show blkC N_sums_along (defScope s_sums_along) _ _ = true; decide +kernel) (by decide) (fun _ _ _ _ _ => (pg_tup rfl (pgs_cons (pg_name (i := 5) S_sums_along.nd rfl (.inl rfl) (.inr rfl)) (pgs_cons (pg_name (i := 6) S_sums_along.nd rfl (.inl rfl) (.inr rfl)) pgs_nil rfl) rfl) rfl rfl)) (fun _ _ _ _ _ => qts_nil) (fun _ _ _ _ _ => (qe_op qo_add (qv (i := 5) n_8 rfl (.inl rfl)) (qv (i := 6) n_9 rfl (.inl rfl)))) (fun _ => rfl)) qa_nil rfl) rfl rfl rfl e.tuple) qa_nil rfl) rfl rfl rfl rfl rfl) rfl)) (fun _ => rfl))
    (qss_one (qs_ret (qv (i := 3) n_28 rfl (.inl rfl))))))
theorem d_shows_walk (e : Own P w K mg base k a c) (hr : Room (k + 2) (A.deeper (envOfC "shows_walk" (defScope s_shows_walk) s.heap.objs.size f cdv))) : QSs (cxOf CX0 P w K mg base N_shows_walk "shows_walk" (defScope s_shows_walk) f cdv A outer s H E).nox (defBody s_shows_walk) (b_shows_walk a c) := by
  have hu := G.hu_of hr
  have hq := hr.mono (Nat.le_add_right k 2)
  have hm := hr.mono (Nat.add_le_add_left (by decide : 1 ≤ 2) k)
  exact (qss_cons (qs_set (i := 2) S_shows_walk.nd rfl (.inr rfl) (q_own e.f_edges_of hq n_17 rfl (qa_cons (qv (i := 0) n_10 rfl (.inl rfl)) qa_nil rfl) rfl rfl) rfl (.inl rfl))
    (qss_cons (qs_if (q_w (qw_or (qt_not (qt_of (q_isa .tuple rfl e.isinstance rfl e.tuple (qv (i := 1) n_4 rfl (.inl rfl)) rfl rfl rfl) (fun _ => rfl))) (qw_or1 (qt_cmp (q_eq hu) (qv (i := 1) n_4 rfl (.inl rfl)) (qe_tup qa_nil) (nomark _))))) (qss_one (qs_ret qe_bl)) qss_nil)
    (qss_cons (qs_if (qt_not (qt_of (q_all (qa_cons (qe_lc rfl S_shows_walk.nd (own := [("number", 5)]) (t := (.nm 5)) (qi_any (qv (i := 1) n_4 rfl (.inl rfl))) (by show blkC N_shows_walk (defScope s_shows_walk) _ _ = true; decide +kernel) (by decide) (fun _ _ _ _ _ => (pg_name (i := 5) S_shows_walk.nd rfl (.inl rfl) (.inr rfl))) (fun _ _ _ _ _ => qts_nil) (fun _ _ _ _ _ => (qe_and (q_own e.f_is_count hq n_30 rfl (qa_cons (qv (i := 5) n_22 rfl (.inl rfl)) qa_nil rfl) rfl rfl) (qe_one (qe_cmp qo_lt (qv (i := 5) n_22 rfl (.inl rfl)) (q_len (qa_cons (qv (i := 2) n_29 rfl (.inr (.inl rfl))) qa_nil rfl) rfl rfl rfl e.len) (nomark _))))) (fun _ => rfl)) qa_nil rfl) rfl rfl rfl rfl e.all) (fun _ => rfl))) (qss_one (qs_ret qe_bl)) qss_nil)
    (qss_cons (qs_for PassesOwn.never rfl (qi_zip rfl e.zip (qa_cons (qv (i := 1) n_4 rfl (.inl rfl)) (qa_cons (qe_op qo_add (qe_sl (qv (i := 1) n_4 rfl (.inl rfl)) (qp_some qe_int) qp_none) (qe_sl (qv (i := 1) n_4 rfl (.inl rfl)) qp_none (qp_some qe_int))) qa_nil rfl) rfl) rfl rfl) (qg_tup rfl (qgs_cons (qg_name (i := 3) S_shows_walk.nd rfl (.inl rfl) (.inl rfl)) (qgs_cons (qg_name (i := 4) S_shows_walk.nd rfl (.inl rfl) (.inl rfl)) qgs_nil rfl) rfl) rfl rfl) (qss_one (qs_if (qt_cmp (q_ne hu) (q_ix hu (q_ix hu (qv (i := 2) n_29 rfl (.inr (.inl rfl))) (qv (i := 3) n_19 rfl (.inl rfl)) (fun _ _ => rfl)) qe_int (fun _ _ => rfl)) (q_ix hu (q_ix hu (qv (i := 2) n_29 rfl (.inr (.inl rfl))) (qv (i := 4) n_13 rfl (.inl rfl)) (fun _ _ => rfl)) qe_int (fun _ _ => rfl)) (nomark _)) (qss_one (qs_ret qe_bl)) qss_nil)) (fun _ => rfl))
    (qss_one (qs_ret (qe_not (q_any (qa_cons (q_ix hu (q_own e.f_sums_along hq n_31 rfl (qa_cons (qv (i := 0) n_10 rfl (.inl rfl)) (qa_cons (qv (i := 2) n_29 rfl (.inr (.inl rfl))) (qa_cons (qv (i := 1) n_4 rfl (.inl rfl)) qa_nil rfl) rfl) rfl) rfl rfl) (qe_neg qe_int) (fun _ _ => rfl)) qa_nil rfl) rfl rfl rfl rfl e.any))))))))
theorem d__law_start (e : Own P w K mg base k a c) (hr : Room (k + 2) (A.deeper (envOfC "_law_start" (defScope s__law_start) s.heap.objs.size f cdv))) : QSs (cxOf CX0 P w K mg base N__law_start "_law_start" (defScope s__law_start) f cdv A outer s H E).nox (defBody s__law_start) (b__law_start a c) := by
  have hu := G.hu_of hr
  have hq := hr.mono (Nat.le_add_right k 2)
  have hm := hr.mono (Nat.add_le_add_left (by decide : 1 ≤ 2) k)
  exact (qss_one (qs_ret (qe_lst (qa_cons (q_list (qa_cons (qv (i := 0) n_32 rfl (.inl rfl)) qa_nil rfl) rfl rfl rfl rfl e.list) (qa_cons qe_int (qa_cons qe_int (qa_cons qe_int qa_nil rfl) rfl) rfl) rfl))))
theorem d__law_draw (e : Own P w K mg base k a c) (hr : Room (k + 2) (A.deeper (envOfC "_law_draw" (defScope s__law_draw) s.heap.objs.size f cdv))) : QSs (cxOf CX0 P w K mg base N__law_draw "_law_draw" (defScope s__law_draw) f cdv A outer s H E).nox (defBody s__law_draw) (b__law_draw a c) := by
  have hu := G.hu_of hr
  have hq := hr.mono (Nat.le_add_right k 2)
  have hm := hr.mono (Nat.add_le_add_left (by decide : 1 ≤ 2) k)
  exact (qss_cons (qs_asg (qe_op qo_add (q_ix hu (qv (i := 0) n_33 rfl (.inl rfl)) qe_int (fun _ _ => rfl)) qe_int) (qg_sub' hu (qv (i := 0) n_33 rfl (.inl rfl)) qe_int (fun _ => rfl)) rfl rfl rfl)
    (qss_cons (qs_if (qt_cmp qo_gt (q_ix hu (qv (i := 0) n_33 rfl (.inl rfl)) qe_int (fun _ _ => rfl)) qe_int (nomark _)) (qss_cons (qs_set (i := 2) S__law_draw.nd rfl (.inl rfl) (qe_op qo_mod (q_int (qa_cons (q_ix hu (qv (i := 0) n_33 rfl (.inl rfl)) qe_int (fun _ _ => rfl)) qa_nil rfl) rfl rfl rfl e.int) (qv (i := 1) n_24 rfl (.inl rfl))) rfl (.inl rfl))
    (qss_cons (qs_asg (qe_op qo_div (q_ix hu (qv (i := 0) n_33 rfl (.inl rfl)) qe_int (fun _ _ => rfl)) (qv (i := 1) n_24 rfl (.inl rfl))) (qg_sub' hu (qv (i := 0) n_33 rfl (.inl rfl)) qe_int (fun _ => rfl)) rfl rfl rfl)
    (qss_one (qs_ret (qv (i := 2) n_2 rfl (.inl rfl)))))) qss_nil)
    (qss_cons (qs_set (i := 3) S__law_draw.nd rfl (.inl rfl) qe_int rfl (.inl rfl))
    (qss_cons (qs_if (qt_cmp qo_gt (q_len (qa_cons (q_ix hu (qv (i := 0) n_33 rfl (.inl rfl)) qe_int (fun _ _ => rfl)) qa_nil rfl) rfl rfl rfl e.len) qe_int (nomark _)) (qss_one (qs_set (i := 3) S__law_draw.nd rfl (.inl rfl) (q_abs (qa_cons (q_ix hu (q_ix hu (qv (i := 0) n_33 rfl (.inl rfl)) qe_int (fun _ _ => rfl)) (qe_op qo_mod (q_int (qa_cons (q_ix hu (qv (i := 0) n_33 rfl (.inl rfl)) qe_int (fun _ _ => rfl)) qa_nil rfl) rfl rfl rfl e.int) (q_len (qa_cons (q_ix hu (qv (i := 0) n_33 rfl (.inl rfl)) qe_int (fun _ _ => rfl)) qa_nil rfl) rfl rfl rfl e.len)) (fun _ _ => rfl)) qa_nil rfl) rfl rfl rfl e.abs) rfl (.inl rfl))) qss_nil)
    (qss_cons (qs_asg (qe_op qo_add (q_ix hu (qv (i := 0) n_33 rfl (.inl rfl)) qe_int (fun _ _ => rfl)) qe_int) (qg_sub' hu (qv (i := 0) n_33 rfl (.inl rfl)) qe_int (fun _ => rfl)) rfl rfl rfl)
    (qss_cons (qs_if (qt_cmp qo_ge (qv (i := 3) n_34 rfl (.inl rfl)) (qe_op qo_pow qe_int qe_int) (nomark _)) (qss_cons (qs_asg (qe_op qo_div (qv (i := 3) n_34 rfl (.inl rfl)) (qv (i := 1) n_24 rfl (.inl rfl))) (qg_sub' hu (qv (i := 0) n_33 rfl (.inl rfl)) qe_int (fun _ => rfl)) rfl rfl rfl)
    (qss_one (qs_ret (qe_op qo_mod (q_int (qa_cons (qv (i := 3) n_34 rfl (.inl rfl)) qa_nil rfl) rfl rfl rfl e.int) (qv (i := 1) n_24 rfl (.inl rfl)))))) qss_nil)
    (qss_cons (qs_set (i := 4) S__law_draw.nd rfl (.inl rfl) (qe_op qo_mod (q_int (qa_cons (qe_op qo_add (qe_op qo_mul (qe_op qo_add (qv (i := 3) n_34 rfl (.inl rfl)) qe_int) qe_int) (qe_op qo_mul (q_ix hu (qv (i := 0) n_33 rfl (.inl rfl)) qe_int (fun _ _ => rfl)) qe_int)) qa_nil rfl) rfl rfl rfl e.int) qe_int) rfl (.inl rfl))
    (qss_cons (qs_set (i := 4) S__law_draw.nd rfl (.inl rfl) (qe_op qo_mod (q_int (qa_cons (qe_op qo_add (qe_op qo_add (qe_op qo_mul (qv (i := 4) n_35 rfl (.inl rfl)) qe_int) (qe_op qo_div (qv (i := 3) n_34 rfl (.inl rfl)) qe_int)) (q_ix hu (qv (i := 0) n_33 rfl (.inl rfl)) qe_int (fun _ _ => rfl))) qa_nil rfl) rfl rfl rfl e.int) qe_int) rfl (.inl rfl))
    (qss_one (qs_ret (qe_op qo_mod (qe_op qo_div (qv (i := 4) n_35 rfl (.inl rfl)) qe_int) (qv (i := 1) n_24 rfl (.inl rfl)))))))))))))
theorem d__law_one_of (e : Own P w K mg base k a c) (hr : Room (k + 2) (A.deeper (envOfC "_law_one_of" (defScope s__law_one_of) s.heap.objs.size f cdv))) : QSs (cxOf CX0 P w K mg base N__law_one_of "_law_one_of" (defScope s__law_one_of) f cdv A outer s H E).nox (defBody s__law_one_of) (b__law_one_of a c) := by
  have hu := G.hu_of hr
  have hq := hr.mono (Nat.le_add_right k 2)
  have hm := hr.mono (Nat.add_le_add_left (by decide : 1 ≤ 2) k)
  exact (qss_one (qs_ret (q_ix hu (qv (i := 1) n_36 rfl (.inl rfl)) (q_own e.f__law_draw hq n_37 rfl (qa_cons (qv (i := 0) n_33 rfl (.inl rfl)) (qa_cons (q_len (qa_cons (qv (i := 1) n_36 rfl (.inl rfl)) qa_nil rfl) rfl rfl rfl e.len) qa_nil rfl) rfl) rfl rfl) (fun _ _ => rfl))))
theorem d__law_shuffled (e : Own P w K mg base k a c) (hr : Room (k + 2) (A.deeper (envOfC "_law_shuffled" (defScope s__law_shuffled) s.heap.objs.size f cdv))) : QSs (cxOf CX0 P w K mg base N__law_shuffled "_law_shuffled" (defScope s__law_shuffled) f cdv A outer s H E).nox (defBody s__law_shuffled) (b__law_shuffled a c) := by
  have hu := G.hu_of hr
  have hq := hr.mono (Nat.le_add_right k 2)
  have hm := hr.mono (Nat.add_le_add_left (by decide : 1 ≤ 2) k)
  exact (qss_cons (qs_set (i := 2) S__law_shuffled.nd rfl (.inl rfl) (qe_lst qa_nil) rfl (.inl rfl))
    (qss_cons (qs_for PassesOwn.never rfl (qi_any (qv (i := 1) n_36 rfl (.inl rfl))) (qg_name (i := 3) S__law_shuffled.nd rfl (.inl rfl) (.inl rfl)) (qss_one (qs_expr (q_insert (qv (i := 2) n_2 rfl (.inl rfl)) (qa_cons (q_own e.f__law_draw hq n_37 rfl (qa_cons (qv (i := 0) n_33 rfl (.inl rfl)) (qa_cons (qe_op qo_add (q_len (qa_cons (qv (i := 2) n_2 rfl (.inl rfl)) qa_nil rfl) rfl rfl rfl e.len) qe_int) qa_nil rfl) rfl) rfl rfl) (qa_cons (qv (i := 3) n_38 rfl (.inl rfl)) qa_nil rfl) rfl) rfl rfl rfl rfl rfl) rfl)) (fun _ => rfl))
    (qss_one (qs_ret (qv (i := 2) n_2 rfl (.inl rfl))))))
theorem d__law_words (e : Own P w K mg base k a c) (hr : Room (k + 2) (A.deeper (envOfC "_law_words" (defScope s__law_words) s.heap.objs.size f cdv))) : QSs (cxOf CX0 P w K mg base N__law_words "_law_words" (defScope s__law_words) f cdv A outer s H E).nox (defBody s__law_words) (b__law_words a c) := by
  have hu := G.hu_of hr
  have hq := hr.mono (Nat.le_add_right k 2)
  have hm := hr.mono (Nat.add_le_add_left (by decide : 1 ≤ 2) k)
  exact (qss_cons (qs_set (i := 2) S__law_words.nd rfl (.inr rfl) (q_str s_7) rfl (.inl rfl))
    (qss_cons (qs_set (i := 3) S__law_words.nd rfl (.inr rfl) (q_own e.f__law_draw hq n_37 rfl (qa_cons (qv (i := 0) n_33 rfl (.inl rfl)) (qa_cons qe_int qa_nil rfl) rfl) rfl rfl) rfl (.inl rfl))
    (qss_cons (qs_set (i := 4) S__law_words.nd rfl (.inr rfl) (qe_op qo_add qe_int (qe_op qo_mul qe_int (q_own e.f__law_draw hq n_37 rfl (qa_cons (qv (i := 0) n_33 rfl (.inl rfl)) (qa_cons qe_int qa_nil rfl) rfl) rfl rfl))) rfl (.inl rfl))
    (qss_cons (qs_set (i := 5) S__law_words.nd rfl (.inr rfl) (qe_sl (q_str s_8) qp_none (qp_some (q_own e.f__law_draw hq n_37 rfl (qa_cons (qv (i := 0) n_33 rfl (.inl rfl)) (qa_cons qe_int qa_nil rfl) rfl) rfl rfl))) rfl (.inl rfl))
    (qss_cons (qs_if (qt_cmp (q_eq hu) (q_own e.f__law_draw hq n_37 rfl (qa_cons (qv (i := 0) n_33 rfl (.inl rfl)) (qa_cons qe_int qa_nil rfl) rfl) rfl rfl) qe_int (nomark _)) (qss_one (qs_ret (qe_lc rfl S__law_words.nd (own := [("k", 6)]) (t := (.nm 6)) (qi_r1 rfl e.range (qa_cons (qv (i := 1) n_39 rfl (.inl rfl)) qa_nil rfl) rfl) (by show blkC N__law_words (defScope s__law_words) _ _ = true; decide +kernel) (by decide) (fun _ _ _ _ _ => (pg_name (i := 6) S__law_words.nd rfl (.inl rfl) (.inr rfl))) (fun _ _ _ _ _ => qts_nil) (fun _ _ _ _ _ => (qe_op qo_add (qv (i := 5) n_40 rfl (.inr (.inl rfl))) (q_ix hu (qv (i := 2) n_41 rfl (.inr (.inl rfl))) (qe_op qo_mod (q_int (qa_cons (qe_op qo_add (qv (i := 3) n_42 rfl (.inr (.inl rfl))) (qe_op qo_mul (qv (i := 6) n_43 rfl (.inl rfl)) (qv (i := 4) n_9 rfl (.inr (.inl rfl))))) qa_nil rfl) rfl rfl rfl e.int) qe_int) (fun _ _ => rfl)))) (fun _ => rfl)))) qss_nil)
    (qss_one (qs_ret (qe_lc rfl S__law_words.nd (own := [("k", 6)]) (t := (.nm 6)) (qi_r1 rfl e.range (qa_cons (qv (i := 1) n_39 rfl (.inl rfl)) qa_nil rfl) rfl) (by show blkC N__law_words (defScope s__law_words) _ _ = true; decide +kernel) (by decide) (fun _ _ _ _ _ => (pg_name (i := 6) S__law_words.nd rfl (.inl rfl) (.inr rfl))) (fun _ _ _ _ _ => qts_nil) (fun _ _ _ _ _ => (qe_op qo_add (q_ix hu (qv (i := 2) n_41 rfl (.inr (.inl rfl))) (qe_op qo_mod (q_int (qa_cons (qe_op qo_add (qv (i := 3) n_42 rfl (.inr (.inl rfl))) (qe_op qo_mul (qv (i := 6) n_43 rfl (.inl rfl)) (qv (i := 4) n_9 rfl (.inr (.inl rfl))))) qa_nil rfl) rfl rfl rfl e.int) qe_int) (fun _ _ => rfl)) (qv (i := 5) n_40 rfl (.inr (.inl rfl))))) (fun _ => rfl)))))))))
theorem d__law_is_int (e : Own P w K mg base k a c) (hr : Room (k + 2) (A.deeper (envOfC "_law_is_int" (defScope s__law_is_int) s.heap.objs.size f cdv))) : QSs (cxOf CX0 P w K mg base N__law_is_int "_law_is_int" (defScope s__law_is_int) f cdv A outer s H E).nox (defBody s__law_is_int) (b__law_is_int a c) := by
  have hu := G.hu_of hr
  have hq := hr.mono (Nat.le_add_right k 2)
  have hm := hr.mono (Nat.add_le_add_left (by decide : 1 ≤ 2) k)
  exact (qss_one (qs_ret (qe_and (q_isa .int rfl e.isinstance rfl e.int (qv (i := 0) n_44 rfl (.inl rfl)) rfl rfl rfl) (qe_one (qe_not (q_isa .bool rfl e.isinstance rfl e.bool (qv (i := 0) n_44 rfl (.inl rfl)) rfl rfl rfl))))))
theorem d__law_same (e : Own P w K mg base k a c) (hr : Room (k + 2) (A.deeper (envOfC "_law_same" (defScope s__law_same) s.heap.objs.size f cdv))) : QSs (cxOf CX0 P w K mg base N__law_same "_law_same" (defScope s__law_same) f cdv A outer s H E).nox (defBody s__law_same) (b__law_same a c) := by
  have hu := G.hu_of hr
  have hq := hr.mono (Nat.le_add_right k 2)
  have hm := hr.mono (Nat.add_le_add_left (by decide : 1 ≤ 2) k)
  exact (qss_cons (qs_if (qt_of (q_isa .tuple rfl e.isinstance rfl e.tuple (qv (i := 1) n_45 rfl (.inr (.inl rfl))) rfl rfl rfl) (fun _ => rfl)) (qss_cons (qs_if (q_w (qw_or (qt_not (qt_of (q_isa .tuple rfl e.isinstance rfl e.tuple (qv (i := 0) n_44 rfl (.inr (.inl rfl))) rfl rfl rfl) (fun _ => rfl))) (qw_or1 (qt_cmp (q_ne hu) (q_len (qa_cons (qv (i := 0) n_44 rfl (.inr (.inl rfl))) qa_nil rfl) rfl rfl rfl e.len) (q_len (qa_cons (qv (i := 1) n_45 rfl (.inr (.inl rfl))) qa_nil rfl) rfl rfl rfl e.len) (nomark _))))) (qss_one (qs_ret qe_bl)) qss_nil)
    (qss_one (qs_ret (q_all (qa_cons (qe_lc rfl S__law_same.nd (own := [("k", 2)]) (t := (.nm 2)) (qi_r1 rfl e.range (qa_cons (q_len (qa_cons (qv (i := 1) n_45 rfl (.inr (.inl rfl))) qa_nil rfl) rfl rfl rfl e.len) qa_nil rfl) rfl) (by show blkC N__law_same (defScope s__law_same) _ _ = true; decide +kernel) (by decide) (fun _ _ _ _ _ => (pg_name (i := 2) S__law_same.nd rfl (.inl rfl) (.inr rfl))) (fun _ _ _ _ _ => qts_nil) (fun _ _ _ _ _ => (q_own e.f__law_same hq n_46 rfl (qa_cons (q_ix hu (qv (i := 0) n_44 rfl (.inr (.inl rfl))) (qv (i := 2) n_43 rfl (.inl rfl)) (fun _ _ => rfl)) (qa_cons (q_ix hu (qv (i := 1) n_45 rfl (.inr (.inl rfl))) (qv (i := 2) n_43 rfl (.inl rfl)) (fun _ _ => rfl)) qa_nil rfl) rfl) rfl rfl)) (fun _ => rfl)) qa_nil rfl) rfl rfl rfl rfl e.all)))) qss_nil)
    (qss_cons (qs_if (qt_of (q_isa .str rfl e.isinstance rfl e.str (qv (i := 1) n_45 rfl (.inr (.inl rfl))) rfl rfl rfl) (fun _ => rfl)) (qss_one (qs_ret (qe_and (q_isa .str rfl e.isinstance rfl e.str (qv (i := 0) n_44 rfl (.inr (.inl rfl))) rfl rfl rfl) (qe_one (qe_cmp (q_eq hu) (qv (i := 0) n_44 rfl (.inr (.inl rfl))) (qv (i := 1) n_45 rfl (.inr (.inl rfl))) (nomark _)))))) qss_nil)
    (qss_one (qs_ret (qe_and (q_own e.f__law_is_int hq n_47 rfl (qa_cons (qv (i := 0) n_44 rfl (.inr (.inl rfl))) qa_nil rfl) rfl rfl) (qe_one (qe_cmp (q_eq hu) (qv (i := 0) n_44 rfl (.inr (.inl rfl))) (qv (i := 1) n_45 rfl (.inr (.inl rfl))) (nomark _))))))))
theorem d__law_offsets (e : Own P w K mg base k a c) (hr : Room (k + 2) (A.deeper (envOfC "_law_offsets" (defScope s__law_offsets) s.heap.objs.size f cdv))) : QSs (cxOf CX0 P w K mg base N__law_offsets "_law_offsets" (defScope s__law_offsets) f cdv A outer s H E).nox (defBody s__law_offsets) (b__law_offsets a c) := by
  have hu := G.hu_of hr
  have hq := hr.mono (Nat.le_add_right k 2)
  have hm := hr.mono (Nat.add_le_add_left (by decide : 1 ≤ 2) k)
  exact (qss_one (qs_ret (q_tuple (qa_cons (qe_lc rfl S__law_offsets.nd (own := [("k", 3)]) (t := (.nm 3)) (qi_r1 rfl e.range (qa_cons (qv (i := 1) n_39 rfl (.inl rfl)) qa_nil rfl) rfl) (by show blkC N__law_offsets (defScope s__law_offsets) _ _ = true; decide +kernel) (by decide) (fun _ _ _ _ _ => (pg_name (i := 3) S__law_offsets.nd rfl (.inl rfl) (.inr rfl))) (fun _ _ _ _ _ => qts_nil) (fun _ _ _ _ _ => (qe_op qo_sub (q_own e.f__law_draw hq n_37 rfl (qa_cons (qv (i := 0) n_33 rfl (.inr (.inl rfl))) (qa_cons (qe_op qo_add (qe_op qo_mul qe_int (qv (i := 2) n_24 rfl (.inr (.inl rfl)))) qe_int) qa_nil rfl) rfl) rfl rfl) (qv (i := 2) n_24 rfl (.inr (.inl rfl))))) (fun _ => rfl)) qa_nil rfl) rfl rfl rfl e.tuple)))
theorem d__law_some_part (e : Own P w K mg base k a c) (hr : Room (k + 2) (A.deeper (envOfC "_law_some_part" (defScope s__law_some_part) s.heap.objs.size f cdv))) : QSs (cxOf CX0 P w K mg base N__law_some_part "_law_some_part" (defScope s__law_some_part) f cdv A outer s H E).nox (defBody s__law_some_part) (b__law_some_part a c) := by
  have hu := G.hu_of hr
  have hq := hr.mono (Nat.le_add_right k 2)
  have hm := hr.mono (Nat.add_le_add_left (by decide : 1 ≤ 2) k)
  exact (qss_cons (qs_set (i := 3) S__law_some_part.nd rfl (.inl rfl) (q_own e.f__law_draw hq n_37 rfl (qa_cons (qv (i := 0) n_33 rfl (.inl rfl)) (qa_cons qe_int qa_nil rfl) rfl) rfl rfl) rfl (.inl rfl))
    (qss_cons (qs_if (q_w (qw_or (qt_cmp (q_eq hu) (qv (i := 2) n_48 rfl (.inl rfl)) qe_int (nomark _)) (qw_or1 (qt_cmp qo_lt (qv (i := 3) n_49 rfl (.inl rfl)) qe_int (nomark _))))) (qss_one (qs_ret (q_own e.f__law_leaf hq n_51 rfl (qa_cons (qv (i := 0) n_33 rfl (.inl rfl)) (qa_cons (qv (i := 1) n_50 rfl (.inl rfl)) qa_nil rfl) rfl) rfl rfl))) qss_nil)
    (qss_cons (qs_if (qt_cmp (q_eq hu) (qv (i := 3) n_49 rfl (.inl rfl)) qe_int (nomark _)) (qss_one (qs_ret (qe_tup (qa_cons (q_str s_9) (qa_cons (q_own e.f__law_some_part hq n_52 rfl (qa_cons (qv (i := 0) n_33 rfl (.inl rfl)) (qa_cons (qv (i := 1) n_50 rfl (.inl rfl)) (qa_cons (qe_op qo_sub (qv (i := 2) n_48 rfl (.inl rfl)) qe_int) qa_nil rfl) rfl) rfl) rfl rfl) qa_nil rfl) rfl)))) qss_nil)
    (qss_cons (qs_if (qt_cmp (q_eq hu) (qv (i := 3) n_49 rfl (.inl rfl)) qe_int (nomark _)) (qss_one (qs_ret (qe_tup (qa_cons (q_str s_10) (qa_cons (q_own e.f__law_draw hq n_37 rfl (qa_cons (qv (i := 0) n_33 rfl (.inl rfl)) (qa_cons qe_int qa_nil rfl) rfl) rfl rfl) (qa_cons (q_own e.f__law_some_part hq n_52 rfl (qa_cons (qv (i := 0) n_33 rfl (.inl rfl)) (qa_cons (qv (i := 1) n_50 rfl (.inl rfl)) (qa_cons (qe_op qo_sub (qv (i := 2) n_48 rfl (.inl rfl)) qe_int) qa_nil rfl) rfl) rfl) rfl rfl) qa_nil rfl) rfl) rfl)))) qss_nil)
    (qss_cons (qs_set (i := 4) S__law_some_part.nd rfl (.inl rfl) (q_own e.f__law_some_part hq n_52 rfl (qa_cons (qv (i := 0) n_33 rfl (.inl rfl)) (qa_cons (qv (i := 1) n_50 rfl (.inl rfl)) (qa_cons (qe_op qo_sub (qv (i := 2) n_48 rfl (.inl rfl)) qe_int) qa_nil rfl) rfl) rfl) rfl rfl) rfl (.inl rfl))
    (qss_cons (qs_set (i := 5) S__law_some_part.nd rfl (.inl rfl) (q_own e.f__law_some_part hq n_52 rfl (qa_cons (qv (i := 0) n_33 rfl (.inl rfl)) (qa_cons (qv (i := 1) n_50 rfl (.inl rfl)) (qa_cons (qe_op qo_sub (qv (i := 2) n_48 rfl (.inl rfl)) qe_int) qa_nil rfl) rfl) rfl) rfl rfl) rfl (.inl rfl))
    (qss_cons (qs_if (qt_cmp qo_lt (qv (i := 3) n_49 rfl (.inl rfl)) qe_int (nomark _)) (qss_one (qs_ret (qe_tup (qa_cons (q_ix hu (qe_lst (qa_cons (q_str s_14) (qa_cons (q_str s_13) (qa_cons (q_str s_12) (qa_cons (q_str s_11) qa_nil rfl) rfl) rfl) rfl)) (qe_op qo_sub (qv (i := 3) n_49 rfl (.inl rfl)) qe_int) (fun _ _ => rfl)) (qa_cons (qv (i := 4) n_19 rfl (.inl rfl)) (qa_cons (qv (i := 5) n_13 rfl (.inl rfl)) qa_nil rfl) rfl) rfl)))) qss_nil)
    (qss_cons (qs_set (i := 6) S__law_some_part.nd rfl (.inl rfl) (q_ix hu (qe_lst (qa_cons (q_str s_20) (qa_cons (q_str s_19) (qa_cons (q_str s_18) (qa_cons (q_str s_17) (qa_cons (q_str s_16) (qa_cons (q_str s_15) qa_nil rfl) rfl) rfl) rfl) rfl) rfl)) (q_own e.f__law_draw hq n_37 rfl (qa_cons (qv (i := 0) n_33 rfl (.inl rfl)) (qa_cons qe_int qa_nil rfl) rfl) rfl rfl) (fun _ _ => rfl)) rfl (.inl rfl))
    (qss_one (qs_ret (qe_tup (qa_cons (q_str s_21) (qa_cons (qv (i := 6) n_53 rfl (.inl rfl)) (qa_cons (qv (i := 4) n_19 rfl (.inl rfl)) (qa_cons (q_own e.f__law_leaf hq n_51 rfl (qa_cons (qv (i := 0) n_33 rfl (.inl rfl)) (qa_cons (qv (i := 1) n_50 rfl (.inl rfl)) qa_nil rfl) rfl) rfl rfl) (qa_cons (qv (i := 5) n_13 rfl (.inl rfl)) (qa_cons (q_own e.f__law_leaf hq n_51 rfl (qa_cons (qv (i := 0) n_33 rfl (.inl rfl)) (qa_cons (qv (i := 1) n_50 rfl (.inl rfl)) qa_nil rfl) rfl) rfl rfl) qa_nil rfl) rfl) rfl) rfl) rfl) rfl))))))))))))
theorem d__law_leaf (e : Own P w K mg base k a c) (hr : Room (k + 2) (A.deeper (envOfC "_law_leaf" (defScope s__law_leaf) s.heap.objs.size f cdv))) : QSs (cxOf CX0 P w K mg base N__law_leaf "_law_leaf" (defScope s__law_leaf) f cdv A outer s H E).nox (defBody s__law_leaf) (b__law_leaf a c) := by
  have hu := G.hu_of hr
  have hq := hr.mono (Nat.le_add_right k 2)
  have hm := hr.mono (Nat.add_le_add_left (by decide : 1 ≤ 2) k)
  exact (qss_cons (qs_set (i := 2) S__law_leaf.nd rfl (.inl rfl) (q_own e.f__law_draw hq n_37 rfl (qa_cons (qv (i := 0) n_33 rfl (.inl rfl)) (qa_cons qe_int qa_nil rfl) rfl) rfl rfl) rfl (.inl rfl))
    (qss_cons (qs_if (qt_cmp (q_eq hu) (qv (i := 2) n_49 rfl (.inl rfl)) qe_int (nomark _)) (qss_one (qs_ret (qe_tup (qa_cons (q_str s_22) (qa_cons (q_own e.f__law_draw hq n_37 rfl (qa_cons (qv (i := 0) n_33 rfl (.inl rfl)) (qa_cons qe_int qa_nil rfl) rfl) rfl rfl) qa_nil rfl) rfl)))) qss_nil)
    (qss_cons (qs_if (qt_cmp (q_eq hu) (qv (i := 2) n_49 rfl (.inl rfl)) qe_int (nomark _)) (qss_one (qs_ret (qe_tup (qa_cons (q_str s_24) (qa_cons (q_own e.f__law_draw hq n_37 rfl (qa_cons (qv (i := 0) n_33 rfl (.inl rfl)) (qa_cons (q_ix hu (qv (i := 1) n_50 rfl (.inl rfl)) (q_str s_23) (fun _ _ => rfl)) qa_nil rfl) rfl) rfl rfl) qa_nil rfl) rfl)))) qss_nil)
    (qss_cons (qs_if (q_w (qw_or (qt_cmp (q_eq hu) (q_ix hu (qv (i := 1) n_50 rfl (.inl rfl)) (q_str s_25) (fun _ _ => rfl)) qe_int (nomark _)) (qw_or1 (q_w (qw_and (qt_cmp (q_eq hu) (qv (i := 2) n_49 rfl (.inl rfl)) qe_int (nomark _)) (qw_and1 (qt_cmp (q_eq hu) (q_ix hu (qv (i := 1) n_50 rfl (.inl rfl)) (q_str s_26) (fun _ _ => rfl)) (qe_lst qa_nil) (nomark _)))))))) (qss_one (qs_ret (qe_tup (qa_cons (q_str s_22) (qa_cons (q_own e.f__law_draw hq n_37 rfl (qa_cons (qv (i := 0) n_33 rfl (.inl rfl)) (qa_cons qe_int qa_nil rfl) rfl) rfl rfl) qa_nil rfl) rfl)))) qss_nil)
    (qss_cons (qs_asg (qe_op qo_sub (q_ix hu (qv (i := 1) n_50 rfl (.inl rfl)) (q_str s_25) (fun _ _ => rfl)) qe_int) (qg_sub' hu (qv (i := 1) n_50 rfl (.inl rfl)) (q_str s_25) (fun _ => rfl)) rfl rfl rfl)
    (qss_cons (qs_if (qt_cmp (q_eq hu) (qv (i := 2) n_49 rfl (.inl rfl)) qe_int (nomark _)) (qss_one (qs_ret (qe_tup (qa_cons (q_str s_0) (qa_cons (q_own e.f__law_one_of hq n_55 rfl (qa_cons (qv (i := 0) n_33 rfl (.inl rfl)) (qa_cons (q_ix hu (qv (i := 1) n_50 rfl (.inl rfl)) (q_str s_26) (fun _ _ => rfl)) qa_nil rfl) rfl) rfl rfl) (qa_cons (q_own e.f__law_offsets hq n_54 rfl (qa_cons (qv (i := 0) n_33 rfl (.inl rfl)) (qa_cons (q_ix hu (qv (i := 1) n_50 rfl (.inl rfl)) (q_str s_23) (fun _ _ => rfl)) (qa_cons qe_int qa_nil rfl) rfl) rfl) rfl rfl) qa_nil rfl) rfl) rfl)))) qss_nil)
    (qss_cons (qs_set (i := 3) S__law_leaf.nd rfl (.inl rfl) (q_own e.f__law_one_of hq n_55 rfl (qa_cons (qv (i := 0) n_33 rfl (.inl rfl)) (qa_cons (q_ix hu (qv (i := 1) n_50 rfl (.inl rfl)) (q_str s_27) (fun _ _ => rfl)) qa_nil rfl) rfl) rfl rfl) rfl (.inl rfl))
    (qss_cons (qs_set (i := 4) S__law_leaf.nd rfl (.inl rfl) (q_own e.f__law_offsets hq n_54 rfl (qa_cons (qv (i := 0) n_33 rfl (.inl rfl)) (qa_cons (q_ix hu (qv (i := 1) n_50 rfl (.inl rfl)) (q_str s_23) (fun _ _ => rfl)) (qa_cons (q_ix hu (qv (i := 1) n_50 rfl (.inl rfl)) (q_str s_28) (fun _ _ => rfl)) qa_nil rfl) rfl) rfl) rfl rfl) rfl (.inl rfl))
    (qss_cons (qs_if (q_w (qw_and (qt_cmp qo_isNot (q_ix hu (qv (i := 1) n_50 rfl (.inl rfl)) (q_str s_29) (fun _ _ => rfl)) qe_non (nomark _)) (qw_and1 (qt_cmp qo_gt (q_own e.f__law_slope hq n_56 rfl (qa_cons (qv (i := 1) n_50 rfl (.inl rfl)) (qa_cons (q_ix hu (qv (i := 1) n_50 rfl (.inl rfl)) (q_str s_30) (fun _ _ => rfl)) (qa_cons (qv (i := 3) n_13 rfl (.inl rfl)) (qa_cons (qv (i := 4) n_6 rfl (.inl rfl)) qa_nil rfl) rfl) rfl) rfl) rfl rfl) (q_ix hu (qv (i := 1) n_50 rfl (.inl rfl)) (q_str s_12) (fun _ _ => rfl)) (nomark _))))) (qss_one (qs_ret (qe_tup (qa_cons (q_str s_22) (qa_cons (q_own e.f__law_draw hq n_37 rfl (qa_cons (qv (i := 0) n_33 rfl (.inl rfl)) (qa_cons qe_int qa_nil rfl) rfl) rfl rfl) qa_nil rfl) rfl)))) qss_nil)
    (qss_one (qs_ret (qe_tup (qa_cons (q_str s_0) (qa_cons (qv (i := 3) n_13 rfl (.inl rfl)) (qa_cons (qv (i := 4) n_6 rfl (.inl rfl)) qa_nil rfl) rfl) rfl)))))))))))))
theorem d__law_slope (e : Own P w K mg base k a c) (hr : Room (k + 2) (A.deeper (envOfC "_law_slope" (defScope s__law_slope) s.heap.objs.size f cdv))) : QSs (cxOf CX0 P w K mg base N__law_slope "_law_slope" (defScope s__law_slope) f cdv A outer s H E).nox (defBody s__law_slope) (b__law_slope a c) := by
  have hu := G.hu_of hr
  have hq := hr.mono (Nat.le_add_right k 2)
  have hm := hr.mono (Nat.add_le_add_left (by decide : 1 ≤ 2) k)
  exact (qss_cons (qs_set (i := 4) S__law_slope.nd rfl (.inl rfl) (q_sum (qa_cons (qe_lc rfl S__law_slope.nd (own := [("k", 5)]) (t := (.nm 5)) (qi_r1 rfl e.range (qa_cons (q_len (qa_cons (qv (i := 3) n_6 rfl (.inr (.inl rfl))) qa_nil rfl) rfl rfl rfl e.len) qa_nil rfl) rfl) (by show blkC N__law_slope (defScope s__law_slope) _ _ = true; decide +kernel) (by decide) (fun _ _ _ _ _ => (pg_name (i := 5) S__law_slope.nd rfl (.inl rfl) (.inr rfl))) (fun _ _ _ _ _ => qts_nil) (fun _ _ _ _ _ => (qe_op qo_mul (q_ix hu (q_ix hu (qv (i := 0) n_50 rfl (.inr (.inl rfl))) (q_str s_29) (fun _ _ => rfl)) (qv (i := 5) n_43 rfl (.inl rfl)) (fun _ _ => rfl)) (q_ix hu (qv (i := 3) n_6 rfl (.inr (.inl rfl))) (qv (i := 5) n_43 rfl (.inl rfl)) (fun _ _ => rfl)))) (fun _ => rfl)) qa_nil rfl) rfl rfl rfl rfl e.sum) rfl (.inl rfl))
    (qss_one (qs_ret (qe_op qo_sub (qe_op qo_add (qv (i := 4) n_57 rfl (.inl rfl)) (q_ix hu (q_ix hu (qv (i := 0) n_50 rfl (.inr (.inl rfl))) (q_str s_31) (fun _ _ => rfl)) (qv (i := 2) n_13 rfl (.inl rfl)) (fun _ _ => rfl))) (q_ix hu (q_ix hu (qv (i := 0) n_50 rfl (.inr (.inl rfl))) (q_str s_31) (fun _ _ => rfl)) (qv (i := 1) n_15 rfl (.inl rfl)) (fun _ _ => rfl))))))
theorem d__law_rim (e : Own P w K mg base k a c) (hr : Room (k + 2) (A.deeper (envOfC "_law_rim" (defScope s__law_rim) s.heap.objs.size f cdv))) : QSs (cxOf CX0 P w K mg base N__law_rim "_law_rim" (defScope s__law_rim) f cdv A outer s H E).nox (defBody s__law_rim) (b__law_rim a c) := by
  have hu := G.hu_of hr
  have hq := hr.mono (Nat.le_add_right k 2)
  have hm := hr.mono (Nat.add_le_add_left (by decide : 1 ≤ 2) k)
  exact (qss_one (qs_ret (q_ix hu (qe_lst (qa_cons qe_int (qa_cons qe_int (qa_cons (qe_op qo_sub (q_own e.f__law_draw hq n_37 rfl (qa_cons (qv (i := 0) n_33 rfl (.inl rfl)) (qa_cons qe_int qa_nil rfl) rfl) rfl rfl) qe_int) qa_nil rfl) rfl) rfl)) (q_own e.f__law_draw hq n_37 rfl (qa_cons (qv (i := 0) n_33 rfl (.inl rfl)) (qa_cons qe_int qa_nil rfl) rfl) rfl rfl) (fun _ _ => rfl))))
theorem d__law_given_row (e : Own P w K mg base k a c) (hr : Room (k + 2) (A.deeper (envOfC "_law_given_row" (defScope s__law_given_row) s.heap.objs.size f cdv))) : QSs (cxOf CX0 P w K mg base N__law_given_row "_law_given_row" (defScope s__law_given_row) f cdv A outer s H E).nox (defBody s__law_given_row) (b__law_given_row a c) := by
  have hu := G.hu_of hr
  have hq := hr.mono (Nat.le_add_right k 2)
  have hm := hr.mono (Nat.add_le_add_left (by decide : 1 ≤ 2) k)
  exact (qss_cons (qs_set (i := 2) S__law_given_row.nd rfl (.inl rfl) (q_own e.f__law_rim hq n_58 rfl (qa_cons (qv (i := 0) n_33 rfl (.inl rfl)) qa_nil rfl) rfl rfl) rfl (.inl rfl))
    (qss_cons (qs_set (i := 3) S__law_given_row.nd rfl (.inl rfl) (q_ix hu (qe_lst (qa_cons (qe_tup qa_nil) (qa_cons (qe_op qo_sub (qv (i := 2) n_59 rfl (.inl rfl)) (q_own e.f__law_draw hq n_37 rfl (qa_cons (qv (i := 0) n_33 rfl (.inl rfl)) (qa_cons qe_int qa_nil rfl) rfl) rfl rfl)) qa_nil rfl) rfl)) (q_own e.f__law_draw hq n_37 rfl (qa_cons (qv (i := 0) n_33 rfl (.inl rfl)) (qa_cons qe_int qa_nil rfl) rfl) rfl rfl) (fun _ _ => rfl)) rfl (.inl rfl))
    (qss_cons (qs_set (i := 4) S__law_given_row.nd rfl (.inl rfl) (q_ix hu (qe_lst (qa_cons (qe_tup qa_nil) (qa_cons (qe_op qo_add (qv (i := 2) n_59 rfl (.inl rfl)) (q_own e.f__law_draw hq n_37 rfl (qa_cons (qv (i := 0) n_33 rfl (.inl rfl)) (qa_cons qe_int qa_nil rfl) rfl) rfl rfl)) qa_nil rfl) rfl)) (q_own e.f__law_draw hq n_37 rfl (qa_cons (qv (i := 0) n_33 rfl (.inl rfl)) (qa_cons qe_int qa_nil rfl) rfl) rfl rfl) (fun _ _ => rfl)) rfl (.inl rfl))
    (qss_one (qs_ret (qe_tup (qa_cons (qv (i := 1) n_15 rfl (.inl rfl)) (qa_cons (qv (i := 2) n_59 rfl (.inl rfl)) (qa_cons (qv (i := 3) n_61 rfl (.inl rfl)) (qa_cons (qv (i := 4) n_60 rfl (.inl rfl)) qa_nil rfl) rfl) rfl) rfl)))))))
theorem d__law_table_world (e : Own P w K mg base k a c) (hr : Room (k + 2) (A.deeper (envOfC "_law_table_world" (defScope s__law_table_world) s.heap.objs.size f cdv))) : QSs (cxOf CX0 P w K mg base N__law_table_world "_law_table_world" (defScope s__law_table_world) f cdv A outer s H E).nox (defBody s__law_table_world) (b__law_table_world a c) := by
  have hu := G.hu_of hr
  have hq := hr.mono (Nat.le_add_right k 2)
  have hm := hr.mono (Nat.add_le_add_left (by decide : 1 ≤ 2) k)
  exact (qss_cons (qs_set (i := 4) S__law_table_world.nd rfl (.inl rfl) (q_own e.f__law_words hq n_64 rfl (qa_cons (qv (i := 0) n_33 rfl (.inl rfl)) (qa_cons (qe_op qo_add (qe_op qo_add (qv (i := 1) n_39 rfl (.inl rfl)) (qv (i := 2) n_62 rfl (.inl rfl))) (qv (i := 3) n_63 rfl (.inl rfl))) qa_nil rfl) rfl) rfl rfl) rfl (.inl rfl))
    (qss_cons (qs_set (i := 5) S__law_table_world.nd rfl (.inl rfl) (qe_disp (qps_cons (q_str s_23) (qv (i := 1) n_39 rfl (.inl rfl)) (qps_cons (q_str s_32) (q_tuple (qa_cons (qe_sl (qv (i := 4) n_65 rfl (.inl rfl)) qp_none (qp_some (qv (i := 1) n_39 rfl (.inl rfl)))) qa_nil rfl) rfl rfl rfl e.tuple) (qps_cons (q_str s_27) (q_sorted (qa_cons (qe_sl (qv (i := 4) n_65 rfl (.inl rfl)) (qp_some (qv (i := 1) n_39 rfl (.inl rfl))) (qp_some (qe_op qo_add (qv (i := 1) n_39 rfl (.inl rfl)) (qv (i := 2) n_62 rfl (.inl rfl))))) qa_nil rfl) rfl rfl rfl hu rfl e.sorted) (qps_cons (q_str s_28) qe_int qps_nil)))) rfl rfl (fun z => by cases z) (by decide)) rfl (.inl rfl))
    (qss_cons (qs_asg (q_sorted (qa_cons (qe_sl (qv (i := 4) n_65 rfl (.inl rfl)) (qp_some (qe_op qo_add (qv (i := 1) n_39 rfl (.inl rfl)) (qv (i := 2) n_62 rfl (.inl rfl)))) qp_none) qa_nil rfl) rfl rfl rfl hu rfl e.sorted) (qg_sub' hu (qv (i := 5) n_50 rfl (.inl rfl)) (q_str s_26) (fun _ => rfl)) rfl rfl rfl)
    (qss_cons (qs_asg qe_non (qg_sub' hu (qv (i := 5) n_50 rfl (.inl rfl)) (q_str s_29) (fun _ => rfl)) rfl rfl rfl)
    (qss_one (qs_ret (qv (i := 5) n_50 rfl (.inl rfl))))))))
theorem d__law_with_row (e : Own P w K mg base k a c) (hr : Room (k + 2) (A.deeper (envOfC "_law_with_row" (defScope s__law_with_row) s.heap.objs.size f cdv))) : QSs (cxOf CX0 P w K mg base N__law_with_row "_law_with_row" (defScope s__law_with_row) f cdv A outer s H E).nox (defBody s__law_with_row) (b__law_with_row a c) := by
  have hu := G.hu_of hr
  have hq := hr.mono (Nat.le_add_right k 2)
  have hm := hr.mono (Nat.add_le_add_left (by decide : 1 ≤ 2) k)
  exact (qss_cons (qs_asg (qe_lc rfl S__law_with_row.nd (own := [("k", 4)]) (t := (.nm 4)) (qi_r1 rfl e.range (qa_cons (q_ix hu (qv (i := 1) n_50 rfl (.inl rfl)) (q_str s_23) (fun _ _ => rfl)) qa_nil rfl) rfl) (by show blkC N__law_with_row (defScope s__law_with_row) _ _ = true; decide +kernel) (by decide) (fun _ _ _ _ _ => (pg_name (i := 4) S__law_with_row.nd rfl (.inl rfl) (.inr rfl))) (fun _ _ _ _ _ => qts_nil) (fun _ _ _ _ _ => (qe_op qo_sub (q_own e.f__law_draw hq n_37 rfl (qa_cons (qv (i := 0) n_33 rfl (.inr (.inl rfl))) (qa_cons qe_int qa_nil rfl) rfl) rfl rfl) qe_int)) (fun _ => rfl)) (qg_sub' hu (qv (i := 1) n_50 rfl (.inl rfl)) (q_str s_29) (fun _ => rfl)) rfl rfl rfl)
    (qss_cons (qs_asg (q_ix hu (qe_lst (qa_cons qe_int (qa_cons (qe_neg qe_int) (qa_cons qe_int qa_nil rfl) rfl) rfl)) (q_own e.f__law_draw hq n_37 rfl (qa_cons (qv (i := 0) n_33 rfl (.inr (.inl rfl))) (qa_cons qe_int qa_nil rfl) rfl) rfl rfl) (fun _ _ => rfl)) (qg_sub' hu (q_ix hu (qv (i := 1) n_50 rfl (.inl rfl)) (q_str s_29) (fun _ _ => rfl)) (q_own e.f__law_draw hq n_37 rfl (qa_cons (qv (i := 0) n_33 rfl (.inr (.inl rfl))) (qa_cons (q_ix hu (qv (i := 1) n_50 rfl (.inl rfl)) (q_str s_23) (fun _ _ => rfl)) qa_nil rfl) rfl) rfl rfl) (fun _ => rfl)) rfl rfl rfl)
    (qss_cons (qs_asg qe_dn (qg_sub' hu (qv (i := 1) n_50 rfl (.inl rfl)) (q_str s_31) (fun _ => rfl)) rfl rfl rfl)
    (qss_cons (qs_for PassesOwn.never rfl (qi_any (q_ix hu (qv (i := 1) n_50 rfl (.inl rfl)) (q_str s_27) (fun _ _ => rfl))) (qg_name (i := 3) S__law_with_row.nd rfl (.inl rfl) (.inl rfl)) (qss_one (qs_asg (q_own e.f__law_draw hq n_37 rfl (qa_cons (qv (i := 0) n_33 rfl (.inr (.inl rfl))) (qa_cons qe_int qa_nil rfl) rfl) rfl rfl) (qg_sub' hu (q_ix hu (qv (i := 1) n_50 rfl (.inl rfl)) (q_str s_31) (fun _ _ => rfl)) (qv (i := 3) n_15 rfl (.inl rfl)) (fun _ => rfl)) rfl rfl rfl)) (fun _ => rfl))
    (qss_one (qs_asg (qv (i := 2) n_66 rfl (.inl rfl)) (qg_sub' hu (qv (i := 1) n_50 rfl (.inl rfl)) (q_str s_12) (fun _ => rfl)) rfl rfl rfl))))))
theorem d__law_rules_of (e : Own P w K mg base k a c) (hr : Room (k + 2) (A.deeper (envOfC "_law_rules_of" (defScope s__law_rules_of) s.heap.objs.size f cdv))) : QSs (cxOf CX0 P w K mg base N__law_rules_of "_law_rules_of" (defScope s__law_rules_of) f cdv A outer s H E).nox (defBody s__law_rules_of) (b__law_rules_of a c) := by
  have hu := G.hu_of hr
  have hq := hr.mono (Nat.le_add_right k 2)
  have hm := hr.mono (Nat.add_le_add_left (by decide : 1 ≤ 2) k)
  exact (qss_cons (qs_set (i := 3) S__law_rules_of.nd rfl (.inl rfl) (qe_lst qa_nil) rfl (.inl rfl))
    (qss_cons (qs_for PassesOwn.never rfl (qi_any (q_ix hu (qv (i := 1) n_50 rfl (.inl rfl)) (q_str s_27) (fun _ _ => rfl))) (qg_name (i := 4) S__law_rules_of.nd rfl (.inl rfl) (.inl rfl)) (qss_cons (qs_asg (q_ix hu (qe_lst (qa_cons qe_int (qa_cons qe_int (qa_cons qe_int qa_nil rfl) rfl) rfl)) (qe_op qo_sub (q_ix hu (qv (i := 1) n_50 rfl (.inl rfl)) (q_str s_23) (fun _ _ => rfl)) qe_int) (fun _ _ => rfl)) (qg_sub' hu (qv (i := 1) n_50 rfl (.inl rfl)) (q_str s_25) (fun _ => rfl)) rfl rfl rfl)
    (qss_cons (qs_asg (qv (i := 4) n_15 rfl (.inl rfl)) (qg_sub' hu (qv (i := 1) n_50 rfl (.inl rfl)) (q_str s_30) (fun _ => rfl)) rfl rfl rfl)
    (qss_one (qs_expr (q_append (qv (i := 3) n_62 rfl (.inl rfl)) (qa_cons (qe_tup (qa_cons (qv (i := 4) n_15 rfl (.inl rfl)) (qa_cons (q_own e.f__law_rim hq n_58 rfl (qa_cons (qv (i := 0) n_33 rfl (.inr (.inl rfl))) qa_nil rfl) rfl rfl) (qa_cons (q_own e.f__law_some_part hq n_52 rfl (qa_cons (qv (i := 0) n_33 rfl (.inr (.inl rfl))) (qa_cons (qv (i := 1) n_50 rfl (.inl rfl)) (qa_cons (qv (i := 2) n_48 rfl (.inl rfl)) qa_nil rfl) rfl) rfl) rfl rfl) qa_nil rfl) rfl) rfl)) qa_nil rfl) rfl rfl rfl rfl rfl) rfl)))) (fun _ => rfl))
    (qss_cons (qs_set (i := 5) S__law_rules_of.nd rfl (.inl rfl) (q_tuple (qa_cons (qe_lc rfl S__law_rules_of.nd (own := [("name", 4)]) (t := (.nm 4)) (qi_any (q_ix hu (qv (i := 1) n_50 rfl (.inl rfl)) (q_str s_26) (fun _ _ => rfl))) (by show blkC N__law_rules_of (defScope s__law_rules_of) _ _ = true; decide +kernel) (by decide) (fun _ _ _ _ _ => (pg_name (i := 4) S__law_rules_of.nd rfl (.inl rfl) (.inr rfl))) (fun _ _ _ _ _ => qts_nil) (fun _ _ _ _ _ => (q_own e.f__law_given_row hq n_67 rfl (qa_cons (qv (i := 0) n_33 rfl (.inr (.inl rfl))) (qa_cons (qv (i := 4) n_15 rfl (.inl rfl)) qa_nil rfl) rfl) rfl rfl)) (fun _ => rfl)) qa_nil rfl) rfl rfl rfl e.tuple) rfl (.inl rfl))
    (qss_one (qs_ret (qe_tup (qa_cons (q_ix hu (qv (i := 1) n_50 rfl (.inl rfl)) (q_str s_32) (fun _ _ => rfl)) (qa_cons (qv (i := 5) n_63 rfl (.inl rfl)) (qa_cons (q_tuple (qa_cons (qv (i := 3) n_62 rfl (.inl rfl)) qa_nil rfl) rfl rfl rfl e.tuple) (qa_cons (qe_tup qa_nil) qa_nil rfl) rfl) rfl) rfl)))))))
theorem d__law_refs (e : Own P w K mg base k a c) (hr : Room (k + 2) (A.deeper (envOfC "_law_refs" (defScope s__law_refs) s.heap.objs.size f cdv))) : QSs (cxOf CX0 P w K mg base N__law_refs "_law_refs" (defScope s__law_refs) f cdv A outer s H E).nox (defBody s__law_refs) (b__law_refs a c) := by
  have hu := G.hu_of hr
  have hq := hr.mono (Nat.le_add_right k 2)
  have hm := hr.mono (Nat.add_le_add_left (by decide : 1 ≤ 2) k)
  exact (qss_cons (qs_if (qt_cmp (q_eq hu) (q_ix hu (qv (i := 0) n_68 rfl (.inl rfl)) qe_int (fun _ _ => rfl)) (q_str s_0) (nomark _)) (qss_one (qs_ret (qe_lst (qa_cons (qv (i := 0) n_68 rfl (.inl rfl)) qa_nil rfl)))) qss_nil)
    (qss_cons (qs_set (i := 1) S__law_refs.nd rfl (.inl rfl) (qe_lst qa_nil) rfl (.inl rfl))
    (qss_cons (qs_for PassesOwn.never rfl (qi_any (qe_sl (qv (i := 0) n_68 rfl (.inl rfl)) (qp_some qe_int) qp_none)) (qg_name (i := 2) S__law_refs.nd rfl (.inl rfl) (.inl rfl)) (qss_one (qs_if (qt_of (q_isa .tuple rfl e.isinstance rfl e.tuple (qv (i := 2) n_1 rfl (.inl rfl)) rfl rfl rfl) (fun _ => rfl)) (qss_one (qs_set (i := 1) S__law_refs.nd rfl (.inl rfl) (qe_op qo_add (qv (i := 1) n_2 rfl (.inl rfl)) (q_own e.f__law_refs hq n_69 rfl (qa_cons (qv (i := 2) n_1 rfl (.inl rfl)) qa_nil rfl) rfl rfl)) rfl (.inl rfl))) qss_nil)) (fun _ => rfl))
    (qss_one (qs_ret (qv (i := 1) n_2 rfl (.inl rfl)))))))
theorem d__law_at_offsets (e : Own P w K mg base k a c) (hr : Room (k + 2) (A.deeper (envOfC "_law_at_offsets" (defScope s__law_at_offsets) s.heap.objs.size f cdv))) : QSs (cxOf CX0 P w K mg base N__law_at_offsets "_law_at_offsets" (defScope s__law_at_offsets) f cdv A outer s H E).nox (defBody s__law_at_offsets) (b__law_at_offsets a c) := by
  have hu := G.hu_of hr
  have hq := hr.mono (Nat.le_add_right k 2)
  have hm := hr.mono (Nat.add_le_add_left (by decide : 1 ≤ 2) k)
  exact (qss_one (qs_ret (q_tuple (qa_cons (qe_lc rfl S__law_at_offsets.nd (own := [("k", 2)]) (t := (.nm 2)) (qi_r1 rfl e.range (qa_cons (q_len (qa_cons (qv (i := 0) n_7 rfl (.inr (.inl rfl))) qa_nil rfl) rfl rfl rfl e.len) qa_nil rfl) rfl) (by show blkC N__law_at_offsets (defScope s__law_at_offsets) _ _ = true; decide +kernel) (by decide) (fun _ _ _ _ _ => (pg_name (i := 2) S__law_at_offsets.nd rfl (.inl rfl) (.inr rfl))) (fun _ _ _ _ _ => qts_nil) (fun _ _ _ _ _ => (qe_op qo_add (q_ix hu (qv (i := 0) n_7 rfl (.inr (.inl rfl))) (qv (i := 2) n_43 rfl (.inl rfl)) (fun _ _ => rfl)) (q_ix hu (qv (i := 1) n_6 rfl (.inr (.inl rfl))) (qv (i := 2) n_43 rfl (.inl rfl)) (fun _ _ => rfl)))) (fun _ => rfl)) qa_nil rfl) rfl rfl rfl e.tuple)))
theorem d__law_ring_table (e : Own P w K mg base k a c) (hr : Room (k + 2) (A.deeper (envOfC "_law_ring_table" (defScope s__law_ring_table) s.heap.objs.size f cdv))) : QSs (cxOf CX0 P w K mg base N__law_ring_table "_law_ring_table" (defScope s__law_ring_table) f cdv A outer s H E).nox (defBody s__law_ring_table) (b__law_ring_table a c) := by
  have hu := G.hu_of hr
  have hq := hr.mono (Nat.le_add_right k 2)
  have hm := hr.mono (Nat.add_le_add_left (by decide : 1 ≤ 2) k)
  exact (qss_cons (qs_set (i := 1) S__law_ring_table.nd rfl (.inl rfl) (q_own e.f__law_table_world hq n_70 rfl (qa_cons (qv (i := 0) n_33 rfl (.inl rfl)) (qa_cons (qe_op qo_add qe_int (q_own e.f__law_draw hq n_37 rfl (qa_cons (qv (i := 0) n_33 rfl (.inl rfl)) (qa_cons qe_int qa_nil rfl) rfl) rfl rfl)) (qa_cons (qe_op qo_add qe_int (q_own e.f__law_draw hq n_37 rfl (qa_cons (qv (i := 0) n_33 rfl (.inl rfl)) (qa_cons qe_int qa_nil rfl) rfl) rfl rfl)) (qa_cons (q_own e.f__law_draw hq n_37 rfl (qa_cons (qv (i := 0) n_33 rfl (.inl rfl)) (qa_cons qe_int qa_nil rfl) rfl) rfl rfl) qa_nil rfl) rfl) rfl) rfl) rfl rfl) rfl (.inl rfl))
    (qss_cons (qs_set (i := 2) S__law_ring_table.nd rfl (.inl rfl) (q_own e.f__law_rules_of hq n_71 rfl (qa_cons (qv (i := 0) n_33 rfl (.inl rfl)) (qa_cons (qv (i := 1) n_50 rfl (.inl rfl)) (qa_cons qe_int qa_nil rfl) rfl) rfl) rfl rfl) rfl (.inl rfl))
    (qss_cons (qs_set (i := 3) S__law_ring_table.nd rfl (.inl rfl) (q_ix hu (qv (i := 1) n_50 rfl (.inl rfl)) (q_str s_27) (fun _ _ => rfl)) rfl (.inl rfl))
    (qss_cons (qs_set (i := 4) S__law_ring_table.nd rfl (.inl rfl) (q_list (qa_cons (q_ix hu (qv (i := 2) n_10 rfl (.inl rfl)) qe_int (fun _ _ => rfl)) qa_nil rfl) rfl rfl rfl rfl e.list) rfl (.inl rfl))
    (qss_cons (qs_set (i := 5) S__law_ring_table.nd rfl (.inl rfl) (qe_op qo_mul (qe_tup (qa_cons qe_int qa_nil rfl)) (q_ix hu (qv (i := 1) n_50 rfl (.inl rfl)) (q_str s_23) (fun _ _ => rfl))) rfl (.inl rfl))
    (qss_cons (qs_for PassesOwn.never rfl (qi_r1 rfl e.range (qa_cons (q_len (qa_cons (qv (i := 3) n_14 rfl (.inl rfl)) qa_nil rfl) rfl rfl rfl e.len) qa_nil rfl) rfl) (qg_name (i := 6) S__law_ring_table.nd rfl (.inl rfl) (.inl rfl)) (qss_cons (qs_set (i := 7) S__law_ring_table.nd rfl (.inl rfl) (q_own e.f__law_offsets hq n_54 rfl (qa_cons (qv (i := 0) n_33 rfl (.inl rfl)) (qa_cons (q_ix hu (qv (i := 1) n_50 rfl (.inl rfl)) (q_str s_23) (fun _ _ => rfl)) (qa_cons qe_int qa_nil rfl) rfl) rfl) rfl rfl) rfl (.inl rfl))
    (qss_cons (qs_if (qt_cmp (q_eq hu) (qv (i := 6) n_43 rfl (.inl rfl)) (qe_op qo_sub (q_len (qa_cons (qv (i := 3) n_14 rfl (.inl rfl)) qa_nil rfl) rfl rfl rfl e.len) qe_int) (nomark _)) (qss_one (qs_set (i := 7) S__law_ring_table.nd rfl (.inl rfl) (q_tuple (qa_cons (qe_lc rfl S__law_ring_table.nd (own := [("x", 12)]) (t := (.nm 12)) (qi_any (qv (i := 5) n_57 rfl (.inl rfl))) (by show blkC N__law_ring_table (defScope s__law_ring_table) _ _ = true; decide +kernel) (by decide) (fun _ _ _ _ _ => (pg_name (i := 12) S__law_ring_table.nd rfl (.inl rfl) (.inr rfl))) (fun _ _ _ _ _ => qts_nil) (fun _ _ _ _ _ => (qe_op qo_sub qe_int (qv (i := 12) n_44 rfl (.inl rfl)))) (fun _ => rfl)) qa_nil rfl) rfl rfl rfl e.tuple) rfl (.inl rfl))) qss_nil)
    (qss_cons (qs_set (i := 5) S__law_ring_table.nd rfl (.inl rfl) (q_own e.f__law_at_offsets hq n_72 rfl (qa_cons (qv (i := 5) n_57 rfl (.inl rfl)) (qa_cons (qv (i := 7) n_6 rfl (.inl rfl)) qa_nil rfl) rfl) rfl rfl) rfl (.inl rfl))
    (qss_cons (qs_set (i := 8) S__law_ring_table.nd rfl (.inl rfl) (qe_tup (qa_cons (q_str s_0) (qa_cons (q_ix hu (qv (i := 3) n_14 rfl (.inl rfl)) (qe_op qo_mod (q_int (qa_cons (qe_op qo_add (qv (i := 6) n_43 rfl (.inl rfl)) qe_int) qa_nil rfl) rfl rfl rfl e.int) (q_len (qa_cons (qv (i := 3) n_14 rfl (.inl rfl)) qa_nil rfl) rfl rfl rfl e.len)) (fun _ _ => rfl)) (qa_cons (qv (i := 7) n_6 rfl (.inl rfl)) qa_nil rfl) rfl) rfl)) rfl (.inl rfl))
    (qss_cons (qs_set (i := 9) S__law_ring_table.nd rfl (.inl rfl) (q_ix hu (qe_lst (qa_cons (q_str s_22) (qa_cons (q_str s_0) qa_nil rfl) rfl)) (q_own e.f__law_draw hq n_37 rfl (qa_cons (qv (i := 0) n_33 rfl (.inl rfl)) (qa_cons qe_int qa_nil rfl) rfl) rfl rfl) (fun _ _ => rfl)) rfl (.inl rfl))
    (qss_cons (qs_set (i := 10) S__law_ring_table.nd rfl (.inl rfl) (q_ix hu (q_ix hu (qv (i := 4) n_62 rfl (.inl rfl)) (qv (i := 6) n_43 rfl (.inl rfl)) (fun _ _ => rfl)) qe_int (fun _ _ => rfl)) rfl (.inl rfl))
    (qss_cons (qs_if (q_w (qw_or (qt_cmp (q_eq hu) (qv (i := 9) n_68 rfl (.inl rfl)) (q_str s_22) (nomark _)) (qw_or1 (qt_cmp qo_gt (q_len (qa_cons (q_own e.f__law_refs hq n_69 rfl (qa_cons (qv (i := 10) n_13 rfl (.inl rfl)) qa_nil rfl) rfl rfl) qa_nil rfl) rfl rfl rfl e.len) qe_int (nomark _))))) (qss_one (qs_set (i := 10) S__law_ring_table.nd rfl (.inl rfl) (qe_tup (qa_cons (q_str s_22) (qa_cons (q_own e.f__law_draw hq n_37 rfl (qa_cons (qv (i := 0) n_33 rfl (.inl rfl)) (qa_cons qe_int qa_nil rfl) rfl) rfl rfl) qa_nil rfl) rfl)) rfl (.inl rfl))) qss_nil)
    (qss_cons (qs_set (i := 11) S__law_ring_table.nd rfl (.inl rfl) (q_ix hu (qe_lst (qa_cons (q_str s_14) (qa_cons (q_str s_12) (qa_cons (q_str s_13) qa_nil rfl) rfl) rfl)) (q_own e.f__law_draw hq n_37 rfl (qa_cons (qv (i := 0) n_33 rfl (.inl rfl)) (qa_cons qe_int qa_nil rfl) rfl) rfl rfl) (fun _ _ => rfl)) rfl (.inl rfl))
    (qss_cons (qs_if (qt_not (qt_of (q_own e.f__law_can_be_read hq n_74 rfl (qa_cons (q_ix hu (qv (i := 2) n_10 rfl (.inl rfl)) qe_int (fun _ _ => rfl)) (qa_cons (qe_tup (qa_cons (q_ix hu (qv (i := 3) n_14 rfl (.inl rfl)) (qv (i := 6) n_43 rfl (.inl rfl)) (fun _ _ => rfl)) (qa_cons (qe_neg qe_int) (qa_cons (qe_tup (qa_cons (qv (i := 11) n_73 rfl (.inl rfl)) (qa_cons (qv (i := 8) n_34 rfl (.inl rfl)) (qa_cons (qv (i := 10) n_13 rfl (.inl rfl)) qa_nil rfl) rfl) rfl)) qa_nil rfl) rfl) rfl)) qa_nil rfl) rfl) rfl rfl) (fun _ => rfl))) (qss_one (qs_set (i := 10) S__law_ring_table.nd rfl (.inl rfl) (qe_tup (qa_cons (q_str s_22) (qa_cons qe_int qa_nil rfl) rfl)) rfl (.inl rfl))) qss_nil)
    (qss_one (qs_asg (qe_tup (qa_cons (q_ix hu (qv (i := 3) n_14 rfl (.inl rfl)) (qv (i := 6) n_43 rfl (.inl rfl)) (fun _ _ => rfl)) (qa_cons (q_ix hu (q_ix hu (qv (i := 4) n_62 rfl (.inl rfl)) (qv (i := 6) n_43 rfl (.inl rfl)) (fun _ _ => rfl)) qe_int (fun _ _ => rfl)) (qa_cons (qe_tup (qa_cons (qv (i := 11) n_73 rfl (.inl rfl)) (qa_cons (qv (i := 8) n_34 rfl (.inl rfl)) (qa_cons (qv (i := 10) n_13 rfl (.inl rfl)) qa_nil rfl) rfl) rfl)) qa_nil rfl) rfl) rfl)) (qg_sub' hu (qv (i := 4) n_62 rfl (.inl rfl)) (qv (i := 6) n_43 rfl (.inl rfl)) (fun _ => rfl)) rfl rfl rfl))))))))))) (fun _ => rfl))
    (qss_one (qs_ret (qe_op qo_add (qe_sl (qv (i := 2) n_10 rfl (.inl rfl)) qp_none (qp_some qe_int)) (qe_tup (qa_cons (q_tuple (qa_cons (qv (i := 4) n_62 rfl (.inl rfl)) qa_nil rfl) rfl rfl rfl e.tuple) (qa_cons (qe_tup qa_nil) qa_nil rfl) rfl)))))))))))
theorem d__law_own_edges (e : Own P w K mg base k a c) (hr : Room (k + 2) (A.deeper (envOfC "_law_own_edges" (defScope s__law_own_edges) s.heap.objs.size f cdv))) : QSs (cxOf CX0 P w K mg base N__law_own_edges "_law_own_edges" (defScope s__law_own_edges) f cdv A outer s H E).nox (defBody s__law_own_edges) (b__law_own_edges a c) := by
  have hu := G.hu_of hr
  have hq := hr.mono (Nat.le_add_right k 2)
  have hm := hr.mono (Nat.add_le_add_left (by decide : 1 ≤ 2) k)
  exact (qss_cons (qs_set (i := 1) S__law_own_edges.nd rfl (.inr rfl) (qe_lc rfl S__law_own_edges.nd (own := [("row", 6)]) (t := (.nm 6)) (qi_any (q_ix hu (qv (i := 0) n_10 rfl (.inl rfl)) qe_int (fun _ _ => rfl))) (by show blkC N__law_own_edges (defScope s__law_own_edges) _ _ = true; decide +kernel) (by decide) (fun _ _ _ _ _ => (pg_name (i := 6) S__law_own_edges.nd rfl (.inl rfl) (.inr rfl))) (fun _ _ _ _ _ => qts_nil) (fun _ _ _ _ _ => (q_ix hu (qv (i := 6) n_11 rfl (.inl rfl)) qe_int (fun _ _ => rfl))) (fun _ => rfl)) rfl (.inl rfl))
    (qss_cons (qs_set (i := 2) S__law_own_edges.nd rfl (.inl rfl) (qe_lst qa_nil) rfl (.inl rfl))
    (qss_cons (qs_for PassesOwn.never rfl (qi_any (q_ix hu (qv (i := 0) n_10 rfl (.inl rfl)) qe_int (fun _ _ => rfl))) (qg_tup rfl (qgs_cons (qg_name (i := 3) S__law_own_edges.nd rfl (.inr rfl) (.inl rfl)) (qgs_cons (qg_name (i := 4) S__law_own_edges.nd rfl (.inl rfl) (.inl rfl)) (qgs_cons (qg_name (i := 5) S__law_own_edges.nd rfl (.inl rfl) (.inl rfl)) qgs_nil rfl) rfl) rfl) rfl rfl) (qss_one (qs_set (i := 2) S__law_own_edges.nd rfl (.inl rfl) (qe_op qo_add (qv (i := 2) n_2 rfl (.inl rfl)) (qe_lc rfl S__law_own_edges.nd (own := [("kind", 7), ("other", 8), ("offsets", 9)]) (t := (.tp (.cons (.nm 7) (.cons (.nm 8) (.cons (.nm 9) .nil))))) (qi_any (q_own e.f__law_refs hq n_69 rfl (qa_cons (qv (i := 5) n_68 rfl (.inl rfl)) qa_nil rfl) rfl rfl)) (by show blkC N__law_own_edges (defScope s__law_own_edges) _ _ = true; decide +kernel) (by decide) (fun _ _ _ _ _ => (pg_tup rfl (pgs_cons (pg_name (i := 7) S__law_own_edges.nd rfl (.inl rfl) (.inr rfl)) (pgs_cons (pg_name (i := 8) S__law_own_edges.nd rfl (.inl rfl) (.inr rfl)) (pgs_cons (pg_name (i := 9) S__law_own_edges.nd rfl (.inl rfl) (.inr rfl)) pgs_nil rfl) rfl) rfl) rfl rfl)) (fun _ _ _ _ _ => (qts_one (qt_cmp (qo_in hu) (qv (i := 8) n_13 rfl (.inl rfl)) (qv (i := 1) n_14 rfl (.inr (.inl rfl))) (by with_unfolding_all rfl)))) (fun _ _ _ _ _ => (qe_tup (qa_cons (qv (i := 3) n_15 rfl (.inr (.inl rfl))) (qa_cons (qv (i := 8) n_13 rfl (.inl rfl)) (qa_cons (qv (i := 9) n_6 rfl (.inl rfl)) qa_nil rfl) rfl) rfl))) (fun _ => rfl))) rfl (.inl rfl))) (fun _ => rfl))
    (qss_one (qs_ret (qv (i := 2) n_2 rfl (.inl rfl)))))))
theorem d__law_planted_ring (e : Own P w K mg base k a c) (hr : Room (k + 2) (A.deeper (envOfC "_law_planted_ring" (defScope s__law_planted_ring) s.heap.objs.size f cdv))) : QSs (cxOf CX0 P w K mg base N__law_planted_ring "_law_planted_ring" (defScope s__law_planted_ring) f cdv A outer s H E).nox (defBody s__law_planted_ring) (b__law_planted_ring a c) := by
  have hu := G.hu_of hr
  have hq := hr.mono (Nat.le_add_right k 2)
  have hm := hr.mono (Nat.add_le_add_left (by decide : 1 ≤ 2) k)
  exact (qss_cons (qs_set (i := 1) S__law_planted_ring.nd rfl (.inl rfl) (q_own e.f__law_ring_table hq n_75 rfl (qa_cons (qv (i := 0) n_33 rfl (.inl rfl)) qa_nil rfl) rfl rfl) rfl (.inl rfl))
    (qss_cons (qs_set (i := 2) S__law_planted_ring.nd rfl (.inr rfl) (q_own e.f__law_own_edges hq n_76 rfl (qa_cons (qv (i := 1) n_10 rfl (.inl rfl)) qa_nil rfl) rfl rfl) rfl (.inl rfl))
    (qss_cons (qs_set (i := 3) S__law_planted_ring.nd rfl (.inl rfl) (qe_op qo_mul (qe_lst (qa_cons qe_int qa_nil rfl)) (q_len (qa_cons (qv (i := 2) n_29 rfl (.inr (.inl rfl))) qa_nil rfl) rfl rfl rfl e.len)) rfl (.inl rfl))
    (qss_cons (qs_set (i := 4) S__law_planted_ring.nd rfl (.inr rfl) (qe_lc rfl S__law_planted_ring.nd (own := [("row", 6)]) (t := (.nm 6)) (qi_any (q_ix hu (qv (i := 1) n_10 rfl (.inl rfl)) qe_int (fun _ _ => rfl))) (by show blkC N__law_planted_ring (defScope s__law_planted_ring) _ _ = true; decide +kernel) (by decide) (fun _ _ _ _ _ => (pg_name (i := 6) S__law_planted_ring.nd rfl (.inl rfl) (.inr rfl))) (fun _ _ _ _ _ => qts_nil) (fun _ _ _ _ _ => (q_ix hu (qv (i := 6) n_11 rfl (.inl rfl)) qe_int (fun _ _ => rfl))) (fun _ => rfl)) rfl (.inl rfl))
    (qss_cons (qs_for PassesOwn.never rfl (qi_r1 rfl e.range (qa_cons (q_len (qa_cons (qv (i := 4) n_14 rfl (.inr (.inl rfl))) qa_nil rfl) rfl rfl rfl e.len) qa_nil rfl) rfl) (qg_name (i := 5) S__law_planted_ring.nd rfl (.inr rfl) (.inl rfl)) (qss_one (qs_asg qe_int (qg_sub' hu (qv (i := 3) n_77 rfl (.inl rfl)) (q_ix hu (qe_lc rfl S__law_planted_ring.nd (own := [("i", 7)]) (t := (.nm 7)) (qi_r1 rfl e.range (qa_cons (q_len (qa_cons (qv (i := 2) n_29 rfl (.inr (.inl rfl))) qa_nil rfl) rfl rfl rfl e.len) qa_nil rfl) rfl) (by show blkC N__law_planted_ring (defScope s__law_planted_ring) _ _ = true; decide +kernel) (by decide) (fun _ _ _ _ _ => (pg_name (i := 7) S__law_planted_ring.nd rfl (.inl rfl) (.inr rfl))) (fun _ _ _ _ _ => (qts_one (qt_cmp (q_eq hu) (q_ix hu (q_ix hu (qv (i := 2) n_29 rfl (.inr (.inl rfl))) (qv (i := 7) n_78 rfl (.inl rfl)) (fun _ _ => rfl)) qe_int (fun _ _ => rfl)) (q_ix hu (qv (i := 4) n_14 rfl (.inr (.inl rfl))) (qv (i := 5) n_43 rfl (.inr (.inl rfl))) (fun _ _ => rfl)) (nomark _)))) (fun _ _ _ _ _ => (qv (i := 7) n_78 rfl (.inl rfl))) (fun _ => rfl)) qe_int (fun _ _ => rfl)) (fun _ => rfl)) rfl rfl rfl)) (fun _ => rfl))
    (qss_one (qs_ret (qe_tup (qa_cons (qv (i := 1) n_10 rfl (.inl rfl)) (qa_cons (q_tuple (qa_cons (qv (i := 3) n_77 rfl (.inl rfl)) qa_nil rfl) rfl rfl rfl e.tuple) qa_nil rfl) rfl)))))))))
theorem d__law_star_table (e : Own P w K mg base k a c) (hr : Room (k + 2) (A.deeper (envOfC "_law_star_table" (defScope s__law_star_table) s.heap.objs.size f cdv))) : QSs (cxOf CX0 P w K mg base N__law_star_table "_law_star_table" (defScope s__law_star_table) f cdv A outer s H E).nox (defBody s__law_star_table) (b__law_star_table a c) := by
  have hu := G.hu_of hr
  have hq := hr.mono (Nat.le_add_right k 2)
  have hm := hr.mono (Nat.add_le_add_left (by decide : 1 ≤ 2) k)
  exact (qss_cons (qs_set (i := 1) S__law_star_table.nd rfl (.inr rfl) (q_sorted (qa_cons (q_own e.f__law_words hq n_64 rfl (qa_cons (qv (i := 0) n_33 rfl (.inr (.inl rfl))) (qa_cons qe_int qa_nil rfl) rfl) rfl rfl) qa_nil rfl) rfl rfl rfl hu rfl e.sorted) rfl (.inl rfl))
    (qss_cons (qs_set (i := 2) S__law_star_table.nd rfl (.inl rfl) (qe_sl (qe_tup (qa_cons (qe_op qo_add (q_ix hu (qv (i := 1) n_14 rfl (.inr (.inl rfl))) qe_int (fun _ _ => rfl)) (q_str s_34)) (qa_cons (qe_op qo_add (q_ix hu (qv (i := 1) n_14 rfl (.inr (.inl rfl))) qe_int (fun _ _ => rfl)) (q_str s_33)) qa_nil rfl) rfl)) qp_none (qp_some (qe_op qo_add qe_int (q_own e.f__law_draw hq n_37 rfl (qa_cons (qv (i := 0) n_33 rfl (.inr (.inl rfl))) (qa_cons qe_int qa_nil rfl) rfl) rfl rfl)))) rfl (.inl rfl))
    (qss_cons (qs_set (i := 3) S__law_star_table.nd rfl (.inl rfl) (q_len (qa_cons (qv (i := 2) n_79 rfl (.inl rfl)) qa_nil rfl) rfl rfl rfl e.len) rfl (.inl rfl))
    (qss_cons (qs_set (i := 4) S__law_star_table.nd rfl (.inl rfl) qe_dn rfl (.inl rfl))
    (qss_cons (qs_for PassesOwn.never rfl (qi_any (qv (i := 1) n_14 rfl (.inr (.inl rfl)))) (qg_name (i := 5) S__law_star_table.nd rfl (.inl rfl) (.inl rfl)) (qss_one (qs_asg (qe_lst qa_nil) (qg_sub' hu (qv (i := 4) n_80 rfl (.inl rfl)) (qv (i := 5) n_15 rfl (.inl rfl)) (fun _ => rfl)) rfl rfl rfl)) (fun _ => rfl))
    (qss_cons (qs_for PassesOwn.never rfl (qi_r1 rfl e.range (qa_cons (qe_op qo_add qe_int (q_own e.f__law_draw hq n_37 rfl (qa_cons (qv (i := 0) n_33 rfl (.inr (.inl rfl))) (qa_cons qe_int qa_nil rfl) rfl) rfl rfl)) qa_nil rfl) rfl) (qg_name (i := 6) S__law_star_table.nd rfl (.inl rfl) (.inl rfl)) (qss_cons (qs_setLc (i := 7) rfl S__law_star_table.nd rfl rfl (sw_true rfl rfl rfl (by decide +kernel)) (own := [("k", 9)]) (t := (.nm 9)) (qi_r1 rfl e.range (qa_cons (qe_op qo_add qe_int (q_own e.f__law_draw hq n_37 rfl (qa_cons (qv (i := 0) n_33 rfl (.inr (.inl rfl))) (qa_cons qe_int qa_nil rfl) rfl) rfl rfl)) qa_nil rfl) rfl) (by show blkC N__law_star_table (defScope s__law_star_table) _ _ = true; decide +kernel) (by decide) (fun _ _ _ _ _ => (pg_name (i := 9) S__law_star_table.nd rfl (.inl rfl) (.inr rfl))) (fun _ _ _ _ _ => qts_nil) (fun _ _ _ _ _ => (q_own e.f__law_one_of hq n_55 rfl (qa_cons (qv (i := 0) n_33 rfl (.inr (.inl rfl))) (qa_cons (qv (i := 1) n_14 rfl (.inr (.inl rfl))) qa_nil rfl) rfl) rfl rfl)) (fun _ => rfl))
    (qss_cons (qs_set (i := 8) S__law_star_table.nd rfl (.inl rfl) (qe_op qo_mul (qe_tup (qa_cons qe_int qa_nil rfl)) (qv (i := 3) n_39 rfl (.inl rfl))) rfl (.inl rfl))
    (qss_one (qs_for PassesOwn.never rfl (qi_r1 rfl e.range (qa_cons (q_len (qa_cons (qv (i := 7) n_21 rfl (.inl rfl)) qa_nil rfl) rfl rfl rfl e.len) qa_nil rfl) rfl) (qg_name (i := 9) S__law_star_table.nd rfl (.inl rfl) (.inl rfl)) (qss_cons (qs_set (i := 10) S__law_star_table.nd rfl (.inl rfl) (q_own e.f__law_offsets hq n_54 rfl (qa_cons (qv (i := 0) n_33 rfl (.inr (.inl rfl))) (qa_cons (qv (i := 3) n_39 rfl (.inl rfl)) (qa_cons qe_int qa_nil rfl) rfl) rfl) rfl rfl) rfl (.inl rfl))
    (qss_cons (qs_if (qt_cmp (q_eq hu) (qv (i := 9) n_43 rfl (.inl rfl)) (qe_op qo_sub (q_len (qa_cons (qv (i := 7) n_21 rfl (.inl rfl)) qa_nil rfl) rfl rfl rfl e.len) qe_int) (nomark _)) (qss_one (qs_set (i := 10) S__law_star_table.nd rfl (.inl rfl) (q_tuple (qa_cons (qe_lc rfl S__law_star_table.nd (own := [("x", 14)]) (t := (.nm 14)) (qi_any (qv (i := 8) n_57 rfl (.inl rfl))) (by show blkC N__law_star_table (defScope s__law_star_table) _ _ = true; decide +kernel) (by decide) (fun _ _ _ _ _ => (pg_name (i := 14) S__law_star_table.nd rfl (.inl rfl) (.inr rfl))) (fun _ _ _ _ _ => qts_nil) (fun _ _ _ _ _ => (qe_op qo_sub qe_int (qv (i := 14) n_44 rfl (.inl rfl)))) (fun _ => rfl)) qa_nil rfl) rfl rfl rfl e.tuple) rfl (.inl rfl))) qss_nil)
    (qss_cons (qs_set (i := 8) S__law_star_table.nd rfl (.inl rfl) (q_own e.f__law_at_offsets hq n_72 rfl (qa_cons (qv (i := 8) n_57 rfl (.inl rfl)) (qa_cons (qv (i := 10) n_6 rfl (.inl rfl)) qa_nil rfl) rfl) rfl rfl) rfl (.inl rfl))
    (qss_one (qs_if (qt_cmp qo_lt (q_len (qa_cons (q_ix hu (qv (i := 4) n_80 rfl (.inl rfl)) (q_ix hu (qv (i := 7) n_21 rfl (.inl rfl)) (qv (i := 9) n_43 rfl (.inl rfl)) (fun _ _ => rfl)) (fun _ _ => rfl)) qa_nil rfl) rfl rfl rfl e.len) qe_int (nomark _)) (qss_one (qs_expr (q_append (q_ix hu (qv (i := 4) n_80 rfl (.inl rfl)) (q_ix hu (qv (i := 7) n_21 rfl (.inl rfl)) (qv (i := 9) n_43 rfl (.inl rfl)) (fun _ _ => rfl)) (fun _ _ => rfl)) (qa_cons (qe_tup (qa_cons (q_str s_0) (qa_cons (q_ix hu (qv (i := 7) n_21 rfl (.inl rfl)) (qe_op qo_mod (q_int (qa_cons (qe_op qo_add (qv (i := 9) n_43 rfl (.inl rfl)) qe_int) qa_nil rfl) rfl rfl rfl e.int) (q_len (qa_cons (qv (i := 7) n_21 rfl (.inl rfl)) qa_nil rfl) rfl rfl rfl e.len)) (fun _ _ => rfl)) (qa_cons (qv (i := 10) n_6 rfl (.inl rfl)) qa_nil rfl) rfl) rfl)) qa_nil rfl) rfl rfl rfl rfl rfl) rfl)) qss_nil))))) (fun _ => rfl))))) (fun _ => rfl))
    (qss_cons (qs_set (i := 11) S__law_star_table.nd rfl (.inl rfl) (qe_lst qa_nil) rfl (.inl rfl))
    (qss_cons (qs_for PassesOwn.never rfl (qi_any (qv (i := 1) n_14 rfl (.inr (.inl rfl)))) (qg_name (i := 5) S__law_star_table.nd rfl (.inl rfl) (.inl rfl)) (qss_cons (qs_set (i := 12) S__law_star_table.nd rfl (.inl rfl) (qe_tup (qa_cons (q_str s_22) (qa_cons qe_int qa_nil rfl) rfl)) rfl (.inl rfl))
    (qss_cons (qs_for PassesOwn.never rfl (qi_any (q_ix hu (qv (i := 4) n_80 rfl (.inl rfl)) (qv (i := 5) n_15 rfl (.inl rfl)) (fun _ _ => rfl))) (qg_name (i := 13) S__law_star_table.nd rfl (.inl rfl) (.inl rfl)) (qss_one (qs_set (i := 12) S__law_star_table.nd rfl (.inl rfl) (qe_tup (qa_cons (q_ix hu (qe_lst (qa_cons (q_str s_14) (qa_cons (q_str s_12) qa_nil rfl) rfl)) (q_own e.f__law_draw hq n_37 rfl (qa_cons (qv (i := 0) n_33 rfl (.inr (.inl rfl))) (qa_cons qe_int qa_nil rfl) rfl) rfl rfl) (fun _ _ => rfl)) (qa_cons (qv (i := 12) n_68 rfl (.inl rfl)) (qa_cons (qv (i := 13) n_34 rfl (.inl rfl)) qa_nil rfl) rfl) rfl)) rfl (.inl rfl))) (fun _ => rfl))
    (qss_one (qs_expr (q_append (qv (i := 11) n_62 rfl (.inl rfl)) (qa_cons (qe_tup (qa_cons (qv (i := 5) n_15 rfl (.inl rfl)) (qa_cons qe_int (qa_cons (qv (i := 12) n_68 rfl (.inl rfl)) qa_nil rfl) rfl) rfl)) qa_nil rfl) rfl rfl rfl rfl rfl) rfl)))) (fun _ => rfl))
    (qss_one (qs_ret (qe_tup (qa_cons (qv (i := 2) n_79 rfl (.inl rfl)) (qa_cons (qe_tup qa_nil) (qa_cons (q_tuple (qa_cons (qv (i := 11) n_62 rfl (.inl rfl)) qa_nil rfl) rfl rfl rfl e.tuple) (qa_cons (qe_tup qa_nil) qa_nil rfl) rfl) rfl) rfl))))))))))))
theorem d__law_is_walk (e : Own P w K mg base k a c) (hr : Room (k + 2) (A.deeper (envOfC "_law_is_walk" (defScope s__law_is_walk) s.heap.objs.size f cdv))) : QSs (cxOf CX0 P w K mg base N__law_is_walk "_law_is_walk" (defScope s__law_is_walk) f cdv A outer s H E).nox (defBody s__law_is_walk) (b__law_is_walk a c) := by
  have hu := G.hu_of hr
  have hq := hr.mono (Nat.le_add_right k 2)
  have hm := hr.mono (Nat.add_le_add_left (by decide : 1 ≤ 2) k)
  exact (qss_cons (qs_if (q_w (qw_or (qt_not (qt_of (q_isa .tuple rfl e.isinstance rfl e.tuple (qv (i := 1) n_4 rfl (.inl rfl)) rfl rfl rfl) (fun _ => rfl))) (qw_or1 (qt_cmp (q_eq hu) (qv (i := 1) n_4 rfl (.inl rfl)) (qe_tup qa_nil) (nomark _))))) (qss_one (qs_ret qe_bl)) qss_nil)
    (qss_cons (qs_if (qt_not (qt_of (q_all (qa_cons (qe_lc rfl S__law_is_walk.nd (own := [("x", 4)]) (t := (.nm 4)) (qi_any (qv (i := 1) n_4 rfl (.inl rfl))) (by show blkC N__law_is_walk (defScope s__law_is_walk) _ _ = true; decide +kernel) (by decide) (fun _ _ _ _ _ => (pg_name (i := 4) S__law_is_walk.nd rfl (.inl rfl) (.inr rfl))) (fun _ _ _ _ _ => qts_nil) (fun _ _ _ _ _ => (qe_and (q_own e.f__law_is_int hq n_47 rfl (qa_cons (qv (i := 4) n_44 rfl (.inl rfl)) qa_nil rfl) rfl rfl) (qe_and (qe_cmp qo_le qe_int (qv (i := 4) n_44 rfl (.inl rfl)) (nomark _)) (qe_one (qe_cmp qo_lt (qv (i := 4) n_44 rfl (.inl rfl)) (q_len (qa_cons (qv (i := 0) n_29 rfl (.inr (.inl rfl))) qa_nil rfl) rfl rfl rfl e.len) (nomark _)))))) (fun _ => rfl)) qa_nil rfl) rfl rfl rfl rfl e.all) (fun _ => rfl))) (qss_one (qs_ret qe_bl)) qss_nil)
    (qss_cons (qs_set (i := 2) S__law_is_walk.nd rfl (.inl rfl) (qe_op qo_mul (qe_tup (qa_cons qe_int qa_nil rfl)) (q_len (qa_cons (q_ix hu (q_ix hu (qv (i := 0) n_29 rfl (.inr (.inl rfl))) qe_int (fun _ _ => rfl)) qe_int (fun _ _ => rfl)) qa_nil rfl) rfl rfl rfl e.len)) rfl (.inl rfl))
    (qss_cons (qs_for PassesOwn.never rfl (qi_r1 rfl e.range (qa_cons (q_len (qa_cons (qv (i := 1) n_4 rfl (.inl rfl)) qa_nil rfl) rfl rfl rfl e.len) qa_nil rfl) rfl) (qg_name (i := 3) S__law_is_walk.nd rfl (.inl rfl) (.inl rfl)) (qss_cons (qs_if (qt_cmp (q_ne hu) (q_ix hu (q_ix hu (qv (i := 0) n_29 rfl (.inr (.inl rfl))) (q_ix hu (qv (i := 1) n_4 rfl (.inl rfl)) (qv (i := 3) n_43 rfl (.inl rfl)) (fun _ _ => rfl)) (fun _ _ => rfl)) qe_int (fun _ _ => rfl)) (q_ix hu (q_ix hu (qv (i := 0) n_29 rfl (.inr (.inl rfl))) (q_ix hu (qv (i := 1) n_4 rfl (.inl rfl)) (qe_op qo_sub (qv (i := 3) n_43 rfl (.inl rfl)) qe_int) (fun _ _ => rfl)) (fun _ _ => rfl)) qe_int (fun _ _ => rfl)) (nomark _)) (qss_one (qs_ret qe_bl)) qss_nil)
    (qss_one (qs_set (i := 2) S__law_is_walk.nd rfl (.inl rfl) (q_own e.f__law_at_offsets hq n_72 rfl (qa_cons (qv (i := 2) n_57 rfl (.inl rfl)) (qa_cons (q_ix hu (q_ix hu (qv (i := 0) n_29 rfl (.inr (.inl rfl))) (q_ix hu (qv (i := 1) n_4 rfl (.inl rfl)) (qv (i := 3) n_43 rfl (.inl rfl)) (fun _ _ => rfl)) (fun _ _ => rfl)) qe_int (fun _ _ => rfl)) qa_nil rfl) rfl) rfl rfl) rfl (.inl rfl)))) (fun _ => rfl))
    (qss_one (qs_ret (qe_not (q_any (qa_cons (qe_lc rfl S__law_is_walk.nd (own := [("x", 4)]) (t := (.nm 4)) (qi_any (qv (i := 2) n_57 rfl (.inl rfl))) (by show blkC N__law_is_walk (defScope s__law_is_walk) _ _ = true; decide +kernel) (by decide) (fun _ _ _ _ _ => (pg_name (i := 4) S__law_is_walk.nd rfl (.inl rfl) (.inr rfl))) (fun _ _ _ _ _ => qts_nil) (fun _ _ _ _ _ => (qe_cmp (q_ne hu) (qv (i := 4) n_44 rfl (.inl rfl)) qe_int (nomark _))) (fun _ => rfl)) qa_nil rfl) rfl rfl rfl rfl e.any))))))))
theorem d__law_cell_at (e : Own P w K mg base k a c) (hr : Room (k + 2) (A.deeper (envOfC "_law_cell_at" (defScope s__law_cell_at) s.heap.objs.size f cdv))) : QSs (cxOf CX0 P w K mg base N__law_cell_at "_law_cell_at" (defScope s__law_cell_at) f cdv A outer s H E).nox (defBody s__law_cell_at) (b__law_cell_at a c) := by
  have hu := G.hu_of hr
  have hq := hr.mono (Nat.le_add_right k 2)
  have hm := hr.mono (Nat.add_le_add_left (by decide : 1 ≤ 2) k)
  exact (qss_cons (qs_set (i := 3) S__law_cell_at.nd rfl (.inl rfl) (qe_op qo_mul (qe_lst (qa_cons qe_int qa_nil rfl)) (qv (i := 1) n_39 rfl (.inl rfl))) rfl (.inl rfl))
    (qss_cons (qs_for PassesOwn.never rfl (qi_any (qv (i := 2) n_81 rfl (.inl rfl))) (qg_tup rfl (qgs_cons (qg_name (i := 4) S__law_cell_at.nd rfl (.inl rfl) (.inl rfl)) (qgs_cons (qg_name (i := 5) S__law_cell_at.nd rfl (.inl rfl) (.inl rfl)) qgs_nil rfl) rfl) rfl rfl) (qss_one (qs_asg (qv (i := 5) n_9 rfl (.inl rfl)) (qg_sub' hu (qv (i := 3) n_6 rfl (.inl rfl)) (qv (i := 4) n_43 rfl (.inl rfl)) (fun _ => rfl)) rfl rfl rfl)) (fun _ => rfl))
    (qss_one (qs_ret (qe_tup (qa_cons (q_str s_0) (qa_cons (qv (i := 0) n_15 rfl (.inl rfl)) (qa_cons (q_tuple (qa_cons (qv (i := 3) n_6 rfl (.inl rfl)) qa_nil rfl) rfl rfl rfl e.tuple) qa_nil rfl) rfl) rfl))))))
theorem d__law_gadget (e : Own P w K mg base k a c) (hr : Room (k + 2) (A.deeper (envOfC "_law_gadget" (defScope s__law_gadget) s.heap.objs.size f cdv))) : QSs (cxOf CX0 P w K mg base N__law_gadget "_law_gadget" (defScope s__law_gadget) f cdv A outer s H E).nox (defBody s__law_gadget) (b__law_gadget a c) := by
  have hu := G.hu_of hr
  have hq := hr.mono (Nat.le_add_right k 2)
  have hm := hr.mono (Nat.add_le_add_left (by decide : 1 ≤ 2) k)
  exact (qss_cons (qs_asg (qv (i := 1) n_14 rfl (.inl rfl)) (qg_lst rfl (qgs_cons (qg_name (i := 6) S__law_gadget.nd rfl (.inl rfl) (.inl rfl)) (qgs_cons (qg_name (i := 7) S__law_gadget.nd rfl (.inl rfl) (.inl rfl)) qgs_nil rfl) rfl) rfl rfl) rfl rfl rfl)
    (qss_cons (qs_set (i := 8) S__law_gadget.nd rfl (.inl rfl) (qe_op qo_add qe_int (q_own e.f__law_draw hq n_37 rfl (qa_cons (qv (i := 0) n_33 rfl (.inl rfl)) (qa_cons qe_int qa_nil rfl) rfl) rfl rfl)) rfl (.inl rfl))
    (qss_cons (qs_set (i := 9) S__law_gadget.nd rfl (.inl rfl) (qe_disp (qps_cons (qv (i := 6) n_44 rfl (.inl rfl)) (qe_lst (qa_cons (q_own e.f__law_cell_at hq n_83 rfl (qa_cons (qv (i := 6) n_44 rfl (.inl rfl)) (qa_cons (qv (i := 2) n_39 rfl (.inl rfl)) (qa_cons (qe_lst (qa_cons (qe_tup (qa_cons (qv (i := 4) n_82 rfl (.inl rfl)) (qa_cons (qe_op qo_add qe_int (q_own e.f__law_draw hq n_37 rfl (qa_cons (qv (i := 0) n_33 rfl (.inl rfl)) (qa_cons qe_int qa_nil rfl) rfl) rfl rfl)) qa_nil rfl) rfl)) qa_nil rfl)) qa_nil rfl) rfl) rfl) rfl rfl) qa_nil rfl)) (qps_cons (qv (i := 7) n_45 rfl (.inl rfl)) (qe_lst qa_nil) qps_nil)) rfl rfl (fun z => by cases z) (by decide)) rfl (.inl rfl))
    (qss_cons (qs_expr (q_append (q_ix hu (qv (i := 9) n_80 rfl (.inl rfl)) (qv (i := 7) n_45 rfl (.inl rfl)) (fun _ _ => rfl)) (qa_cons (q_own e.f__law_cell_at hq n_83 rfl (qa_cons (qv (i := 7) n_45 rfl (.inl rfl)) (qa_cons (qv (i := 2) n_39 rfl (.inl rfl)) (qa_cons (qe_lst (qa_cons (qe_tup (qa_cons (qv (i := 4) n_82 rfl (.inl rfl)) (qa_cons (qe_op qo_sub (qe_neg qe_int) (q_own e.f__law_draw hq n_37 rfl (qa_cons (qv (i := 0) n_33 rfl (.inl rfl)) (qa_cons qe_int qa_nil rfl) rfl) rfl rfl)) qa_nil rfl) rfl)) qa_nil rfl)) qa_nil rfl) rfl) rfl) rfl rfl) qa_nil rfl) rfl rfl rfl rfl rfl) rfl)
    (qss_cons (qs_expr (q_append (q_ix hu (qv (i := 9) n_80 rfl (.inl rfl)) (qv (i := 6) n_44 rfl (.inl rfl)) (fun _ _ => rfl)) (qa_cons (q_own e.f__law_cell_at hq n_83 rfl (qa_cons (qv (i := 7) n_45 rfl (.inl rfl)) (qa_cons (qv (i := 2) n_39 rfl (.inl rfl)) (qa_cons (qe_lst (qa_cons (qe_tup (qa_cons (qv (i := 3) n_84 rfl (.inl rfl)) (qa_cons (qe_op qo_sub qe_int (qe_op qo_mul (qv (i := 5) n_53 rfl (.inl rfl)) (qv (i := 8) n_9 rfl (.inl rfl)))) qa_nil rfl) rfl)) (qa_cons (qe_tup (qa_cons (qv (i := 4) n_82 rfl (.inl rfl)) (qa_cons (qe_op qo_sub (q_own e.f__law_draw hq n_37 rfl (qa_cons (qv (i := 0) n_33 rfl (.inl rfl)) (qa_cons qe_int qa_nil rfl) rfl) rfl rfl) qe_int) qa_nil rfl) rfl)) qa_nil rfl) rfl)) qa_nil rfl) rfl) rfl) rfl rfl) qa_nil rfl) rfl rfl rfl rfl rfl) rfl)
    (qss_cons (qs_expr (q_append (q_ix hu (qv (i := 9) n_80 rfl (.inl rfl)) (qv (i := 7) n_45 rfl (.inl rfl)) (fun _ _ => rfl)) (qa_cons (q_own e.f__law_cell_at hq n_83 rfl (qa_cons (qv (i := 6) n_44 rfl (.inl rfl)) (qa_cons (qv (i := 2) n_39 rfl (.inl rfl)) (qa_cons (qe_lst (qa_cons (qe_tup (qa_cons (qv (i := 4) n_82 rfl (.inl rfl)) (qa_cons (qe_op qo_sub (q_own e.f__law_draw hq n_37 rfl (qa_cons (qv (i := 0) n_33 rfl (.inl rfl)) (qa_cons qe_int qa_nil rfl) rfl) rfl rfl) qe_int) qa_nil rfl) rfl)) qa_nil rfl)) qa_nil rfl) rfl) rfl) rfl rfl) qa_nil rfl) rfl rfl rfl rfl rfl) rfl)
    (qss_one (qs_ret (qv (i := 9) n_80 rfl (.inl rfl))))))))))
theorem d__law_rules_by (e : Own P w K mg base k a c) (hr : Room (k + 2) (A.deeper (envOfC "_law_rules_by" (defScope s__law_rules_by) s.heap.objs.size f cdv))) : QSs (cxOf CX0 P w K mg base N__law_rules_by "_law_rules_by" (defScope s__law_rules_by) f cdv A outer s H E).nox (defBody s__law_rules_by) (b__law_rules_by a c) := by
  have hu := G.hu_of hr
  have hq := hr.mono (Nat.le_add_right k 2)
  have hm := hr.mono (Nat.add_le_add_left (by decide : 1 ≤ 2) k)
  exact (qss_cons (qs_set (i := 2) S__law_rules_by.nd rfl (.inl rfl) (qe_lst qa_nil) rfl (.inl rfl))
    (qss_cons (qs_for PassesOwn.never rfl (qi_any (q_sorted (qa_cons (qv (i := 1) n_80 rfl (.inl rfl)) qa_nil rfl) rfl rfl rfl hu rfl e.sorted)) (qg_name (i := 3) S__law_rules_by.nd rfl (.inl rfl) (.inl rfl)) (qss_cons (qs_set (i := 4) S__law_rules_by.nd rfl (.inl rfl) (qe_tup (qa_cons (q_str s_24) (qa_cons qe_int qa_nil rfl) rfl)) rfl (.inl rfl))
    (qss_cons (qs_for PassesOwn.never rfl (qi_any (q_own e.f__law_shuffled hq n_85 rfl (qa_cons (qv (i := 0) n_33 rfl (.inl rfl)) (qa_cons (q_ix hu (qv (i := 1) n_80 rfl (.inl rfl)) (qv (i := 3) n_15 rfl (.inl rfl)) (fun _ _ => rfl)) qa_nil rfl) rfl) rfl rfl)) (qg_name (i := 5) S__law_rules_by.nd rfl (.inl rfl) (.inl rfl)) (qss_one (qs_set (i := 4) S__law_rules_by.nd rfl (.inl rfl) (qe_tup (qa_cons (q_own e.f__law_one_of hq n_55 rfl (qa_cons (qv (i := 0) n_33 rfl (.inl rfl)) (qa_cons (qe_lst (qa_cons (q_str s_14) (qa_cons (q_str s_13) (qa_cons (q_str s_12) (qa_cons (q_str s_11) qa_nil rfl) rfl) rfl) rfl)) qa_nil rfl) rfl) rfl rfl) (qa_cons (qv (i := 4) n_68 rfl (.inl rfl)) (qa_cons (qv (i := 5) n_34 rfl (.inl rfl)) qa_nil rfl) rfl) rfl)) rfl (.inl rfl))) (fun _ => rfl))
    (qss_one (qs_expr (q_append (qv (i := 2) n_62 rfl (.inl rfl)) (qa_cons (qe_tup (qa_cons (qv (i := 3) n_15 rfl (.inl rfl)) (qa_cons (q_own e.f__law_rim hq n_58 rfl (qa_cons (qv (i := 0) n_33 rfl (.inl rfl)) qa_nil rfl) rfl rfl) (qa_cons (qv (i := 4) n_68 rfl (.inl rfl)) qa_nil rfl) rfl) rfl)) qa_nil rfl) rfl rfl rfl rfl rfl) rfl)))) (fun _ => rfl))
    (qss_one (qs_ret (q_tuple (qa_cons (qv (i := 2) n_62 rfl (.inl rfl)) qa_nil rfl) rfl rfl rfl e.tuple)))))
theorem d__law_levelled (e : Own P w K mg base k a c) (hr : Room (k + 2) (A.deeper (envOfC "_law_levelled" (defScope s__law_levelled) s.heap.objs.size f cdv))) : QSs (cxOf CX0 P w K mg base N__law_levelled "_law_levelled" (defScope s__law_levelled) f cdv A outer s H E).nox (defBody s__law_levelled) (b__law_levelled a c) := by
  have hu := G.hu_of hr
  have hq := hr.mono (Nat.le_add_right k 2)
  have hm := hr.mono (Nat.add_le_add_left (by decide : 1 ≤ 2) k)
  exact (qss_cons (qs_set (i := 1) S__law_levelled.nd rfl (.inl rfl) (q_own e.f__law_words hq n_64 rfl (qa_cons (qv (i := 0) n_33 rfl (.inl rfl)) (qa_cons qe_int qa_nil rfl) rfl) rfl rfl) rfl (.inl rfl))
    (qss_cons (qs_set (i := 2) S__law_levelled.nd rfl (.inl rfl) (q_tuple (qa_cons (qe_sl (qv (i := 1) n_65 rfl (.inl rfl)) qp_none (qp_some qe_int)) qa_nil rfl) rfl rfl rfl e.tuple) rfl (.inl rfl))
    (qss_cons (qs_set (i := 3) S__law_levelled.nd rfl (.inl rfl) (qe_op qo_add qe_int (q_own e.f__law_draw hq n_37 rfl (qa_cons (qv (i := 0) n_33 rfl (.inl rfl)) (qa_cons qe_int qa_nil rfl) rfl) rfl rfl)) rfl (.inl rfl))
    (qss_cons (qs_if (qt_cmp (q_eq hu) (qv (i := 3) n_86 rfl (.inl rfl)) qe_int (nomark _)) (qss_cons (qs_set (i := 2) S__law_levelled.nd rfl (.inl rfl) (qe_sl (qv (i := 2) n_79 rfl (.inl rfl)) qp_none (qp_some qe_int)) rfl (.inl rfl))
    (qss_cons (qs_set (i := 4) S__law_levelled.nd rfl (.inl rfl) (q_own e.f__law_draw hq n_37 rfl (qa_cons (qv (i := 0) n_33 rfl (.inl rfl)) (qa_cons qe_int qa_nil rfl) rfl) rfl rfl) rfl (.inl rfl))
    (qss_one (qs_set (i := 5) S__law_levelled.nd rfl (.inl rfl) (q_own e.f__law_gadget hq n_88 rfl (qa_cons (qv (i := 0) n_33 rfl (.inl rfl)) (qa_cons (qe_sl (qv (i := 1) n_65 rfl (.inl rfl)) (qp_some qe_int) (qp_some qe_int)) (qa_cons qe_int (qa_cons (qv (i := 4) n_87 rfl (.inl rfl)) (qa_cons (qe_op qo_sub qe_int (qv (i := 4) n_87 rfl (.inl rfl))) (qa_cons (q_ix hu (qe_lst (qa_cons qe_int (qa_cons (qe_neg qe_int) qa_nil rfl) rfl)) (q_own e.f__law_draw hq n_37 rfl (qa_cons (qv (i := 0) n_33 rfl (.inl rfl)) (qa_cons qe_int qa_nil rfl) rfl) rfl rfl) (fun _ _ => rfl)) qa_nil rfl) rfl) rfl) rfl) rfl) rfl) rfl rfl) rfl (.inl rfl))))) (qss_cons (qs_set (i := 6) S__law_levelled.nd rfl (.inl rfl) (q_own e.f__law_shuffled hq n_85 rfl (qa_cons (qv (i := 0) n_33 rfl (.inl rfl)) (qa_cons (qe_lst (qa_cons qe_int (qa_cons qe_int (qa_cons qe_int qa_nil rfl) rfl) rfl)) qa_nil rfl) rfl) rfl rfl) rfl (.inl rfl))
    (qss_cons (qs_set (i := 5) S__law_levelled.nd rfl (.inl rfl) (q_own e.f__law_gadget hq n_88 rfl (qa_cons (qv (i := 0) n_33 rfl (.inl rfl)) (qa_cons (qe_sl (qv (i := 1) n_65 rfl (.inl rfl)) (qp_some qe_int) (qp_some qe_int)) (qa_cons qe_int (qa_cons (q_ix hu (qv (i := 6) n_89 rfl (.inl rfl)) qe_int (fun _ _ => rfl)) (qa_cons (q_ix hu (qv (i := 6) n_89 rfl (.inl rfl)) qe_int (fun _ _ => rfl)) (qa_cons qe_int qa_nil rfl) rfl) rfl) rfl) rfl) rfl) rfl rfl) rfl (.inl rfl))
    (qss_cons (qs_set (i := 7) S__law_levelled.nd rfl (.inl rfl) (q_own e.f__law_gadget hq n_88 rfl (qa_cons (qv (i := 0) n_33 rfl (.inl rfl)) (qa_cons (qe_sl (qv (i := 1) n_65 rfl (.inl rfl)) (qp_some qe_int) (qp_some qe_int)) (qa_cons qe_int (qa_cons (q_ix hu (qv (i := 6) n_89 rfl (.inl rfl)) qe_int (fun _ _ => rfl)) (qa_cons (q_ix hu (qv (i := 6) n_89 rfl (.inl rfl)) qe_int (fun _ _ => rfl)) (qa_cons (qe_neg qe_int) qa_nil rfl) rfl) rfl) rfl) rfl) rfl) rfl rfl) rfl (.inl rfl))
    (qss_cons (qs_asg (qe_op qo_add (q_ix hu (qv (i := 7) n_13 rfl (.inl rfl)) (q_ix hu (qv (i := 1) n_65 rfl (.inl rfl)) qe_int (fun _ _ => rfl)) (fun _ _ => rfl)) (qe_lst (qa_cons (q_own e.f__law_cell_at hq n_83 rfl (qa_cons (q_ix hu (qv (i := 1) n_65 rfl (.inl rfl)) qe_int (fun _ _ => rfl)) (qa_cons qe_int (qa_cons (qe_lst qa_nil) qa_nil rfl) rfl) rfl) rfl rfl) qa_nil rfl))) (qg_sub' hu (qv (i := 5) n_80 rfl (.inl rfl)) (q_ix hu (qv (i := 1) n_65 rfl (.inl rfl)) qe_int (fun _ _ => rfl)) (fun _ => rfl)) rfl rfl rfl)
    (qss_cons (qs_asg (q_ix hu (qv (i := 7) n_13 rfl (.inl rfl)) (q_ix hu (qv (i := 1) n_65 rfl (.inl rfl)) qe_int (fun _ _ => rfl)) (fun _ _ => rfl)) (qg_sub' hu (qv (i := 5) n_80 rfl (.inl rfl)) (q_ix hu (qv (i := 1) n_65 rfl (.inl rfl)) qe_int (fun _ _ => rfl)) (fun _ => rfl)) rfl rfl rfl)
    (qss_one (qs_expr (q_append (q_ix hu (qv (i := 5) n_80 rfl (.inl rfl)) (q_ix hu (qv (i := 1) n_65 rfl (.inl rfl)) qe_int (fun _ _ => rfl)) (fun _ _ => rfl)) (qa_cons (q_own e.f__law_cell_at hq n_83 rfl (qa_cons (q_ix hu (qv (i := 1) n_65 rfl (.inl rfl)) qe_int (fun _ _ => rfl)) (qa_cons qe_int (qa_cons (qe_lst (qa_cons (qe_tup (qa_cons (q_ix hu (qv (i := 6) n_89 rfl (.inl rfl)) qe_int (fun _ _ => rfl)) (qa_cons (q_ix hu (qe_lst (qa_cons qe_int (qa_cons (qe_neg qe_int) qa_nil rfl) rfl)) (q_own e.f__law_draw hq n_37 rfl (qa_cons (qv (i := 0) n_33 rfl (.inl rfl)) (qa_cons qe_int qa_nil rfl) rfl) rfl rfl) (fun _ _ => rfl)) qa_nil rfl) rfl)) qa_nil rfl)) qa_nil rfl) rfl) rfl) rfl rfl) qa_nil rfl) rfl rfl rfl rfl rfl) rfl))))))))
    (qss_one (qs_ret (qe_tup (qa_cons (qe_tup (qa_cons (qv (i := 2) n_79 rfl (.inl rfl)) (qa_cons (qe_tup qa_nil) (qa_cons (q_own e.f__law_rules_by hq n_90 rfl (qa_cons (qv (i := 0) n_33 rfl (.inl rfl)) (qa_cons (qv (i := 5) n_80 rfl (.inl rfl)) qa_nil rfl) rfl) rfl rfl) (qa_cons (qe_tup qa_nil) qa_nil rfl) rfl) rfl) rfl)) (qa_cons (qv (i := 3) n_86 rfl (.inl rfl)) qa_nil rfl) rfl))))))))
theorem d__law_told_table (e : Own P w K mg base k a c) (hr : Room (k + 2) (A.deeper (envOfC "_law_told_table" (defScope s__law_told_table) s.heap.objs.size f cdv))) : QSs (cxOf CX0 P w K mg base N__law_told_table "_law_told_table" (defScope s__law_told_table) f cdv A outer s H E).nox (defBody s__law_told_table) (b__law_told_table a c) := by
  have hu := G.hu_of hr
  have hq := hr.mono (Nat.le_add_right k 2)
  have hm := hr.mono (Nat.add_le_add_left (by decide : 1 ≤ 2) k)
  exact (qss_cons (qs_set (i := 1) S__law_told_table.nd rfl (.inl rfl) (q_own e.f__law_draw hq n_37 rfl (qa_cons (qv (i := 0) n_33 rfl (.inl rfl)) (qa_cons qe_int qa_nil rfl) rfl) rfl rfl) rfl (.inl rfl))
    (qss_cons (qs_if (qt_cmp (q_eq hu) (qv (i := 1) n_49 rfl (.inl rfl)) qe_int (nomark _)) (qss_one (qs_ret (q_ix hu (q_own e.f__law_levelled hq n_91 rfl (qa_cons (qv (i := 0) n_33 rfl (.inl rfl)) qa_nil rfl) rfl rfl) qe_int (fun _ _ => rfl)))) qss_nil)
    (qss_cons (qs_set (i := 2) S__law_told_table.nd rfl (.inl rfl) (q_own e.f__law_table_world hq n_70 rfl (qa_cons (qv (i := 0) n_33 rfl (.inl rfl)) (qa_cons (qe_op qo_add qe_int (q_own e.f__law_draw hq n_37 rfl (qa_cons (qv (i := 0) n_33 rfl (.inl rfl)) (qa_cons qe_int qa_nil rfl) rfl) rfl rfl)) (qa_cons (qe_op qo_add qe_int (q_own e.f__law_draw hq n_37 rfl (qa_cons (qv (i := 0) n_33 rfl (.inl rfl)) (qa_cons qe_int qa_nil rfl) rfl) rfl rfl)) (qa_cons (q_own e.f__law_draw hq n_37 rfl (qa_cons (qv (i := 0) n_33 rfl (.inl rfl)) (qa_cons qe_int qa_nil rfl) rfl) rfl rfl) qa_nil rfl) rfl) rfl) rfl) rfl rfl) rfl (.inl rfl))
    (qss_cons (qs_expr (q_own e.f__law_with_row hq n_92 rfl (qa_cons (qv (i := 0) n_33 rfl (.inl rfl)) (qa_cons (qv (i := 2) n_50 rfl (.inl rfl)) (qa_cons (qe_neg qe_int) qa_nil rfl) rfl) rfl) rfl rfl) rfl)
    (qss_one (qs_ret (q_own e.f__law_rules_of hq n_71 rfl (qa_cons (qv (i := 0) n_33 rfl (.inl rfl)) (qa_cons (qv (i := 2) n_50 rfl (.inl rfl)) (qa_cons qe_int qa_nil rfl) rfl) rfl) rfl rfl)))))))
theorem d__law_numbers_in (e : Own P w K mg base k a c) (hr : Room (k + 2) (A.deeper (envOfC "_law_numbers_in" (defScope s__law_numbers_in) s.heap.objs.size f cdv))) : QSs (cxOf CX0 P w K mg base N__law_numbers_in "_law_numbers_in" (defScope s__law_numbers_in) f cdv A outer s H E).nox (defBody s__law_numbers_in) (b__law_numbers_in a c) := by
  have hu := G.hu_of hr
  have hq := hr.mono (Nat.le_add_right k 2)
  have hm := hr.mono (Nat.add_le_add_left (by decide : 1 ≤ 2) k)
  exact (qss_cons (qs_if (qt_cmp (q_eq hu) (q_ix hu (qv (i := 0) n_68 rfl (.inl rfl)) qe_int (fun _ _ => rfl)) (q_str s_22) (nomark _)) (qss_one (qs_ret (qe_lst (qa_cons (q_ix hu (qv (i := 0) n_68 rfl (.inl rfl)) qe_int (fun _ _ => rfl)) qa_nil rfl)))) qss_nil)
    (qss_cons (qs_set (i := 1) S__law_numbers_in.nd rfl (.inl rfl) (qe_lst qa_nil) rfl (.inl rfl))
    (qss_cons (qs_if (qt_cmp (q_eq hu) (q_ix hu (qv (i := 0) n_68 rfl (.inl rfl)) qe_int (fun _ _ => rfl)) (q_str s_10) (nomark _)) (qss_one (qs_expr (q_append (qv (i := 1) n_2 rfl (.inl rfl)) (qa_cons (q_ix hu (qv (i := 0) n_68 rfl (.inl rfl)) qe_int (fun _ _ => rfl)) qa_nil rfl) rfl rfl rfl rfl rfl) rfl)) qss_nil)
    (qss_cons (qs_for PassesOwn.never rfl (qi_any (qe_sl (qv (i := 0) n_68 rfl (.inl rfl)) (qp_some qe_int) qp_none)) (qg_name (i := 2) S__law_numbers_in.nd rfl (.inl rfl) (.inl rfl)) (qss_one (qs_if (q_w (qw_and (qt_of (q_isa .tuple rfl e.isinstance rfl e.tuple (qv (i := 2) n_1 rfl (.inl rfl)) rfl rfl rfl) (fun _ => rfl)) (qw_and1 (qt_cmp (q_ne hu) (q_ix hu (qv (i := 0) n_68 rfl (.inl rfl)) qe_int (fun _ _ => rfl)) (q_str s_0) (nomark _))))) (qss_one (qs_set (i := 1) S__law_numbers_in.nd rfl (.inl rfl) (qe_op qo_add (qv (i := 1) n_2 rfl (.inl rfl)) (q_own e.f__law_numbers_in hq n_93 rfl (qa_cons (qv (i := 2) n_1 rfl (.inl rfl)) qa_nil rfl) rfl rfl)) rfl (.inl rfl))) qss_nil)) (fun _ => rfl))
    (qss_one (qs_ret (qv (i := 1) n_2 rfl (.inl rfl))))))))
theorem d__law_token_count (e : Own P w K mg base k a c) (hr : Room (k + 2) (A.deeper (envOfC "_law_token_count" (defScope s__law_token_count) s.heap.objs.size f cdv))) : QSs (cxOf CX0 P w K mg base N__law_token_count "_law_token_count" (defScope s__law_token_count) f cdv A outer s H E).nox (defBody s__law_token_count) (b__law_token_count a c) := by
  have hu := G.hu_of hr
  have hq := hr.mono (Nat.le_add_right k 2)
  have hm := hr.mono (Nat.add_le_add_left (by decide : 1 ≤ 2) k)
  exact (qss_cons (qs_set (i := 2) S__law_token_count.nd rfl (.inl rfl) (q_ix hu (qv (i := 1) n_68 rfl (.inl rfl)) qe_int (fun _ _ => rfl)) rfl (.inl rfl))
    (qss_cons (qs_if (q_w (qw_or (qt_cmp (q_eq hu) (qv (i := 2) n_73 rfl (.inl rfl)) (q_str s_22) (nomark _)) (qw_or1 (qt_cmp (q_eq hu) (qv (i := 2) n_73 rfl (.inl rfl)) (q_str s_24) (nomark _))))) (qss_one (qs_ret qe_int)) qss_nil)
    (qss_cons (qs_if (qt_cmp (q_eq hu) (qv (i := 2) n_73 rfl (.inl rfl)) (q_str s_0) (nomark _)) (qss_one (qs_ret (qe_op qo_add (qe_op qo_add qe_int (qe_op qo_mul qe_int (q_len (qa_cons (qv (i := 0) n_79 rfl (.inr (.inl rfl))) qa_nil rfl) rfl rfl rfl e.len))) (qe_op qo_mul qe_int (q_len (qa_cons (qe_lc rfl S__law_token_count.nd (own := [("x", 4)]) (t := (.nm 4)) (qi_any (q_ix hu (qv (i := 1) n_68 rfl (.inl rfl)) qe_int (fun _ _ => rfl))) (by show blkC N__law_token_count (defScope s__law_token_count) _ _ = true; decide +kernel) (by decide) (fun _ _ _ _ _ => (pg_name (i := 4) S__law_token_count.nd rfl (.inl rfl) (.inr rfl))) (fun _ _ _ _ _ => (qts_one (qt_cmp (q_ne hu) (qv (i := 4) n_44 rfl (.inl rfl)) qe_int (nomark _)))) (fun _ _ _ _ _ => (qv (i := 4) n_44 rfl (.inl rfl))) (fun _ => rfl)) qa_nil rfl) rfl rfl rfl e.len))))) qss_nil)
    (qss_cons (qs_if (qt_cmp (q_eq hu) (qv (i := 2) n_73 rfl (.inl rfl)) (q_str s_9) (nomark _)) (qss_one (qs_ret (qe_op qo_add (qe_op qo_add qe_int (q_own e.f__law_token_count hq n_94 rfl (qa_cons (qv (i := 0) n_79 rfl (.inr (.inl rfl))) (qa_cons (q_ix hu (qv (i := 1) n_68 rfl (.inl rfl)) qe_int (fun _ _ => rfl)) qa_nil rfl) rfl) rfl rfl)) (qe_op qo_mul qe_int (q_int (qa_cons (qe_cmp (qo_in hu) (q_ix hu (q_ix hu (qv (i := 1) n_68 rfl (.inl rfl)) qe_int (fun _ _ => rfl)) qe_int (fun _ _ => rfl)) (qe_lst (qa_cons (q_str s_14) (qa_cons (q_str s_13) (qa_cons (q_str s_9) qa_nil rfl) rfl) rfl)) (by with_unfolding_all rfl)) qa_nil rfl) rfl rfl rfl e.int))))) qss_nil)
    (qss_cons (qs_if (qt_cmp (q_eq hu) (qv (i := 2) n_73 rfl (.inl rfl)) (q_str s_10) (nomark _)) (qss_one (qs_ret (qe_op qo_add (qe_op qo_add qe_int (q_own e.f__law_token_count hq n_94 rfl (qa_cons (qv (i := 0) n_79 rfl (.inr (.inl rfl))) (qa_cons (q_ix hu (qv (i := 1) n_68 rfl (.inl rfl)) qe_int (fun _ _ => rfl)) qa_nil rfl) rfl) rfl rfl)) (qe_op qo_mul qe_int (q_int (qa_cons (qe_cmp (qo_in hu) (q_ix hu (q_ix hu (qv (i := 1) n_68 rfl (.inl rfl)) qe_int (fun _ _ => rfl)) qe_int (fun _ _ => rfl)) (qe_lst (qa_cons (q_str s_14) (qa_cons (q_str s_13) (qa_cons (q_str s_9) (qa_cons (q_str s_10) qa_nil rfl) rfl) rfl) rfl)) (by with_unfolding_all rfl)) qa_nil rfl) rfl rfl rfl e.int))))) qss_nil)
    (qss_cons (qs_set (i := 3) S__law_token_count.nd rfl (.inl rfl) (q_sum (qa_cons (qe_lc rfl S__law_token_count.nd (own := [("part", 5)]) (t := (.nm 5)) (qi_any (qe_sl (qv (i := 1) n_68 rfl (.inl rfl)) (qp_some qe_int) qp_none)) (by show blkC N__law_token_count (defScope s__law_token_count) _ _ = true; decide +kernel) (by decide) (fun _ _ _ _ _ => (pg_name (i := 5) S__law_token_count.nd rfl (.inl rfl) (.inr rfl))) (fun _ _ _ _ _ => (qts_one (qt_of (q_isa .tuple rfl e.isinstance rfl e.tuple (qv (i := 5) n_1 rfl (.inl rfl)) rfl rfl rfl) (fun _ => rfl)))) (fun _ _ _ _ _ => (q_own e.f__law_token_count hq n_94 rfl (qa_cons (qv (i := 0) n_79 rfl (.inr (.inl rfl))) (qa_cons (qv (i := 5) n_1 rfl (.inl rfl)) qa_nil rfl) rfl) rfl rfl)) (fun _ => rfl)) qa_nil rfl) rfl rfl rfl rfl e.sum) rfl (.inl rfl))
    (qss_cons (qs_if (qt_cmp (q_eq hu) (qv (i := 2) n_73 rfl (.inl rfl)) (q_str s_21) (nomark _)) (qss_one (qs_ret (qe_op qo_add (qv (i := 3) n_57 rfl (.inl rfl)) qe_int))) qss_nil)
    (qss_cons (qs_if (q_w (qw_or (qt_cmp (q_eq hu) (qv (i := 2) n_73 rfl (.inl rfl)) (q_str s_14) (nomark _)) (qw_or1 (qt_cmp (q_eq hu) (qv (i := 2) n_73 rfl (.inl rfl)) (q_str s_13) (nomark _))))) (qss_one (qs_ret (qe_op qo_add (qe_op qo_add (qv (i := 3) n_57 rfl (.inl rfl)) qe_int) (qe_op qo_mul qe_int (q_int (qa_cons (qe_cmp (qo_in hu) (q_ix hu (q_ix hu (qv (i := 1) n_68 rfl (.inl rfl)) qe_int (fun _ _ => rfl)) qe_int (fun _ _ => rfl)) (qe_lst (qa_cons (q_str s_14) (qa_cons (q_str s_13) (qa_cons (q_str s_9) qa_nil rfl) rfl) rfl)) (by with_unfolding_all rfl)) qa_nil rfl) rfl rfl rfl e.int))))) qss_nil)
    (qss_one (qs_ret (qe_op qo_add (qv (i := 3) n_57 rfl (.inl rfl)) qe_int)))))))))))
theorem d__law_can_be_read (e : Own P w K mg base k a c) (hr : Room (k + 2) (A.deeper (envOfC "_law_can_be_read" (defScope s__law_can_be_read) s.heap.objs.size f cdv))) : QSs (cxOf CX0 P w K mg base N__law_can_be_read "_law_can_be_read" (defScope s__law_can_be_read) f cdv A outer s H E).nox (defBody s__law_can_be_read) (b__law_can_be_read a c) := by
  have hu := G.hu_of hr
  have hq := hr.mono (Nat.le_add_right k 2)
  have hm := hr.mono (Nat.add_le_add_left (by decide : 1 ≤ 2) k)
  exact (qss_cons (qs_set (i := 2) S__law_can_be_read.nd rfl (.inl rfl) (qe_op qo_add (qe_op qo_add qe_int (qe_op qo_mul qe_int (q_int (qa_cons (qe_cmp (q_ne hu) (q_ix hu (qv (i := 1) n_11 rfl (.inl rfl)) qe_int (fun _ _ => rfl)) qe_int (nomark _)) qa_nil rfl) rfl rfl rfl e.int))) (q_int (qa_cons (qe_cmp qo_lt (q_ix hu (qv (i := 1) n_11 rfl (.inl rfl)) qe_int (fun _ _ => rfl)) qe_int (nomark _)) qa_nil rfl) rfl rfl rfl e.int)) rfl (.inl rfl))
    (qss_cons (qs_if (q_w (qw_or (qt_cmp qo_gt (qe_op qo_add (qv (i := 2) n_95 rfl (.inl rfl)) (q_own e.f__law_token_count hq n_94 rfl (qa_cons (qv (i := 0) n_79 rfl (.inl rfl)) (qa_cons (q_ix hu (qv (i := 1) n_11 rfl (.inl rfl)) qe_int (fun _ _ => rfl)) qa_nil rfl) rfl) rfl rfl)) qe_int (nomark _)) (qw_or1 (qt_cmp qo_gt (q_len (qa_cons (q_own e.f__law_refs hq n_69 rfl (qa_cons (q_ix hu (qv (i := 1) n_11 rfl (.inl rfl)) qe_int (fun _ _ => rfl)) qa_nil rfl) rfl rfl) qa_nil rfl) rfl rfl rfl e.len) qe_int (nomark _))))) (qss_one (qs_ret qe_bl)) qss_nil)
    (qss_one (qs_ret (q_all (qa_cons (qe_lc rfl S__law_can_be_read.nd (own := [("number", 3)]) (t := (.nm 3)) (qi_any (q_own e.f__law_numbers_in hq n_93 rfl (qa_cons (q_ix hu (qv (i := 1) n_11 rfl (.inl rfl)) qe_int (fun _ _ => rfl)) qa_nil rfl) rfl rfl)) (by show blkC N__law_can_be_read (defScope s__law_can_be_read) _ _ = true; decide +kernel) (by decide) (fun _ _ _ _ _ => (pg_name (i := 3) S__law_can_be_read.nd rfl (.inl rfl) (.inr rfl))) (fun _ _ _ _ _ => qts_nil) (fun _ _ _ _ _ => (qe_cmp qo_lt (qv (i := 3) n_22 rfl (.inl rfl)) (qe_op qo_pow qe_int qe_int) (nomark _))) (fun _ => rfl)) qa_nil rfl) rfl rfl rfl rfl e.all)))))
theorem d__law_round_walks (e : Own P w K mg base k a c) (hr : Room (k + 2) (A.deeper (envOfC "_law_round_walks" (defScope s__law_round_walks) s.heap.objs.size f cdv))) : QSs (cxOf CX0 P w K mg base N__law_round_walks "_law_round_walks" (defScope s__law_round_walks) f cdv A outer s H E).nox (defBody s__law_round_walks) (b__law_round_walks a c) := by
  have hu := G.hu_of hr
  have hq := hr.mono (Nat.le_add_right k 2)
  have hm := hr.mono (Nat.add_le_add_left (by decide : 1 ≤ 2) k)
  exact (qss_cons (qs_setLc (i := 2) rfl S__law_round_walks.nd rfl rfl (sw_true rfl rfl rfl (by decide +kernel)) (own := [("k", 6)]) (t := (.nm 6)) (qi_r1 rfl e.range (qa_cons (q_len (qa_cons (qv (i := 0) n_29 rfl (.inr (.inl rfl))) qa_nil rfl) rfl rfl rfl e.len) qa_nil rfl) rfl) (by show blkC N__law_round_walks (defScope s__law_round_walks) _ _ = true; decide +kernel) (by decide) (fun _ _ _ _ _ => (pg_name (i := 6) S__law_round_walks.nd rfl (.inl rfl) (.inr rfl))) (fun _ _ _ _ _ => qts_nil) (fun _ _ _ _ _ => (qe_tup (qa_cons (qv (i := 6) n_43 rfl (.inl rfl)) qa_nil rfl))) (fun _ => rfl))
    (qss_cons (qs_for PassesOwn.never rfl (qi_r2 rfl e.range (qa_cons qe_int (qa_cons (qe_op qo_add (qv (i := 1) n_24 rfl (.inl rfl)) qe_int) qa_nil rfl) rfl) rfl rfl) (qg_name (i := 3) S__law_round_walks.nd rfl (.inl rfl) (.inl rfl)) (qss_cons (qs_for PassesOwn.never rfl (qi_any (qv (i := 2) n_25 rfl (.inl rfl))) (qg_name (i := 4) S__law_round_walks.nd rfl (.inr rfl) (.inl rfl)) (qss_one (qs_if (qt_of (q_own e.f__law_is_walk hq n_96 rfl (qa_cons (qv (i := 0) n_29 rfl (.inr (.inl rfl))) (qa_cons (qv (i := 4) n_21 rfl (.inr (.inl rfl))) qa_nil rfl) rfl) rfl rfl) (fun _ => rfl)) (qss_one (qs_ret (qv (i := 4) n_21 rfl (.inr (.inl rfl))))) qss_nil)) (fun _ => rfl))
    (qss_cons (qs_set (i := 5) S__law_round_walks.nd rfl (.inl rfl) (qe_lst qa_nil) rfl (.inl rfl))
    (qss_cons (qs_for PassesOwn.never rfl (qi_any (qv (i := 2) n_25 rfl (.inl rfl))) (qg_name (i := 4) S__law_round_walks.nd rfl (.inr rfl) (.inl rfl)) (qss_one (qs_set (i := 5) S__law_round_walks.nd rfl (.inl rfl) (qe_op qo_add (qv (i := 5) n_97 rfl (.inl rfl)) (qe_lc rfl S__law_round_walks.nd (own := [("k", 6)]) (t := (.nm 6)) (qi_r1 rfl e.range (qa_cons (q_len (qa_cons (qv (i := 0) n_29 rfl (.inr (.inl rfl))) qa_nil rfl) rfl rfl rfl e.len) qa_nil rfl) rfl) (by show blkC N__law_round_walks (defScope s__law_round_walks) _ _ = true; decide +kernel) (by decide) (fun _ _ _ _ _ => (pg_name (i := 6) S__law_round_walks.nd rfl (.inl rfl) (.inr rfl))) (fun _ _ _ _ _ => (qts_one (qt_cmp (q_eq hu) (q_ix hu (q_ix hu (qv (i := 0) n_29 rfl (.inr (.inl rfl))) (qv (i := 6) n_43 rfl (.inl rfl)) (fun _ _ => rfl)) qe_int (fun _ _ => rfl)) (q_ix hu (q_ix hu (qv (i := 0) n_29 rfl (.inr (.inl rfl))) (q_ix hu (qv (i := 4) n_21 rfl (.inr (.inl rfl))) (qe_neg qe_int) (fun _ _ => rfl)) (fun _ _ => rfl)) qe_int (fun _ _ => rfl)) (nomark _)))) (fun _ _ _ _ _ => (qe_op qo_add (qv (i := 4) n_21 rfl (.inr (.inl rfl))) (qe_tup (qa_cons (qv (i := 6) n_43 rfl (.inl rfl)) qa_nil rfl)))) (fun _ => rfl))) rfl (.inl rfl))) (fun _ => rfl))
    (qss_cons (qs_set (i := 2) S__law_round_walks.nd rfl (.inl rfl) (qv (i := 5) n_97 rfl (.inl rfl)) rfl (.inl rfl))
    (qss_one (qs_if (qt_cmp qo_gt (q_len (qa_cons (qv (i := 2) n_25 rfl (.inl rfl)) qa_nil rfl) rfl rfl rfl e.len) qe_int (nomark _)) (qss_one (qs_ret qe_non)) qss_nil)))))) (fun _ => rfl))
    (qss_one (qs_ret (qe_tup qa_nil)))))
theorem d_law (e : Own P w K mg base k a c) (hr : Room (k + 2) (A.deeper (envOfC "law" (defScope s_law) s.heap.objs.size f cdv))) : QSs (cxOf CX0 P w K mg base N_law "law" (defScope s_law) f cdv A outer s H E).nox (defBody s_law) (b_law a c) := by
  have hu := G.hu_of hr
  have hq := hr.mono (Nat.le_add_right k 2)
  have hm := hr.mono (Nat.add_le_add_left (by decide : 1 ≤ 2) k)
  exact (qss_cons (qs_set (i := 1) S_law.nd rfl (.inl rfl) (q_own e.f__law_start hq n_98 rfl (qa_cons (qv (i := 0) n_32 rfl (.inl rfl)) qa_nil rfl) rfl rfl) rfl (.inl rfl))
    (qss_cons (qs_for PassesOwn.never rfl (qi_r1 rfl e.range (qa_cons qe_int qa_nil rfl) rfl) (qg_name (i := 2) S_law.nd rfl (.inl rfl) (.inl rfl)) (qss_cons (qs_set (i := 3) S_law.nd rfl (.inl rfl) (q_ix hu (qe_lst (qa_cons (q_own e.f__law_star_table hq n_101 rfl (qa_cons (qv (i := 1) n_33 rfl (.inl rfl)) qa_nil rfl) rfl rfl) (qa_cons (q_ix hu (q_own e.f__law_planted_ring hq n_100 rfl (qa_cons (qv (i := 1) n_33 rfl (.inl rfl)) qa_nil rfl) rfl rfl) qe_int (fun _ _ => rfl)) (qa_cons (q_own e.f__law_told_table hq n_99 rfl (qa_cons (qv (i := 1) n_33 rfl (.inl rfl)) qa_nil rfl) rfl rfl) qa_nil rfl) rfl) rfl)) (qv (i := 2) n_87 rfl (.inl rfl)) (fun _ _ => rfl)) rfl (.inl rfl))
    (qss_cons (qs_set (i := 4) S_law.nd rfl (.inl rfl) (q_own e.f__law_own_edges hq n_76 rfl (qa_cons (qv (i := 3) n_10 rfl (.inl rfl)) qa_nil rfl) rfl rfl) rfl (.inl rfl))
    (qss_cons (qs_set (i := 5) S_law.nd rfl (.inl rfl) (q_own e.f__law_draw hq n_37 rfl (qa_cons (qv (i := 1) n_33 rfl (.inl rfl)) (qa_cons qe_int qa_nil rfl) rfl) rfl rfl) rfl (.inl rfl))
    (qss_cons (qs_set (i := 6) S_law.nd rfl (.inl rfl) (qe_tup qa_nil) rfl (.inl rfl))
    (qss_cons (qs_if (qt_cmp (q_ne hu) (qv (i := 4) n_29 rfl (.inl rfl)) (qe_lst qa_nil) (nomark _)) (qss_one (qs_set (i := 6) S_law.nd rfl (.inl rfl) (q_own e.f__law_round_walks hq n_102 rfl (qa_cons (qv (i := 4) n_29 rfl (.inl rfl)) (qa_cons (qv (i := 5) n_24 rfl (.inl rfl)) qa_nil rfl) rfl) rfl rfl) rfl (.inl rfl))) qss_nil)
    (qss_cons (qs_if (qt_cmp qo_isNot (qv (i := 6) n_103 rfl (.inl rfl)) qe_non (nomark _)) (qss_cons (qs_if (qt_not (qt_of (q_own e.f__law_same hq n_46 rfl (qa_cons (q_own e.f_shortest_walk hq n_104 rfl (qa_cons (qv (i := 3) n_10 rfl (.inl rfl)) (qa_cons (qv (i := 5) n_24 rfl (.inl rfl)) qa_nil rfl) rfl) rfl rfl) (qa_cons (qv (i := 6) n_103 rfl (.inl rfl)) qa_nil rfl) rfl) rfl rfl) (fun _ => rfl))) (qss_one (qs_ret qe_bl)) qss_nil)
    (qss_one (qs_if (q_w (qw_and (qt_cmp (q_ne hu) (qv (i := 6) n_103 rfl (.inl rfl)) (qe_tup qa_nil) (nomark _)) (qw_and1 (qt_cmp qo_isNot (q_own e.f_shows_walk hq n_105 rfl (qa_cons (qv (i := 3) n_10 rfl (.inl rfl)) (qa_cons (qv (i := 6) n_103 rfl (.inl rfl)) qa_nil rfl) rfl) rfl rfl) qe_bl (nomark _))))) (qss_one (qs_ret qe_bl)) qss_nil))) qss_nil)
    (qss_one (qs_if (q_w (qw_and (qt_cmp (q_eq hu) (qv (i := 2) n_87 rfl (.inl rfl)) qe_int (nomark _)) (qw_and1 (qt_not (qt_of (q_own e.f__law_same hq n_46 rfl (qa_cons (q_own e.f_shortest_walk hq n_104 rfl (qa_cons (qv (i := 3) n_10 rfl (.inl rfl)) (qa_cons qe_int qa_nil rfl) rfl) rfl rfl) (qa_cons (qe_tup qa_nil) qa_nil rfl) rfl) rfl rfl) (fun _ => rfl)))))) (qss_one (qs_ret qe_bl)) qss_nil)))))))) (fun _ => rfl))
    (qss_one (qs_ret qe_bl))))
end
def c0 : Cs := ⟨fun _ _ _ => False, fun _ _ _ => False, fun _ _ _ => False, fun _ _ _ => False, fun _ _ _ => False, fun _ _ _ => False, fun _ _ _ => False, fun _ _ _ => False, fun _ _ _ => False, fun _ _ _ => False, fun _ _ _ => False, fun _ _ _ => False, fun _ _ _ => False, fun _ _ _ => False, fun _ _ _ => False, fun _ _ _ => False, fun _ _ _ => False, fun _ _ _ => False, fun _ _ _ => False, fun _ _ _ => False, fun _ _ _ => False, fun _ _ _ => False, fun _ _ _ => False, fun _ _ _ => False, fun _ _ _ => False, fun _ _ _ => False, fun _ _ _ => False, fun _ _ _ => False, fun _ _ _ => False, fun _ _ _ => False, fun _ _ _ => False, fun _ _ _ => False, fun _ _ _ => False, fun _ _ _ => False, fun _ _ _ => False, fun _ _ _ => False, fun _ _ _ => False, fun _ _ _ => False, fun _ _ _ => False, fun _ _ _ => False, fun _ _ _ => False, fun _ _ _ => False, fun _ _ _ => False, fun _ _ _ => False, fun _ _ _ => False, fun _ _ _ => False, fun _ _ _ => False⟩
def cS (a : Cl) (c : Cs) : Cs := ⟨zFn 3 1 (b_references_in a c),
  zFn 1 1 (b_is_integer a c),
  zFn 1 1 (b_is_count a c),
  zFn 4 2 (b_shifted a c),
  zFn 2 1 (b_rule_names a c),
  zFn 9 1 (b_edges_of a c),
  zFn 3 3 (b_Walks_init a c),
  zFn 9 1 (b_Walks_longer a c),
  zFn 2 1 (b_Walks_step a c),
  zFn 6 3 (b_shortest_from a c),
  zFn 1 1 (b_walk_order a c),
  zFn 5 2 (b_shortest_walk a c),
  zFn 7 3 (b_sums_along a c),
  zFn 6 2 (b_shows_walk a c),
  zFn 1 1 (b__law_start a c),
  zFn 5 2 (b__law_draw a c),
  zFn 2 2 (b__law_one_of a c),
  zFn 4 2 (b__law_shuffled a c),
  zFn 7 2 (b__law_words a c),
  zFn 1 1 (b__law_is_int a c),
  zFn 3 2 (b__law_same a c),
  zFn 4 3 (b__law_offsets a c),
  zFn 7 3 (b__law_some_part a c),
  zFn 5 2 (b__law_leaf a c),
  zFn 6 4 (b__law_slope a c),
  zFn 1 1 (b__law_rim a c),
  zFn 5 2 (b__law_given_row a c),
  zFn 6 4 (b__law_table_world a c),
  zFn 5 3 (b__law_with_row a c),
  zFn 6 3 (b__law_rules_of a c),
  zFn 3 1 (b__law_refs a c),
  zFn 3 2 (b__law_at_offsets a c),
  zFn 13 1 (b__law_ring_table a c),
  zFn 10 1 (b__law_own_edges a c),
  zFn 8 1 (b__law_planted_ring a c),
  zFn 15 1 (b__law_star_table a c),
  zFn 5 2 (b__law_is_walk a c),
  zFn 6 3 (b__law_cell_at a c),
  zFn 10 6 (b__law_gadget a c),
  zFn 6 2 (b__law_rules_by a c),
  zFn 8 1 (b__law_levelled a c),
  zFn 3 1 (b__law_told_table a c),
  zFn 3 1 (b__law_numbers_in a c),
  zFn 6 2 (b__law_token_count a c),
  zFn 4 2 (b__law_can_be_read a c),
  zFn 7 2 (b__law_round_walks a c),
  zFn 7 1 (b_law a c)⟩
def wC (a : Cl) : Nat → Cs
  | 0 => c0
  | k + 1 => cS a (wC a k)
/-- what the head tells -/
structure Bs (K : PySem.W.Frag) (mg : Str → Option Value) (a : Cl) : Prop where
  len : mg "len" = none
  abs : mg "abs" = none
  sum : mg "sum" = none
  all : mg "all" = none
  any : mg "any" = none
  sorted : mg "sorted" = none
  int : mg "int" = none
  tuple : mg "tuple" = none
  list : mg "list" = none
  range : mg "range" = none
  isinstance : mg "isinstance" = none
  str : mg "str" = none
  bool : mg "bool" = none
  enumerate : mg "enumerate" = none
  zip : mg "zip" = none
  c_Walks : Cls K a.Walks
  n_Walks_edges : NoAttr K a.Walks "edges"
  n_Walks_origin : NoAttr K a.Walks "origin"
  n_Walks_here : NoAttr K a.Walks "here"
  n_Walks_seen : NoAttr K a.Walks "seen"
  f_references_in : FB K mg "references_in" s_references_in ["expression"]
  f_is_integer : FB K mg "is_integer" s_is_integer ["datum"]
  f_is_count : FB K mg "is_count" s_is_count ["datum"]
  f_shifted : FB K mg "shifted" s_shifted ["place", "offsets"]
  f_rule_names : FB K mg "rule_names" s_rule_names ["table"]
  f_edges_of : FB K mg "edges_of" s_edges_of ["table"]
  f_Walks_init : FI K mg "Walks" a.Walks "Walks.__init__" s_Walks_init ["self", "table", "name"]
  f_Walks_longer : FM K a.Walks "longer" "Walks.longer" s_Walks_longer ["self"]
  f_Walks_step : FM K a.Walks "step" "Walks.step" s_Walks_step ["self"]
  f_shortest_from : FB K mg "shortest_from" s_shortest_from ["table", "name", "most"]
  f_walk_order : FB K mg "walk_order" s_walk_order ["walk"]
  f_shortest_walk : FB K mg "shortest_walk" s_shortest_walk ["table", "most"]
  f_sums_along : FB K mg "sums_along" s_sums_along ["table", "edges", "walk"]
  f_shows_walk : FB K mg "shows_walk" s_shows_walk ["table", "datum"]
  f__law_start : FB K mg "_law_start" s__law_start ["script"]
  f__law_draw : FB K mg "_law_draw" s__law_draw ["state", "most"]
  f__law_one_of : FB K mg "_law_one_of" s__law_one_of ["state", "items"]
  f__law_shuffled : FB K mg "_law_shuffled" s__law_shuffled ["state", "items"]
  f__law_words : FB K mg "_law_words" s__law_words ["state", "many"]
  f__law_is_int : FB K mg "_law_is_int" s__law_is_int ["x"]
  f__law_same : FB K mg "_law_same" s__law_same ["x", "y"]
  f__law_offsets : FB K mg "_law_offsets" s__law_offsets ["state", "many", "most"]
  f__law_some_part : FB K mg "_law_some_part" s__law_some_part ["state", "w", "depth"]
  f__law_leaf : FB K mg "_law_leaf" s__law_leaf ["state", "w"]
  f__law_slope : FB K mg "_law_slope" s__law_slope ["w", "name", "other", "offsets"]
  f__law_rim : FB K mg "_law_rim" s__law_rim ["state"]
  f__law_given_row : FB K mg "_law_given_row" s__law_given_row ["state", "name"]
  f__law_table_world : FB K mg "_law_table_world" s__law_table_world ["state", "many", "rules", "givens"]
  f__law_with_row : FB K mg "_law_with_row" s__law_with_row ["state", "w", "least"]
  f__law_rules_of : FB K mg "_law_rules_of" s__law_rules_of ["state", "w", "depth"]
  f__law_refs : FB K mg "_law_refs" s__law_refs ["e"]
  f__law_at_offsets : FB K mg "_law_at_offsets" s__law_at_offsets ["place", "offsets"]
  f__law_ring_table : FB K mg "_law_ring_table" s__law_ring_table ["state"]
  f__law_own_edges : FB K mg "_law_own_edges" s__law_own_edges ["table"]
  f__law_planted_ring : FB K mg "_law_planted_ring" s__law_planted_ring ["state"]
  f__law_star_table : FB K mg "_law_star_table" s__law_star_table ["state"]
  f__law_is_walk : FB K mg "_law_is_walk" s__law_is_walk ["edges", "datum"]
  f__law_cell_at : FB K mg "_law_cell_at" s__law_cell_at ["name", "many", "steps"]
  f__law_gadget : FB K mg "_law_gadget" s__law_gadget ["state", "names", "many", "across", "along", "sign"]
  f__law_rules_by : FB K mg "_law_rules_by" s__law_rules_by ["state", "rows"]
  f__law_levelled : FB K mg "_law_levelled" s__law_levelled ["state"]
  f__law_told_table : FB K mg "_law_told_table" s__law_told_table ["state"]
  f__law_numbers_in : FB K mg "_law_numbers_in" s__law_numbers_in ["e"]
  f__law_token_count : FB K mg "_law_token_count" s__law_token_count ["over", "e"]
  f__law_can_be_read : FB K mg "_law_can_be_read" s__law_can_be_read ["over", "row"]
  f__law_round_walks : FB K mg "_law_round_walks" s__law_round_walks ["edges", "most"]
  f_law : FB K mg "law" s_law ["script"]
theorem own {P : Program} {w : World} {K : PySem.W.Frag} {mg : Str → Option Value} {base : Heap} {a : Cl} (b : Bs K mg a) : ∀ k, Own P w K mg base (3 * k) a (wC a k)
  | 0 => {
    len := b.len,
    abs := b.abs,
    sum := b.sum,
    all := b.all,
    any := b.any,
    sorted := b.sorted,
    int := b.int,
    tuple := b.tuple,
    list := b.list,
    range := b.range,
    isinstance := b.isinstance,
    str := b.str,
    bool := b.bool,
    enumerate := b.enumerate,
    zip := b.zip,
    c_Walks := b.c_Walks,
    n_Walks_edges := b.n_Walks_edges,
    n_Walks_origin := b.n_Walks_origin,
    n_Walks_here := b.n_Walks_here,
    n_Walks_seen := b.n_Walks_seen,
    f_references_in := qfd0 b.f_references_in,
    f_is_integer := qfd0 b.f_is_integer,
    f_is_count := qfd0 b.f_is_count,
    f_shifted := qfd0 b.f_shifted,
    f_rule_names := qfd0 b.f_rule_names,
    f_edges_of := qfd0 b.f_edges_of,
    f_Walks_init := qfi0 b.f_Walks_init,
    f_Walks_longer := qfm0 b.f_Walks_longer,
    f_Walks_step := qfm0 b.f_Walks_step,
    f_shortest_from := qfd0 b.f_shortest_from,
    f_walk_order := qfd0 b.f_walk_order,
    f_shortest_walk := qfd0 b.f_shortest_walk,
    f_sums_along := qfd0 b.f_sums_along,
    f_shows_walk := qfd0 b.f_shows_walk,
    f__law_start := qfd0 b.f__law_start,
    f__law_draw := qfd0 b.f__law_draw,
    f__law_one_of := qfd0 b.f__law_one_of,
    f__law_shuffled := qfd0 b.f__law_shuffled,
    f__law_words := qfd0 b.f__law_words,
    f__law_is_int := qfd0 b.f__law_is_int,
    f__law_same := qfd0 b.f__law_same,
    f__law_offsets := qfd0 b.f__law_offsets,
    f__law_some_part := qfd0 b.f__law_some_part,
    f__law_leaf := qfd0 b.f__law_leaf,
    f__law_slope := qfd0 b.f__law_slope,
    f__law_rim := qfd0 b.f__law_rim,
    f__law_given_row := qfd0 b.f__law_given_row,
    f__law_table_world := qfd0 b.f__law_table_world,
    f__law_with_row := qfd0 b.f__law_with_row,
    f__law_rules_of := qfd0 b.f__law_rules_of,
    f__law_refs := qfd0 b.f__law_refs,
    f__law_at_offsets := qfd0 b.f__law_at_offsets,
    f__law_ring_table := qfd0 b.f__law_ring_table,
    f__law_own_edges := qfd0 b.f__law_own_edges,
    f__law_planted_ring := qfd0 b.f__law_planted_ring,
    f__law_star_table := qfd0 b.f__law_star_table,
    f__law_is_walk := qfd0 b.f__law_is_walk,
    f__law_cell_at := qfd0 b.f__law_cell_at,
    f__law_gadget := qfd0 b.f__law_gadget,
    f__law_rules_by := qfd0 b.f__law_rules_by,
    f__law_levelled := qfd0 b.f__law_levelled,
    f__law_told_table := qfd0 b.f__law_told_table,
    f__law_numbers_in := qfd0 b.f__law_numbers_in,
    f__law_token_count := qfd0 b.f__law_token_count,
    f__law_can_be_read := qfd0 b.f__law_can_be_read,
    f__law_round_walks := qfd0 b.f__law_round_walks,
    f_law := qfd0 b.f_law }
  | k + 1 =>
    have ih := own b k
    {
    len := b.len,
    abs := b.abs,
    sum := b.sum,
    all := b.all,
    any := b.any,
    sorted := b.sorted,
    int := b.int,
    tuple := b.tuple,
    list := b.list,
    range := b.range,
    isinstance := b.isinstance,
    str := b.str,
    bool := b.bool,
    enumerate := b.enumerate,
    zip := b.zip,
    c_Walks := b.c_Walks,
    n_Walks_edges := b.n_Walks_edges,
    n_Walks_origin := b.n_Walks_origin,
    n_Walks_here := b.n_Walks_here,
    n_Walks_seen := b.n_Walks_seen,
    f_references_in := qfd b.f_references_in S_references_in rfl rfl fun f cdv A outer s H E hr => d_references_in ih hr,
    f_is_integer := qfd b.f_is_integer S_is_integer rfl rfl fun f cdv A outer s H E hr => d_is_integer ih hr,
    f_is_count := qfd b.f_is_count S_is_count rfl rfl fun f cdv A outer s H E hr => d_is_count ih hr,
    f_shifted := qfd b.f_shifted S_shifted rfl rfl fun f cdv A outer s H E hr => d_shifted ih hr,
    f_rule_names := qfd b.f_rule_names S_rule_names rfl rfl fun f cdv A outer s H E hr => d_rule_names ih hr,
    f_edges_of := qfd b.f_edges_of S_edges_of rfl rfl fun f cdv A outer s H E hr => d_edges_of ih hr,
    f_Walks_init := qfi b.f_Walks_init S_Walks_init rfl rfl fun f cdv A outer s H E hr => d_Walks_init ih hr,
    f_Walks_longer := qfm b.f_Walks_longer S_Walks_longer rfl rfl fun f cdv A outer s H E hr => d_Walks_longer ih hr,
    f_Walks_step := qfm b.f_Walks_step S_Walks_step rfl rfl fun f cdv A outer s H E hr => d_Walks_step ih hr,
    f_shortest_from := qfd b.f_shortest_from S_shortest_from rfl rfl fun f cdv A outer s H E hr => d_shortest_from ih hr,
    f_walk_order := qfd b.f_walk_order S_walk_order rfl rfl fun f cdv A outer s H E hr => d_walk_order ih hr,
    f_shortest_walk := qfd b.f_shortest_walk S_shortest_walk rfl rfl fun f cdv A outer s H E hr => d_shortest_walk ih hr,
    f_sums_along := qfd b.f_sums_along S_sums_along rfl rfl fun f cdv A outer s H E hr => d_sums_along ih hr,
    f_shows_walk := qfd b.f_shows_walk S_shows_walk rfl rfl fun f cdv A outer s H E hr => d_shows_walk ih hr,
    f__law_start := qfd b.f__law_start S__law_start rfl rfl fun f cdv A outer s H E hr => d__law_start ih hr,
    f__law_draw := qfd b.f__law_draw S__law_draw rfl rfl fun f cdv A outer s H E hr => d__law_draw ih hr,
    f__law_one_of := qfd b.f__law_one_of S__law_one_of rfl rfl fun f cdv A outer s H E hr => d__law_one_of ih hr,
    f__law_shuffled := qfd b.f__law_shuffled S__law_shuffled rfl rfl fun f cdv A outer s H E hr => d__law_shuffled ih hr,
    f__law_words := qfd b.f__law_words S__law_words rfl rfl fun f cdv A outer s H E hr => d__law_words ih hr,
    f__law_is_int := qfd b.f__law_is_int S__law_is_int rfl rfl fun f cdv A outer s H E hr => d__law_is_int ih hr,
    f__law_same := qfd b.f__law_same S__law_same rfl rfl fun f cdv A outer s H E hr => d__law_same ih hr,
    f__law_offsets := qfd b.f__law_offsets S__law_offsets rfl rfl fun f cdv A outer s H E hr => d__law_offsets ih hr,
    f__law_some_part := qfd b.f__law_some_part S__law_some_part rfl rfl fun f cdv A outer s H E hr => d__law_some_part ih hr,
    f__law_leaf := qfd b.f__law_leaf S__law_leaf rfl rfl fun f cdv A outer s H E hr => d__law_leaf ih hr,
    f__law_slope := qfd b.f__law_slope S__law_slope rfl rfl fun f cdv A outer s H E hr => d__law_slope ih hr,
    f__law_rim := qfd b.f__law_rim S__law_rim rfl rfl fun f cdv A outer s H E hr => d__law_rim ih hr,
    f__law_given_row := qfd b.f__law_given_row S__law_given_row rfl rfl fun f cdv A outer s H E hr => d__law_given_row ih hr,
    f__law_table_world := qfd b.f__law_table_world S__law_table_world rfl rfl fun f cdv A outer s H E hr => d__law_table_world ih hr,
    f__law_with_row := qfd b.f__law_with_row S__law_with_row rfl rfl fun f cdv A outer s H E hr => d__law_with_row ih hr,
    f__law_rules_of := qfd b.f__law_rules_of S__law_rules_of rfl rfl fun f cdv A outer s H E hr => d__law_rules_of ih hr,
    f__law_refs := qfd b.f__law_refs S__law_refs rfl rfl fun f cdv A outer s H E hr => d__law_refs ih hr,
    f__law_at_offsets := qfd b.f__law_at_offsets S__law_at_offsets rfl rfl fun f cdv A outer s H E hr => d__law_at_offsets ih hr,
    f__law_ring_table := qfd b.f__law_ring_table S__law_ring_table rfl rfl fun f cdv A outer s H E hr => d__law_ring_table ih hr,
    f__law_own_edges := qfd b.f__law_own_edges S__law_own_edges rfl rfl fun f cdv A outer s H E hr => d__law_own_edges ih hr,
    f__law_planted_ring := qfd b.f__law_planted_ring S__law_planted_ring rfl rfl fun f cdv A outer s H E hr => d__law_planted_ring ih hr,
    f__law_star_table := qfd b.f__law_star_table S__law_star_table rfl rfl fun f cdv A outer s H E hr => d__law_star_table ih hr,
    f__law_is_walk := qfd b.f__law_is_walk S__law_is_walk rfl rfl fun f cdv A outer s H E hr => d__law_is_walk ih hr,
    f__law_cell_at := qfd b.f__law_cell_at S__law_cell_at rfl rfl fun f cdv A outer s H E hr => d__law_cell_at ih hr,
    f__law_gadget := qfd b.f__law_gadget S__law_gadget rfl rfl fun f cdv A outer s H E hr => d__law_gadget ih hr,
    f__law_rules_by := qfd b.f__law_rules_by S__law_rules_by rfl rfl fun f cdv A outer s H E hr => d__law_rules_by ih hr,
    f__law_levelled := qfd b.f__law_levelled S__law_levelled rfl rfl fun f cdv A outer s H E hr => d__law_levelled ih hr,
    f__law_told_table := qfd b.f__law_told_table S__law_told_table rfl rfl fun f cdv A outer s H E hr => d__law_told_table ih hr,
    f__law_numbers_in := qfd b.f__law_numbers_in S__law_numbers_in rfl rfl fun f cdv A outer s H E hr => d__law_numbers_in ih hr,
    f__law_token_count := qfd b.f__law_token_count S__law_token_count rfl rfl fun f cdv A outer s H E hr => d__law_token_count ih hr,
    f__law_can_be_read := qfd b.f__law_can_be_read S__law_can_be_read rfl rfl fun f cdv A outer s H E hr => d__law_can_be_read ih hr,
    f__law_round_walks := qfd b.f__law_round_walks S__law_round_walks rfl rfl fun f cdv A outer s H E hr => d__law_round_walks ih hr,
    f_law := qfd b.f_law S_law rfl rfl fun f cdv A outer s H E hr => d_law ih hr }
/-! ### the head -/
def fn0 : List He.DefD := [⟨("references_in", none), "references_in", "references_in", defArgs s_references_in, defBody s_references_in, defScope s_references_in, [], []⟩,
  ⟨("is_integer", none), "is_integer", "is_integer", defArgs s_is_integer, defBody s_is_integer, defScope s_is_integer, [], []⟩,
  ⟨("is_count", none), "is_count", "is_count", defArgs s_is_count, defBody s_is_count, defScope s_is_count, [], []⟩,
  ⟨("shifted", none), "shifted", "shifted", defArgs s_shifted, defBody s_shifted, defScope s_shifted, [], []⟩,
  ⟨("rule_names", none), "rule_names", "rule_names", defArgs s_rule_names, defBody s_rule_names, defScope s_rule_names, [], []⟩,
  ⟨("edges_of", none), "edges_of", "edges_of", defArgs s_edges_of, defBody s_edges_of, defScope s_edges_of, [], []⟩,
  ⟨("Walks", some "__init__"), "__init__", "Walks.__init__", defArgs s_Walks_init, defBody s_Walks_init, defScope s_Walks_init, [], []⟩,
  ⟨("Walks", some "longer"), "longer", "Walks.longer", defArgs s_Walks_longer, defBody s_Walks_longer, defScope s_Walks_longer, [], []⟩,
  ⟨("Walks", some "step"), "step", "Walks.step", defArgs s_Walks_step, defBody s_Walks_step, defScope s_Walks_step, [], []⟩,
  ⟨("shortest_from", none), "shortest_from", "shortest_from", defArgs s_shortest_from, defBody s_shortest_from, defScope s_shortest_from, [], []⟩,
  ⟨("walk_order", none), "walk_order", "walk_order", defArgs s_walk_order, defBody s_walk_order, defScope s_walk_order, [], []⟩,
  ⟨("shortest_walk", none), "shortest_walk", "shortest_walk", defArgs s_shortest_walk, defBody s_shortest_walk, defScope s_shortest_walk, [], []⟩,
  ⟨("sums_along", none), "sums_along", "sums_along", defArgs s_sums_along, defBody s_sums_along, defScope s_sums_along, [], []⟩,
  ⟨("shows_walk", none), "shows_walk", "shows_walk", defArgs s_shows_walk, defBody s_shows_walk, defScope s_shows_walk, [], []⟩,
  ⟨("_law_start", none), "_law_start", "_law_start", defArgs s__law_start, defBody s__law_start, defScope s__law_start, [], []⟩,
  ⟨("_law_draw", none), "_law_draw", "_law_draw", defArgs s__law_draw, defBody s__law_draw, defScope s__law_draw, [], []⟩,
  ⟨("_law_one_of", none), "_law_one_of", "_law_one_of", defArgs s__law_one_of, defBody s__law_one_of, defScope s__law_one_of, [], []⟩,
  ⟨("_law_shuffled", none), "_law_shuffled", "_law_shuffled", defArgs s__law_shuffled, defBody s__law_shuffled, defScope s__law_shuffled, [], []⟩,
  ⟨("_law_words", none), "_law_words", "_law_words", defArgs s__law_words, defBody s__law_words, defScope s__law_words, [], []⟩,
  ⟨("_law_is_int", none), "_law_is_int", "_law_is_int", defArgs s__law_is_int, defBody s__law_is_int, defScope s__law_is_int, [], []⟩,
  ⟨("_law_same", none), "_law_same", "_law_same", defArgs s__law_same, defBody s__law_same, defScope s__law_same, [], []⟩,
  ⟨("_law_offsets", none), "_law_offsets", "_law_offsets", defArgs s__law_offsets, defBody s__law_offsets, defScope s__law_offsets, [], []⟩,
  ⟨("_law_some_part", none), "_law_some_part", "_law_some_part", defArgs s__law_some_part, defBody s__law_some_part, defScope s__law_some_part, [], []⟩,
  ⟨("_law_leaf", none), "_law_leaf", "_law_leaf", defArgs s__law_leaf, defBody s__law_leaf, defScope s__law_leaf, [], []⟩,
  ⟨("_law_slope", none), "_law_slope", "_law_slope", defArgs s__law_slope, defBody s__law_slope, defScope s__law_slope, [], []⟩,
  ⟨("_law_rim", none), "_law_rim", "_law_rim", defArgs s__law_rim, defBody s__law_rim, defScope s__law_rim, [], []⟩,
  ⟨("_law_given_row", none), "_law_given_row", "_law_given_row", defArgs s__law_given_row, defBody s__law_given_row, defScope s__law_given_row, [], []⟩,
  ⟨("_law_table_world", none), "_law_table_world", "_law_table_world", defArgs s__law_table_world, defBody s__law_table_world, defScope s__law_table_world, [], []⟩,
  ⟨("_law_with_row", none), "_law_with_row", "_law_with_row", defArgs s__law_with_row, defBody s__law_with_row, defScope s__law_with_row, [], []⟩,
  ⟨("_law_rules_of", none), "_law_rules_of", "_law_rules_of", defArgs s__law_rules_of, defBody s__law_rules_of, defScope s__law_rules_of, [], []⟩]
def fn1 : List He.DefD := [⟨("_law_refs", none), "_law_refs", "_law_refs", defArgs s__law_refs, defBody s__law_refs, defScope s__law_refs, [], []⟩,
  ⟨("_law_at_offsets", none), "_law_at_offsets", "_law_at_offsets", defArgs s__law_at_offsets, defBody s__law_at_offsets, defScope s__law_at_offsets, [], []⟩,
  ⟨("_law_ring_table", none), "_law_ring_table", "_law_ring_table", defArgs s__law_ring_table, defBody s__law_ring_table, defScope s__law_ring_table, [], []⟩,
  ⟨("_law_own_edges", none), "_law_own_edges", "_law_own_edges", defArgs s__law_own_edges, defBody s__law_own_edges, defScope s__law_own_edges, [], []⟩,
  ⟨("_law_planted_ring", none), "_law_planted_ring", "_law_planted_ring", defArgs s__law_planted_ring, defBody s__law_planted_ring, defScope s__law_planted_ring, [], []⟩,
  ⟨("_law_star_table", none), "_law_star_table", "_law_star_table", defArgs s__law_star_table, defBody s__law_star_table, defScope s__law_star_table, [], []⟩,
  ⟨("_law_is_walk", none), "_law_is_walk", "_law_is_walk", defArgs s__law_is_walk, defBody s__law_is_walk, defScope s__law_is_walk, [], []⟩,
  ⟨("_law_cell_at", none), "_law_cell_at", "_law_cell_at", defArgs s__law_cell_at, defBody s__law_cell_at, defScope s__law_cell_at, [], []⟩,
  ⟨("_law_gadget", none), "_law_gadget", "_law_gadget", defArgs s__law_gadget, defBody s__law_gadget, defScope s__law_gadget, [], []⟩,
  ⟨("_law_rules_by", none), "_law_rules_by", "_law_rules_by", defArgs s__law_rules_by, defBody s__law_rules_by, defScope s__law_rules_by, [], []⟩,
  ⟨("_law_levelled", none), "_law_levelled", "_law_levelled", defArgs s__law_levelled, defBody s__law_levelled, defScope s__law_levelled, [], []⟩,
  ⟨("_law_told_table", none), "_law_told_table", "_law_told_table", defArgs s__law_told_table, defBody s__law_told_table, defScope s__law_told_table, [], []⟩,
  ⟨("_law_numbers_in", none), "_law_numbers_in", "_law_numbers_in", defArgs s__law_numbers_in, defBody s__law_numbers_in, defScope s__law_numbers_in, [], []⟩,
  ⟨("_law_token_count", none), "_law_token_count", "_law_token_count", defArgs s__law_token_count, defBody s__law_token_count, defScope s__law_token_count, [], []⟩,
  ⟨("_law_can_be_read", none), "_law_can_be_read", "_law_can_be_read", defArgs s__law_can_be_read, defBody s__law_can_be_read, defScope s__law_can_be_read, [], []⟩,
  ⟨("_law_round_walks", none), "_law_round_walks", "_law_round_walks", defArgs s__law_round_walks, defBody s__law_round_walks, defScope s__law_round_walks, [], []⟩,
  ⟨("law", none), "law", "law", defArgs s_law, defBody s_law, defScope s_law, [], []⟩]
def fn : List He.DefD := fn0 ++ fn1
def fa0 : List He.Fa := [.glo "references_in",
  .glo "is_integer",
  .glo "is_count",
  .glo "shifted",
  .glo "rule_names",
  .glo "edges_of",
  .mkr "Walks",
  .meth "Walks" "longer",
  .meth "Walks" "step",
  .glo "shortest_from",
  .glo "walk_order",
  .glo "shortest_walk",
  .glo "sums_along",
  .glo "shows_walk",
  .glo "_law_start",
  .glo "_law_draw",
  .glo "_law_one_of",
  .glo "_law_shuffled",
  .glo "_law_words",
  .glo "_law_is_int",
  .glo "_law_same",
  .glo "_law_offsets",
  .glo "_law_some_part",
  .glo "_law_leaf",
  .glo "_law_slope",
  .glo "_law_rim",
  .glo "_law_given_row",
  .glo "_law_table_world",
  .glo "_law_with_row",
  .glo "_law_rules_of"]
def fa1 : List He.Fa := [.glo "_law_refs",
  .glo "_law_at_offsets",
  .glo "_law_ring_table",
  .glo "_law_own_edges",
  .glo "_law_planted_ring",
  .glo "_law_star_table",
  .glo "_law_is_walk",
  .glo "_law_cell_at",
  .glo "_law_gadget",
  .glo "_law_rules_by",
  .glo "_law_levelled",
  .glo "_law_told_table",
  .glo "_law_numbers_in",
  .glo "_law_token_count",
  .glo "_law_can_be_read",
  .glo "_law_round_walks",
  .glo "law",
  .free "len",
  .free "abs",
  .free "sum",
  .free "all",
  .free "any",
  .free "sorted",
  .free "int",
  .free "tuple",
  .free "list",
  .free "range",
  .free "isinstance",
  .free "str",
  .free "bool"]
def fa2 : List He.Fa := [.free "enumerate",
  .free "zip",
  .cls "Walks",
  .glo "Walks",
  .noat "Walks" "edges",
  .noat "Walks" "origin",
  .noat "Walks" "here",
  .noat "Walks" "seen"]
def fa : List He.Fa := fa0 ++ fa1 ++ fa2
def ex (K : PySem.W.Frag) : Bool := true
def loose0 : List PySem.Str := ["references_in",
  "is_integer",
  "is_count",
  "shifted",
  "rule_names",
  "edges_of",
  "shortest_from",
  "walk_order",
  "shortest_walk",
  "sums_along",
  "shows_walk",
  "_law_start",
  "_law_draw",
  "_law_one_of",
  "_law_shuffled",
  "_law_words",
  "_law_is_int",
  "_law_same",
  "_law_offsets",
  "_law_some_part",
  "_law_leaf",
  "_law_slope",
  "_law_rim",
  "_law_given_row",
  "_law_table_world",
  "_law_with_row",
  "_law_rules_of",
  "_law_refs",
  "_law_at_offsets",
  "_law_ring_table"]
def loose1 : List PySem.Str := ["_law_own_edges",
  "_law_planted_ring",
  "_law_star_table",
  "_law_is_walk",
  "_law_cell_at",
  "_law_gadget",
  "_law_rules_by",
  "_law_levelled",
  "_law_told_table",
  "_law_numbers_in",
  "_law_token_count",
  "_law_can_be_read",
  "_law_round_walks",
  "Walks"]
def loose : List PySem.Str := loose0 ++ loose1
abbrev R : PySem.W.OpenRow := PySem.W.OpenLaw.row PySem.Challenge.rw_toldinwaves_k81_shortest_walks
abbrev hk : PySem.W.Hook := He.hookX 4 fa fn [] [] ex
def ob (s : PySem.W.SharedT) : He.AlX := He.obsX 4 fa fn [] [] ex (HandSHeadRun.getT s)
theorem ob_eq (s : PySem.W.SharedT) : ob s = hk.obs s.abs := He.obsX_eq (HandSHeadRun.getT_eq s)
set_option maxHeartbeats 0 in
theorem hrun (w : World) : HandSHeadRun.RunEq R (PySem.W.view R.prog [51]) hk ob 4000 loose w := by
  intro os
  kernel_rfl
theorem facts {w : World} {K : PySem.W.Frag} {h : Heap} {mg : Str → Option Value} (X : K.In h) (G : h.Ns mainGlobals mg) (c : He.SaysX fa fn [] [] ex w h K) : Bs K mg ⟨He.ga K "Walks"⟩ := by
  exact {
    len := He.free_ok X G (c.t.d.fact 47 (f := .free "len") rfl),
    abs := He.free_ok X G (c.t.d.fact 48 (f := .free "abs") rfl),
    sum := He.free_ok X G (c.t.d.fact 49 (f := .free "sum") rfl),
    all := He.free_ok X G (c.t.d.fact 50 (f := .free "all") rfl),
    any := He.free_ok X G (c.t.d.fact 51 (f := .free "any") rfl),
    sorted := He.free_ok X G (c.t.d.fact 52 (f := .free "sorted") rfl),
    int := He.free_ok X G (c.t.d.fact 53 (f := .free "int") rfl),
    tuple := He.free_ok X G (c.t.d.fact 54 (f := .free "tuple") rfl),
    list := He.free_ok X G (c.t.d.fact 55 (f := .free "list") rfl),
    range := He.free_ok X G (c.t.d.fact 56 (f := .free "range") rfl),
    isinstance := He.free_ok X G (c.t.d.fact 57 (f := .free "isinstance") rfl),
    str := He.free_ok X G (c.t.d.fact 58 (f := .free "str") rfl),
    bool := He.free_ok X G (c.t.d.fact 59 (f := .free "bool") rfl),
    enumerate := He.free_ok X G (c.t.d.fact 60 (f := .free "enumerate") rfl),
    zip := He.free_ok X G (c.t.d.fact 61 (f := .free "zip") rfl),
    c_Walks := He.cls_ok (c.t.d.fact 62 (f := .cls "Walks") rfl),
    n_Walks_edges := He.noat_ok (c.t.d.fact 64 (f := .noat "Walks" "edges") rfl),
    n_Walks_origin := He.noat_ok (c.t.d.fact 65 (f := .noat "Walks" "origin") rfl),
    n_Walks_here := He.noat_ok (c.t.d.fact 66 (f := .noat "Walks" "here") rfl),
    n_Walks_seen := He.noat_ok (c.t.d.fact 67 (f := .noat "Walks" "seen") rfl),
    f_references_in := by
      obtain ⟨fd, F⟩ := c.t.d.def_ 0 (d := ⟨("references_in", none), "references_in", "references_in", defArgs s_references_in, defBody s_references_in, defScope s_references_in, [], []⟩) rfl
      exact ⟨_, fd, F, He.glo_ok X G (c.t.d.fact 0 (f := .glo "references_in") rfl), FunD.bindsA (ps := ["expression"]) F fun _ _ _ _ _ _ us hl => match us, hl with | [_], _ => rfl⟩,
    f_is_integer := by
      obtain ⟨fd, F⟩ := c.t.d.def_ 1 (d := ⟨("is_integer", none), "is_integer", "is_integer", defArgs s_is_integer, defBody s_is_integer, defScope s_is_integer, [], []⟩) rfl
      exact ⟨_, fd, F, He.glo_ok X G (c.t.d.fact 1 (f := .glo "is_integer") rfl), FunD.bindsA (ps := ["datum"]) F fun _ _ _ _ _ _ us hl => match us, hl with | [_], _ => rfl⟩,
    f_is_count := by
      obtain ⟨fd, F⟩ := c.t.d.def_ 2 (d := ⟨("is_count", none), "is_count", "is_count", defArgs s_is_count, defBody s_is_count, defScope s_is_count, [], []⟩) rfl
      exact ⟨_, fd, F, He.glo_ok X G (c.t.d.fact 2 (f := .glo "is_count") rfl), FunD.bindsA (ps := ["datum"]) F fun _ _ _ _ _ _ us hl => match us, hl with | [_], _ => rfl⟩,
    f_shifted := by
      obtain ⟨fd, F⟩ := c.t.d.def_ 3 (d := ⟨("shifted", none), "shifted", "shifted", defArgs s_shifted, defBody s_shifted, defScope s_shifted, [], []⟩) rfl
      exact ⟨_, fd, F, He.glo_ok X G (c.t.d.fact 3 (f := .glo "shifted") rfl), FunD.bindsA (ps := ["place", "offsets"]) F fun _ _ _ _ _ _ us hl => match us, hl with | [_, _], _ => rfl⟩,
    f_rule_names := by
      obtain ⟨fd, F⟩ := c.t.d.def_ 4 (d := ⟨("rule_names", none), "rule_names", "rule_names", defArgs s_rule_names, defBody s_rule_names, defScope s_rule_names, [], []⟩) rfl
      exact ⟨_, fd, F, He.glo_ok X G (c.t.d.fact 4 (f := .glo "rule_names") rfl), FunD.bindsA (ps := ["table"]) F fun _ _ _ _ _ _ us hl => match us, hl with | [_], _ => rfl⟩,
    f_edges_of := by
      obtain ⟨fd, F⟩ := c.t.d.def_ 5 (d := ⟨("edges_of", none), "edges_of", "edges_of", defArgs s_edges_of, defBody s_edges_of, defScope s_edges_of, [], []⟩) rfl
      exact ⟨_, fd, F, He.glo_ok X G (c.t.d.fact 5 (f := .glo "edges_of") rfl), FunD.bindsA (ps := ["table"]) F fun _ _ _ _ _ _ us hl => match us, hl with | [_], _ => rfl⟩,
    f_Walks_init := by
      obtain ⟨fd, F⟩ := c.t.d.def_ 6 (d := ⟨("Walks", some "__init__"), "__init__", "Walks.__init__", defArgs s_Walks_init, defBody s_Walks_init, defScope s_Walks_init, [], []⟩) rfl
      exact ⟨fd, F, He.mkr_ok (c.t.d.fact 6 (f := .mkr "Walks") rfl), He.glo_ok X G (c.t.d.fact 63 (f := .glo "Walks") rfl), FunD.bindsA (ps := ["self", "table", "name"]) F fun _ _ _ _ _ _ us hl => match us, hl with | [_, _, _], _ => rfl⟩,
    f_Walks_longer := by
      obtain ⟨fd, F⟩ := c.t.d.def_ 7 (d := ⟨("Walks", some "longer"), "longer", "Walks.longer", defArgs s_Walks_longer, defBody s_Walks_longer, defScope s_Walks_longer, [], []⟩) rfl
      exact ⟨fd, F, He.meth_ok (c.t.d.fact 7 (f := .meth "Walks" "longer") rfl), FunD.bindsA (ps := ["self"]) F fun _ _ _ _ _ _ us hl => match us, hl with | [_], _ => rfl⟩,
    f_Walks_step := by
      obtain ⟨fd, F⟩ := c.t.d.def_ 8 (d := ⟨("Walks", some "step"), "step", "Walks.step", defArgs s_Walks_step, defBody s_Walks_step, defScope s_Walks_step, [], []⟩) rfl
      exact ⟨fd, F, He.meth_ok (c.t.d.fact 8 (f := .meth "Walks" "step") rfl), FunD.bindsA (ps := ["self"]) F fun _ _ _ _ _ _ us hl => match us, hl with | [_], _ => rfl⟩,
    f_shortest_from := by
      obtain ⟨fd, F⟩ := c.t.d.def_ 9 (d := ⟨("shortest_from", none), "shortest_from", "shortest_from", defArgs s_shortest_from, defBody s_shortest_from, defScope s_shortest_from, [], []⟩) rfl
      exact ⟨_, fd, F, He.glo_ok X G (c.t.d.fact 9 (f := .glo "shortest_from") rfl), FunD.bindsA (ps := ["table", "name", "most"]) F fun _ _ _ _ _ _ us hl => match us, hl with | [_, _, _], _ => rfl⟩,
    f_walk_order := by
      obtain ⟨fd, F⟩ := c.t.d.def_ 10 (d := ⟨("walk_order", none), "walk_order", "walk_order", defArgs s_walk_order, defBody s_walk_order, defScope s_walk_order, [], []⟩) rfl
      exact ⟨_, fd, F, He.glo_ok X G (c.t.d.fact 10 (f := .glo "walk_order") rfl), FunD.bindsA (ps := ["walk"]) F fun _ _ _ _ _ _ us hl => match us, hl with | [_], _ => rfl⟩,
    f_shortest_walk := by
      obtain ⟨fd, F⟩ := c.t.d.def_ 11 (d := ⟨("shortest_walk", none), "shortest_walk", "shortest_walk", defArgs s_shortest_walk, defBody s_shortest_walk, defScope s_shortest_walk, [], []⟩) rfl
      exact ⟨_, fd, F, He.glo_ok X G (c.t.d.fact 11 (f := .glo "shortest_walk") rfl), FunD.bindsA (ps := ["table", "most"]) F fun _ _ _ _ _ _ us hl => match us, hl with | [_, _], _ => rfl⟩,
    f_sums_along := by
      obtain ⟨fd, F⟩ := c.t.d.def_ 12 (d := ⟨("sums_along", none), "sums_along", "sums_along", defArgs s_sums_along, defBody s_sums_along, defScope s_sums_along, [], []⟩) rfl
      exact ⟨_, fd, F, He.glo_ok X G (c.t.d.fact 12 (f := .glo "sums_along") rfl), FunD.bindsA (ps := ["table", "edges", "walk"]) F fun _ _ _ _ _ _ us hl => match us, hl with | [_, _, _], _ => rfl⟩,
    f_shows_walk := by
      obtain ⟨fd, F⟩ := c.t.d.def_ 13 (d := ⟨("shows_walk", none), "shows_walk", "shows_walk", defArgs s_shows_walk, defBody s_shows_walk, defScope s_shows_walk, [], []⟩) rfl
      exact ⟨_, fd, F, He.glo_ok X G (c.t.d.fact 13 (f := .glo "shows_walk") rfl), FunD.bindsA (ps := ["table", "datum"]) F fun _ _ _ _ _ _ us hl => match us, hl with | [_, _], _ => rfl⟩,
    f__law_start := by
      obtain ⟨fd, F⟩ := c.t.d.def_ 14 (d := ⟨("_law_start", none), "_law_start", "_law_start", defArgs s__law_start, defBody s__law_start, defScope s__law_start, [], []⟩) rfl
      exact ⟨_, fd, F, He.glo_ok X G (c.t.d.fact 14 (f := .glo "_law_start") rfl), FunD.bindsA (ps := ["script"]) F fun _ _ _ _ _ _ us hl => match us, hl with | [_], _ => rfl⟩,
    f__law_draw := by
      obtain ⟨fd, F⟩ := c.t.d.def_ 15 (d := ⟨("_law_draw", none), "_law_draw", "_law_draw", defArgs s__law_draw, defBody s__law_draw, defScope s__law_draw, [], []⟩) rfl
      exact ⟨_, fd, F, He.glo_ok X G (c.t.d.fact 15 (f := .glo "_law_draw") rfl), FunD.bindsA (ps := ["state", "most"]) F fun _ _ _ _ _ _ us hl => match us, hl with | [_, _], _ => rfl⟩,
    f__law_one_of := by
      obtain ⟨fd, F⟩ := c.t.d.def_ 16 (d := ⟨("_law_one_of", none), "_law_one_of", "_law_one_of", defArgs s__law_one_of, defBody s__law_one_of, defScope s__law_one_of, [], []⟩) rfl
      exact ⟨_, fd, F, He.glo_ok X G (c.t.d.fact 16 (f := .glo "_law_one_of") rfl), FunD.bindsA (ps := ["state", "items"]) F fun _ _ _ _ _ _ us hl => match us, hl with | [_, _], _ => rfl⟩,
    f__law_shuffled := by
      obtain ⟨fd, F⟩ := c.t.d.def_ 17 (d := ⟨("_law_shuffled", none), "_law_shuffled", "_law_shuffled", defArgs s__law_shuffled, defBody s__law_shuffled, defScope s__law_shuffled, [], []⟩) rfl
      exact ⟨_, fd, F, He.glo_ok X G (c.t.d.fact 17 (f := .glo "_law_shuffled") rfl), FunD.bindsA (ps := ["state", "items"]) F fun _ _ _ _ _ _ us hl => match us, hl with | [_, _], _ => rfl⟩,
    f__law_words := by
      obtain ⟨fd, F⟩ := c.t.d.def_ 18 (d := ⟨("_law_words", none), "_law_words", "_law_words", defArgs s__law_words, defBody s__law_words, defScope s__law_words, [], []⟩) rfl
      exact ⟨_, fd, F, He.glo_ok X G (c.t.d.fact 18 (f := .glo "_law_words") rfl), FunD.bindsA (ps := ["state", "many"]) F fun _ _ _ _ _ _ us hl => match us, hl with | [_, _], _ => rfl⟩,
    f__law_is_int := by
      obtain ⟨fd, F⟩ := c.t.d.def_ 19 (d := ⟨("_law_is_int", none), "_law_is_int", "_law_is_int", defArgs s__law_is_int, defBody s__law_is_int, defScope s__law_is_int, [], []⟩) rfl
      exact ⟨_, fd, F, He.glo_ok X G (c.t.d.fact 19 (f := .glo "_law_is_int") rfl), FunD.bindsA (ps := ["x"]) F fun _ _ _ _ _ _ us hl => match us, hl with | [_], _ => rfl⟩,
    f__law_same := by
      obtain ⟨fd, F⟩ := c.t.d.def_ 20 (d := ⟨("_law_same", none), "_law_same", "_law_same", defArgs s__law_same, defBody s__law_same, defScope s__law_same, [], []⟩) rfl
      exact ⟨_, fd, F, He.glo_ok X G (c.t.d.fact 20 (f := .glo "_law_same") rfl), FunD.bindsA (ps := ["x", "y"]) F fun _ _ _ _ _ _ us hl => match us, hl with | [_, _], _ => rfl⟩,
    f__law_offsets := by
      obtain ⟨fd, F⟩ := c.t.d.def_ 21 (d := ⟨("_law_offsets", none), "_law_offsets", "_law_offsets", defArgs s__law_offsets, defBody s__law_offsets, defScope s__law_offsets, [], []⟩) rfl
      exact ⟨_, fd, F, He.glo_ok X G (c.t.d.fact 21 (f := .glo "_law_offsets") rfl), FunD.bindsA (ps := ["state", "many", "most"]) F fun _ _ _ _ _ _ us hl => match us, hl with | [_, _, _], _ => rfl⟩,
    f__law_some_part := by
      obtain ⟨fd, F⟩ := c.t.d.def_ 22 (d := ⟨("_law_some_part", none), "_law_some_part", "_law_some_part", defArgs s__law_some_part, defBody s__law_some_part, defScope s__law_some_part, [], []⟩) rfl
      exact ⟨_, fd, F, He.glo_ok X G (c.t.d.fact 22 (f := .glo "_law_some_part") rfl), FunD.bindsA (ps := ["state", "w", "depth"]) F fun _ _ _ _ _ _ us hl => match us, hl with | [_, _, _], _ => rfl⟩,
    f__law_leaf := by
      obtain ⟨fd, F⟩ := c.t.d.def_ 23 (d := ⟨("_law_leaf", none), "_law_leaf", "_law_leaf", defArgs s__law_leaf, defBody s__law_leaf, defScope s__law_leaf, [], []⟩) rfl
      exact ⟨_, fd, F, He.glo_ok X G (c.t.d.fact 23 (f := .glo "_law_leaf") rfl), FunD.bindsA (ps := ["state", "w"]) F fun _ _ _ _ _ _ us hl => match us, hl with | [_, _], _ => rfl⟩,
    f__law_slope := by
      obtain ⟨fd, F⟩ := c.t.d.def_ 24 (d := ⟨("_law_slope", none), "_law_slope", "_law_slope", defArgs s__law_slope, defBody s__law_slope, defScope s__law_slope, [], []⟩) rfl
      exact ⟨_, fd, F, He.glo_ok X G (c.t.d.fact 24 (f := .glo "_law_slope") rfl), FunD.bindsA (ps := ["w", "name", "other", "offsets"]) F fun _ _ _ _ _ _ us hl => match us, hl with | [_, _, _, _], _ => rfl⟩,
    f__law_rim := by
      obtain ⟨fd, F⟩ := c.t.d.def_ 25 (d := ⟨("_law_rim", none), "_law_rim", "_law_rim", defArgs s__law_rim, defBody s__law_rim, defScope s__law_rim, [], []⟩) rfl
      exact ⟨_, fd, F, He.glo_ok X G (c.t.d.fact 25 (f := .glo "_law_rim") rfl), FunD.bindsA (ps := ["state"]) F fun _ _ _ _ _ _ us hl => match us, hl with | [_], _ => rfl⟩,
    f__law_given_row := by
      obtain ⟨fd, F⟩ := c.t.d.def_ 26 (d := ⟨("_law_given_row", none), "_law_given_row", "_law_given_row", defArgs s__law_given_row, defBody s__law_given_row, defScope s__law_given_row, [], []⟩) rfl
      exact ⟨_, fd, F, He.glo_ok X G (c.t.d.fact 26 (f := .glo "_law_given_row") rfl), FunD.bindsA (ps := ["state", "name"]) F fun _ _ _ _ _ _ us hl => match us, hl with | [_, _], _ => rfl⟩,
    f__law_table_world := by
      obtain ⟨fd, F⟩ := c.t.d.def_ 27 (d := ⟨("_law_table_world", none), "_law_table_world", "_law_table_world", defArgs s__law_table_world, defBody s__law_table_world, defScope s__law_table_world, [], []⟩) rfl
      exact ⟨_, fd, F, He.glo_ok X G (c.t.d.fact 27 (f := .glo "_law_table_world") rfl), FunD.bindsA (ps := ["state", "many", "rules", "givens"]) F fun _ _ _ _ _ _ us hl => match us, hl with | [_, _, _, _], _ => rfl⟩,
    f__law_with_row := by
      obtain ⟨fd, F⟩ := c.t.d.def_ 28 (d := ⟨("_law_with_row", none), "_law_with_row", "_law_with_row", defArgs s__law_with_row, defBody s__law_with_row, defScope s__law_with_row, [], []⟩) rfl
      exact ⟨_, fd, F, He.glo_ok X G (c.t.d.fact 28 (f := .glo "_law_with_row") rfl), FunD.bindsA (ps := ["state", "w", "least"]) F fun _ _ _ _ _ _ us hl => match us, hl with | [_, _, _], _ => rfl⟩,
    f__law_rules_of := by
      obtain ⟨fd, F⟩ := c.t.d.def_ 29 (d := ⟨("_law_rules_of", none), "_law_rules_of", "_law_rules_of", defArgs s__law_rules_of, defBody s__law_rules_of, defScope s__law_rules_of, [], []⟩) rfl
      exact ⟨_, fd, F, He.glo_ok X G (c.t.d.fact 29 (f := .glo "_law_rules_of") rfl), FunD.bindsA (ps := ["state", "w", "depth"]) F fun _ _ _ _ _ _ us hl => match us, hl with | [_, _, _], _ => rfl⟩,
    f__law_refs := by
      obtain ⟨fd, F⟩ := c.t.d.def_ 30 (d := ⟨("_law_refs", none), "_law_refs", "_law_refs", defArgs s__law_refs, defBody s__law_refs, defScope s__law_refs, [], []⟩) rfl
      exact ⟨_, fd, F, He.glo_ok X G (c.t.d.fact 30 (f := .glo "_law_refs") rfl), FunD.bindsA (ps := ["e"]) F fun _ _ _ _ _ _ us hl => match us, hl with | [_], _ => rfl⟩,
    f__law_at_offsets := by
      obtain ⟨fd, F⟩ := c.t.d.def_ 31 (d := ⟨("_law_at_offsets", none), "_law_at_offsets", "_law_at_offsets", defArgs s__law_at_offsets, defBody s__law_at_offsets, defScope s__law_at_offsets, [], []⟩) rfl
      exact ⟨_, fd, F, He.glo_ok X G (c.t.d.fact 31 (f := .glo "_law_at_offsets") rfl), FunD.bindsA (ps := ["place", "offsets"]) F fun _ _ _ _ _ _ us hl => match us, hl with | [_, _], _ => rfl⟩,
    f__law_ring_table := by
      obtain ⟨fd, F⟩ := c.t.d.def_ 32 (d := ⟨("_law_ring_table", none), "_law_ring_table", "_law_ring_table", defArgs s__law_ring_table, defBody s__law_ring_table, defScope s__law_ring_table, [], []⟩) rfl
      exact ⟨_, fd, F, He.glo_ok X G (c.t.d.fact 32 (f := .glo "_law_ring_table") rfl), FunD.bindsA (ps := ["state"]) F fun _ _ _ _ _ _ us hl => match us, hl with | [_], _ => rfl⟩,
    f__law_own_edges := by
      obtain ⟨fd, F⟩ := c.t.d.def_ 33 (d := ⟨("_law_own_edges", none), "_law_own_edges", "_law_own_edges", defArgs s__law_own_edges, defBody s__law_own_edges, defScope s__law_own_edges, [], []⟩) rfl
      exact ⟨_, fd, F, He.glo_ok X G (c.t.d.fact 33 (f := .glo "_law_own_edges") rfl), FunD.bindsA (ps := ["table"]) F fun _ _ _ _ _ _ us hl => match us, hl with | [_], _ => rfl⟩,
    f__law_planted_ring := by
      obtain ⟨fd, F⟩ := c.t.d.def_ 34 (d := ⟨("_law_planted_ring", none), "_law_planted_ring", "_law_planted_ring", defArgs s__law_planted_ring, defBody s__law_planted_ring, defScope s__law_planted_ring, [], []⟩) rfl
      exact ⟨_, fd, F, He.glo_ok X G (c.t.d.fact 34 (f := .glo "_law_planted_ring") rfl), FunD.bindsA (ps := ["state"]) F fun _ _ _ _ _ _ us hl => match us, hl with | [_], _ => rfl⟩,
    f__law_star_table := by
      obtain ⟨fd, F⟩ := c.t.d.def_ 35 (d := ⟨("_law_star_table", none), "_law_star_table", "_law_star_table", defArgs s__law_star_table, defBody s__law_star_table, defScope s__law_star_table, [], []⟩) rfl
      exact ⟨_, fd, F, He.glo_ok X G (c.t.d.fact 35 (f := .glo "_law_star_table") rfl), FunD.bindsA (ps := ["state"]) F fun _ _ _ _ _ _ us hl => match us, hl with | [_], _ => rfl⟩,
    f__law_is_walk := by
      obtain ⟨fd, F⟩ := c.t.d.def_ 36 (d := ⟨("_law_is_walk", none), "_law_is_walk", "_law_is_walk", defArgs s__law_is_walk, defBody s__law_is_walk, defScope s__law_is_walk, [], []⟩) rfl
      exact ⟨_, fd, F, He.glo_ok X G (c.t.d.fact 36 (f := .glo "_law_is_walk") rfl), FunD.bindsA (ps := ["edges", "datum"]) F fun _ _ _ _ _ _ us hl => match us, hl with | [_, _], _ => rfl⟩,
    f__law_cell_at := by
      obtain ⟨fd, F⟩ := c.t.d.def_ 37 (d := ⟨("_law_cell_at", none), "_law_cell_at", "_law_cell_at", defArgs s__law_cell_at, defBody s__law_cell_at, defScope s__law_cell_at, [], []⟩) rfl
      exact ⟨_, fd, F, He.glo_ok X G (c.t.d.fact 37 (f := .glo "_law_cell_at") rfl), FunD.bindsA (ps := ["name", "many", "steps"]) F fun _ _ _ _ _ _ us hl => match us, hl with | [_, _, _], _ => rfl⟩,
    f__law_gadget := by
      obtain ⟨fd, F⟩ := c.t.d.def_ 38 (d := ⟨("_law_gadget", none), "_law_gadget", "_law_gadget", defArgs s__law_gadget, defBody s__law_gadget, defScope s__law_gadget, [], []⟩) rfl
      exact ⟨_, fd, F, He.glo_ok X G (c.t.d.fact 38 (f := .glo "_law_gadget") rfl), FunD.bindsA (ps := ["state", "names", "many", "across", "along", "sign"]) F fun _ _ _ _ _ _ us hl => match us, hl with | [_, _, _, _, _, _], _ => rfl⟩,
    f__law_rules_by := by
      obtain ⟨fd, F⟩ := c.t.d.def_ 39 (d := ⟨("_law_rules_by", none), "_law_rules_by", "_law_rules_by", defArgs s__law_rules_by, defBody s__law_rules_by, defScope s__law_rules_by, [], []⟩) rfl
      exact ⟨_, fd, F, He.glo_ok X G (c.t.d.fact 39 (f := .glo "_law_rules_by") rfl), FunD.bindsA (ps := ["state", "rows"]) F fun _ _ _ _ _ _ us hl => match us, hl with | [_, _], _ => rfl⟩,
    f__law_levelled := by
      obtain ⟨fd, F⟩ := c.t.d.def_ 40 (d := ⟨("_law_levelled", none), "_law_levelled", "_law_levelled", defArgs s__law_levelled, defBody s__law_levelled, defScope s__law_levelled, [], []⟩) rfl
      exact ⟨_, fd, F, He.glo_ok X G (c.t.d.fact 40 (f := .glo "_law_levelled") rfl), FunD.bindsA (ps := ["state"]) F fun _ _ _ _ _ _ us hl => match us, hl with | [_], _ => rfl⟩,
    f__law_told_table := by
      obtain ⟨fd, F⟩ := c.t.d.def_ 41 (d := ⟨("_law_told_table", none), "_law_told_table", "_law_told_table", defArgs s__law_told_table, defBody s__law_told_table, defScope s__law_told_table, [], []⟩) rfl
      exact ⟨_, fd, F, He.glo_ok X G (c.t.d.fact 41 (f := .glo "_law_told_table") rfl), FunD.bindsA (ps := ["state"]) F fun _ _ _ _ _ _ us hl => match us, hl with | [_], _ => rfl⟩,
    f__law_numbers_in := by
      obtain ⟨fd, F⟩ := c.t.d.def_ 42 (d := ⟨("_law_numbers_in", none), "_law_numbers_in", "_law_numbers_in", defArgs s__law_numbers_in, defBody s__law_numbers_in, defScope s__law_numbers_in, [], []⟩) rfl
      exact ⟨_, fd, F, He.glo_ok X G (c.t.d.fact 42 (f := .glo "_law_numbers_in") rfl), FunD.bindsA (ps := ["e"]) F fun _ _ _ _ _ _ us hl => match us, hl with | [_], _ => rfl⟩,
    f__law_token_count := by
      obtain ⟨fd, F⟩ := c.t.d.def_ 43 (d := ⟨("_law_token_count", none), "_law_token_count", "_law_token_count", defArgs s__law_token_count, defBody s__law_token_count, defScope s__law_token_count, [], []⟩) rfl
      exact ⟨_, fd, F, He.glo_ok X G (c.t.d.fact 43 (f := .glo "_law_token_count") rfl), FunD.bindsA (ps := ["over", "e"]) F fun _ _ _ _ _ _ us hl => match us, hl with | [_, _], _ => rfl⟩,
    f__law_can_be_read := by
      obtain ⟨fd, F⟩ := c.t.d.def_ 44 (d := ⟨("_law_can_be_read", none), "_law_can_be_read", "_law_can_be_read", defArgs s__law_can_be_read, defBody s__law_can_be_read, defScope s__law_can_be_read, [], []⟩) rfl
      exact ⟨_, fd, F, He.glo_ok X G (c.t.d.fact 44 (f := .glo "_law_can_be_read") rfl), FunD.bindsA (ps := ["over", "row"]) F fun _ _ _ _ _ _ us hl => match us, hl with | [_, _], _ => rfl⟩,
    f__law_round_walks := by
      obtain ⟨fd, F⟩ := c.t.d.def_ 45 (d := ⟨("_law_round_walks", none), "_law_round_walks", "_law_round_walks", defArgs s__law_round_walks, defBody s__law_round_walks, defScope s__law_round_walks, [], []⟩) rfl
      exact ⟨_, fd, F, He.glo_ok X G (c.t.d.fact 45 (f := .glo "_law_round_walks") rfl), FunD.bindsA (ps := ["edges", "most"]) F fun _ _ _ _ _ _ us hl => match us, hl with | [_, _], _ => rfl⟩,
    f_law := by
      obtain ⟨fd, F⟩ := c.t.d.def_ 46 (d := ⟨("law", none), "law", "law", defArgs s_law, defBody s_law, defScope s_law, [], []⟩) rfl
      exact ⟨_, fd, F, He.glo_ok X G (c.t.d.fact 46 (f := .glo "law") rfl), FunD.bindsA (ps := ["script"]) F fun _ _ _ _ _ _ us hl => match us, hl with | [_], _ => rfl⟩ }
open PySem PySem.W PySem.Calls PyProof.Rows in
set_option maxHeartbeats 0 in
theorem holds (kk : Nat) (hk : Room (3 * kk + 3) callerA) (math : ∀ (a : Cl) (ns : List Int), ns.length ≤ 63 → (wC a (kk + 1)).law [.scr ns] (fun _ => none) fun p _ => p = .bl true) : PySem.Challenge.rw_toldinwaves_k81_shortest_walks.Holds := by
  w_on; o_law
  refine HandSHeadRun.head_any (r := OpenLaw.row PySem.Challenge.rw_toldinwaves_k81_shortest_walks) (q := view (OpenLaw.row PySem.Challenge.rw_toldinwaves_k81_shortest_walks).prog [51]) (H := K81.hk) (ob := ob) (M := 4000) (loose := loose) (d := HandSHeadRun.topDef (OpenLaw.row PySem.Challenge.rw_toldinwaves_k81_shortest_walks).prog 51) (kwd := []) ob_eq
    (by kernel_rfl) (fun s => by kernel_rfl) hrun (by kernel_rfl) (by kernel_rfl) (by kernel_rfl) (by rfl) (by first | assumption | decide +kernel) (by decide +kernel) ⟨rfl, rfl, rfl, rfl, rfl, by decide +kernel⟩ ?hw ?hc
  case hw => w_witness2
  case hc =>
    refine L2.walk_ofE (l := PySem.Challenge.rw_toldinwaves_k81_shortest_walks) (n := 63) (k := 3 * kk + 3) (x := "script") (CX := L2.CX0) rfl (by decide) (by kernel_rfl) hk ?F (fun _ _ _ _ z => z)
    intro w mg fa h Y G hmg0
    obtain ⟨K, KX, c⟩ := Y
    have hmg : mg ("law" : PySem.Str) = some (.ref fa) := by
      have e : (HandSHeadRun.topDef (OpenLaw.row PySem.Challenge.rw_toldinwaves_k81_shortest_walks).prog 51).name = ("law" : PySem.Str) := by kernel_rfl
      rw [← e]
      exact hmg0
    have B := facts KX G c
    obtain ⟨fd, sp, hb, hsp, hF⟩ := law_ok (P := (PySem.Challenge.rw_toldinwaves_k81_shortest_walks).prog) (w := w) B.f_law S_law (n := 7) rfl hmg (fun base hK hB f cdv A outer s H E hr => d_law (own B kk) hr) (math _)
    exact ⟨K, fd, sp, KX, hb, hsp, hF⟩
variable {cl : Cl}
theorem wC_succ (k : Nat) : wC cl (k + 1) = cS cl (wC cl k) := rfl
theorem ds_up {h : PH} {a s : Addr} {ns : List Int} (has : a ≠ s) (ha : h a = some (.lst (ns.map .int))) (i c n : Int) : DS a ns s (up h s (.lst [.ref a, .int i, .int c, .int n])) ∧ G.Fr [s] h (up h s (.lst [.ref a, .int i, .int c, .int n])) :=
  ⟨⟨has, by rw [up_ne has]; exact ha, i, c, n, up_same⟩, fun b n => up_ne (by simpa using n)⟩
theorem c_draw {k : Nat} (hk : 1 ≤ k) {a s : Addr} {ns : List Int} {most : Int} {h : PH} {Q : QV} (d : DS a ns s h) (hm : 0 < most) (hm2 : most < 1073741824)
    (q : ∀ v h', 0 ≤ v → v < most → DS a ns s h' → G.Fr [s] h h' → Q (.int v) h') : (wC cl k)._law_draw [.ref s, .int most] h Q := by
  obtain ⟨k, rfl⟩ : ∃ j, k = j + 1 := ⟨k - 1, by omega⟩
  obtain ⟨has, ha, i, c, n, hs⟩ := d
  have fin : ∀ (v i' c' n' : Int), 0 ≤ v → v < most → ∃ h2, G.Sub h2 (up h s (.lst [.ref a, .int i', .int c', .int n'])) ∧ Q (.int v) h2 := fun v i' c' n' h1 h2 => by
    obtain ⟨x, y⟩ := ds_up has ha i' c' n'
    exact ⟨_, G.Sub.refl _, q _ _ h1 h2 x y⟩
  have hau : ∀ o, up h s o a = some (.lst (ns.map .int)) := fun o => by rw [up_ne has]; exact ha
  have hmod : ∀ x : Int, 0 ≤ x % most ∧ x % most < most := fun x => ⟨Int.emod_nonneg _ (by omega), Int.emod_lt_of_pos _ hm⟩
  show zFn _ _ (b__law_draw cl (wC cl k)) _ h Q
  unfold b__law_draw
  simp! [hs, ha]
  rw [zSeq_x]
  simp! [hs, ha]
  by_cases h0 : 0 < c
  · simp! [h0]
    exact ⟨hm, ⟨hm, hm2⟩, fin _ _ _ _ (hmod _).1 (hmod _).2⟩
  · simp! [h0]
    refine zSeq_key (fun ρ' h' => ∃ cell : Int, 0 ≤ cell ∧ ρ' = [some (.ref s), some (.int most), none, some (.int cell), none] ∧ h' = up h s (.lst [.ref a, .int i, .int c, .int (n + 1)])) ?_ fun X kx => ?_
    · rintro _ _ ⟨cell, hc, rfl, rfl⟩
      simp! []
      rw [zSeq_x]
      simp! []
      refine ⟨⟨by decide, by decide, by decide⟩, ?_⟩
      by_cases hb : (10 : Int) ^ (18 : Int).toNat ≤ cell
      · simp! [hb]
        exact ⟨⟨hm, hm2⟩, hm, fin _ _ _ _ (hmod _).1 (hmod _).2⟩
      · simp! [hb]
        exact ⟨mulL ⟨by decide, by decide⟩, mulL ⟨by decide, by decide⟩, by decide, mulL ⟨by decide, by decide⟩, ⟨by decide, by decide⟩, by decide, ⟨by decide, by decide⟩, hm, fin _ _ _ _ (hmod _).1 (hmod _).2⟩
    · simp! [hau]
      by_cases hl : 0 < ((ns.map PV.int).length : Int)
      · simp only [hl, decide_true, if_true]
        have hl' : 0 < (ns.length : Int) := by simpa using hl
        obtain ⟨j, hj⟩ : ∃ j : Nat, i % (ns.length : Int) = (j : Int) := ⟨(i % ns.length).toNat, by have := Int.emod_nonneg i (b := (ns.length : Int)) (by omega); omega⟩
        have hj2 : j < ns.length := by have := Int.emod_lt_of_pos i hl'; omega
        have e : atI (ns.map PV.int) (i % ((ns.map PV.int).length : Int)) = some (.int ns[j]) := by
          rw [List.length_map, hj, atN, List.getElem?_map, List.getElem?_eq_getElem hj2]; rfl
        simp! [hau, e]
        exact kx _ _ ⟨_, by split <;> omega, rfl, rfl⟩
      · simp! [hl]
        exact kx _ _ ⟨0, by omega, rfl, rfl⟩

theorem c_one_of {k : Nat} (hk : 2 ≤ k) {a s l : Addr} {ns : List Int} {xs : List PV} {h : PH} {Q : QV} (d : DS a ns s h) (hl : h l = some (.lst xs)) (h0 : xs ≠ []) (h1 : xs.length < 1073741824) (hne : l ≠ s)
    (q : ∀ x h', x ∈ xs → DS a ns s h' → G.Fr [s] h h' → Q x h') : (wC cl k)._law_one_of [.ref s, .ref l] h Q := by
  obtain ⟨k, rfl⟩ : ∃ j, k = j + 1 := ⟨k - 1, by omega⟩
  show zFn _ _ (b__law_one_of cl (wC cl k)) _ h Q
  unfold b__law_one_of
  dsimp! [hl]
  have h3 : 0 < xs.length := List.length_pos_iff.mpr h0
  refine c_draw (by omega) d (by omega) (by omega) fun v h' v0 v1 d' f => ?_
  have e : h' l = some (.lst xs) := (f l (by simpa using hne)).trans hl
  obtain ⟨j, rfl⟩ : ∃ j : Nat, v = (j : Int) := ⟨v.toNat, by omega⟩
  have hj : j < xs.length := by omega
  dsimp! [e, atN, List.getElem?_eq_getElem hj]
  exact ⟨_, G.Sub.refl _, q _ _ (List.getElem_mem hj) d' f⟩

theorem c_start {k : Nat} (hk : 1 ≤ k) {ns : List Int} (hn : ns.length ≤ 63) {h : PH} {Q : QV} (q : ∀ a s h', DS a ns s h' → Kp [] h h' → h s = none → Q (.ref s) h') : (wC cl k)._law_start [.scr ns] h Q := by
  obtain ⟨k, rfl⟩ : ∃ j, k = j + 1 := ⟨k - 1, by omega⟩
  show zFn _ _ (b__law_start cl (wC cl k)) _ h Q
  unfold b__law_start
  dsimp! []
  refine fun _ a na => ⟨by decide, fun s ns' => ?_⟩
  have e : s ≠ a := by rintro rfl; rw [up_same] at ns'; cases ns'
  refine ⟨_, G.Sub.refl _, q a s _ ⟨e.symm, ?_, 0, 0, 0, up_same⟩ (((Kp.refl _ _).new na).new ns') ?_⟩
  · rw [up_ne e.symm]; exact up_same
  · rw [up_ne e] at ns'
    exact ns'
theorem c_is_int {k : Nat} (hk : 1 ≤ k) {i : Int} {h : PH} {Q : QV} (q : Q (.bl true) h) : (wC cl k)._law_is_int [.int i] h Q := by
  obtain ⟨k, rfl⟩ : ∃ j, k = j + 1 := ⟨k - 1, by omega⟩
  show zFn _ _ (b__law_is_int cl (wC cl k)) _ h Q
  unfold b__law_is_int
  dsimp! []
  simp only [show decide (Ty.int = Ty.int) = true from rfl, show decide (Ty.int = Ty.bool) = false from rfl, Bool.not_false, if_true]
  exact ⟨_, G.Sub.refl _, q⟩
/-- a whole number between -4 and 4, mostly 0 -/
theorem c_rim {k : Nat} (hk : 2 ≤ k) {a s : Addr} {ns : List Int} {h : PH} {Q : QV} (d : DS a ns s h) (q : ∀ v h', DS a ns s h' → G.Fr [s] h h' → -4 ≤ v → v ≤ 4 → Q (.int v) h') : (wC cl k)._law_rim [.ref s] h Q := by
  obtain ⟨k, rfl⟩ : ∃ j, k = j + 1 := ⟨k - 1, by omega⟩
  show zFn _ _ (b__law_rim cl (wC cl k)) _ h Q
  unfold b__law_rim
  dsimp! []
  refine c_draw (by omega) d (by omega) (by omega) fun v h' v0 v1 d' f => ?_
  dsimp! []
  refine ⟨by decide, fun p np => ?_⟩
  refine c_draw (by omega) (d'.new np) (by omega) (by omega) fun w h2 w0 w1 d3 f2 => ?_
  have e : h2 p = some (.lst [.int 0, .int 0, .int (v - 4)]) := (f2 p (by simpa using d'.ne np)).trans up_same
  have kp : Kp [s] h h2 := f.kp.trans ((kp_new np).trans f2.kp)
  have fin : ∀ z : Int, -4 ≤ z → z ≤ 4 → ∃ h3, G.Sub h3 h2 ∧ Q (.int z) h3 := fun z z0 z1 => d.out d3 kp fun h3 x y => q z h3 x y z0 z1
  rcases (show w = 0 ∨ w = 1 ∨ w = 2 by omega) with rfl | rfl | rfl
  · dsimp! [e]; exact fin _ (by omega) (by omega)
  · dsimp! [e]; exact fin _ (by omega) (by omega)
  · dsimp! [e]; exact fin _ (by omega) (by omega)

mutual
/-- whole numbers, texts, and tuples of such -/
def dat : PV → Bool
  | .int _ => true
  | .str x => x.all fun c => decide (c < 1114112)
  | .tup xs => decide (xs.length ≤ 1000000) && dats xs
  | _ => false
def dats : List PV → Bool
  | [] => true
  | x :: xs => dat x && dats xs
end
theorem dats_mem {xs : List PV} (h : dats xs = true) {x : PV} (m : x ∈ xs) : dat x = true := by
  induction xs with
  | nil => cases m
  | cons y ys ih =>
    simp only [dats, Bool.and_eq_true] at h
    rcases List.mem_cons.mp m with rfl | m
    · exact h.1
    · exact ih h.2 m
mutual
theorem dat_pl : ∀ p : PV, dat p = true → p.pl = true
  | .int _, _ => by simp [PV.pl]
  | .str x, h => by simpa [dat, PV.pl] using h
  | .tup xs, h => by
    simp only [dat, Bool.and_eq_true] at h
    simpa [PV.pl] using dats_pl xs h.2
  | .non, h => by simp [dat] at h
  | .bl _, h => by simp [dat] at h
  | .ref _, h => by simp [dat] at h
  | .scr _, h => by simp [dat] at h
theorem dats_pl : ∀ p : List PV, dats p = true → PV.pls p = true
  | [], _ => rfl
  | x :: xs, h => by
    simp only [dats, Bool.and_eq_true] at h
    simp [PV.pls, dat_pl x h.1, dats_pl xs h.2]
end
theorem bls_rep : ∀ n : Nat, blsP (List.replicate n (.bl true)) = some (List.replicate n true)
  | 0 => rfl
  | n + 1 => by rw [List.replicate_succ, List.replicate_succ]; simp [blsP, bls_rep n]
theorem all_rep (n : Nat) : (List.replicate n true).all id = true := by simp
theorem c_same : ∀ (n : Nat) (p : PV), dat p = true → p.dp ≤ n → ∀ {k : Nat}, n + 2 ≤ k → ∀ {h : PH} {Q : QV}, Q (.bl true) h → (wC cl k)._law_same [p, p] h Q := by
  intro n
  induction n with
  | zero =>
    intro p hp hn k hk h Q q
    obtain ⟨k, rfl⟩ : ∃ j, k = j + 1 := ⟨k - 1, by omega⟩
    show zFn _ _ (b__law_same cl (wC cl k)) _ h Q
    unfold b__law_same
    cases p with
    | int i =>
      dsimp! []
      rw [zSeq_x]; dsimp! []
      rw [zSeq_x]; dsimp! []
      exact c_is_int (by omega) ⟨_, G.Sub.refl _, q⟩
    | str x =>
      dsimp! []
      rw [zSeq_x]; dsimp! []
      rw [zSeq_x]; dsimp! []
      exact ⟨_, G.Sub.refl _, q⟩
    | tup xs => simp [PV.dp] at hn
    | _ => simp [dat] at hp
  | succ n ih =>
    intro p hp hn k hk h Q q
    cases p with
    | tup xs =>
      obtain ⟨k, rfl⟩ : ∃ j, k = j + 1 := ⟨k - 1, by omega⟩
      show zFn _ _ (b__law_same cl (wC cl k)) _ h Q
      unfold b__law_same
      simp only [dat, Bool.and_eq_true, decide_eq_true_eq] at hp
      simp only [PV.dp] at hn
      dsimp! []
      rw [zSeq_x]; dsimp! []
      rw [zSeq_x]; dsimp! []
      refine ⟨by omega, by omega, ?_⟩
      refine lcW_R (by rw [sizeLine_eq]; omega) (fun i acc h' => h = h' ∧ acc = List.replicate i (.bl true)) ⟨rfl, rfl⟩ (fun i acc h' e => by rw [e.2]; simp) (fun i acc h' hi ⟨e1, e2⟩ => ?_) fun acc h' ⟨e1, e2⟩ => ?_
      · subst e1 e2
        have hi' : i < xs.length := by omega
        dsimp! [Int.zero_add, atN, List.getElem?_eq_getElem hi']
        refine ih xs[i] (dats_mem hp.2 (List.getElem_mem hi')) (dps_mem (by omega) (List.getElem_mem hi')) (by omega) ⟨h, G.Sub.refl _, rfl, ?_⟩
        exact List.replicate_succ'.symm
      · subst e1 e2
        intro D nD
        dsimp! [bls_rep, all_rep]
        exact ⟨h, (fun b o e => by rw [up_ne (by rintro rfl; rw [nD] at e; cases e)]; exact e), q⟩
    | _ => exact ih _ hp (by simp [PV.dp]) (by omega) q

theorem back_self {h : PH} {D : Addr} {o : PO} (n : h D = none) : G.Sub h (up h D o) := fun b v e => by
  rw [up_ne (by rintro rfl; rw [n] at e; cases e)]; exact e
/-- many whole numbers from -most to most -/
theorem c_offsets {k : Nat} (hk : 2 ≤ k) {a s : Addr} {ns : List Int} {many : Nat} {most : Int} {h : PH} {Q : QV} (d : DS a ns s h) (hm : many ≤ 1000) (h0 : 0 ≤ most) (h1 : most < 1000)
    (q : ∀ (os : List Int) h', os.length = many → (∀ o ∈ os, -most ≤ o ∧ o ≤ most) → DS a ns s h' → G.Fr [s] h h' → Q (.tup (os.map .int)) h') : (wC cl k)._law_offsets [.ref s, .int many, .int most] h Q := by
  obtain ⟨k, rfl⟩ : ∃ j, k = j + 1 := ⟨k - 1, by omega⟩
  show zFn _ _ (b__law_offsets cl (wC cl k)) _ h Q
  unfold b__law_offsets
  dsimp! []
  refine ⟨by omega, by omega, ?_⟩
  refine lcW_R (by rw [sizeLine_eq]; omega) (fun i acc h' => ∃ os : List Int, acc = os.map .int ∧ os.length = i ∧ (∀ o ∈ os, -most ≤ o ∧ o ≤ most) ∧ DS a ns s h' ∧ G.Fr [s] h h') ⟨[], rfl, rfl, by simp, d, G.Fr.refl _ _⟩ (fun i acc h' ⟨os, e, l, _⟩ => by rw [e, List.length_map, l]; exact Nat.le_refl _) ?_ ?_
  · rintro i _ h1 hi ⟨os, rfl, l, b, d1, f1⟩
    dsimp! []
    refine ⟨mulR ⟨by decide, by decide⟩, ?_⟩
    refine c_draw (by omega) d1 (by omega) (by omega) fun v h2 v0 v1 d2 f2 => ?_
    dsimp! []
    refine ⟨h2, G.Sub.refl _, os ++ [v - most], by simp, by simp [l], fun o ho => ?_, d2, f1.trans f2⟩
    rcases List.mem_append.mp ho with ho | ho
    · exact b o ho
    · simp at ho; omega
  · rintro _ h1 ⟨os, rfl, l, b, d1, f1⟩ D nD
    exact ⟨h1, back_self nD, q os h1 (by omega) b d1 f1⟩
def oi : Option Int → PV
  | none => .tup []
  | some i => .int i
/-- a row of a given: its name, its rim, its bounds -/
def givP (x : List Nat) (rim : Int) (lo hi : Option Int) : PV := .tup [.str x, .int rim, oi lo, oi hi]
theorem c_given_row {k : Nat} (hk : 3 ≤ k) {a s : Addr} {ns : List Int} {x : List Nat} {h : PH} {Q : QV} (d : DS a ns s h)
    (q : ∀ (rim : Int) (lo hi : Option Int) h', -4 ≤ rim → rim ≤ 4 → (∀ l, lo = some l → rim - 4 < l ∧ l ≤ rim) → (∀ u, hi = some u → rim ≤ u ∧ u < rim + 4) → DS a ns s h' → G.Fr [s] h h' → Q (givP x rim lo hi) h') : (wC cl k)._law_given_row [.ref s, .str x] h Q := by
  obtain ⟨k, rfl⟩ : ∃ j, k = j + 1 := ⟨k - 1, by omega⟩
  show zFn _ _ (b__law_given_row cl (wC cl k)) _ h Q
  unfold b__law_given_row
  dsimp! []
  refine c_rim (by omega) d fun rim h1 d1 f1 r0 r1 => ?_
  refine ⟨by decide, ?_⟩
  refine c_draw (by omega) d1 (by omega) (by omega) fun v h2 v0 v1 d2 f2 => ?_
  dsimp! []
  refine ⟨by decide, fun p np => ?_⟩
  refine c_draw (by omega) (d2.new np) (by omega) (by omega) fun w h3 w0 w1 d3 f3 => ?_
  have e1 : h3 p = some (.lst [.tup [], .int (rim - v)]) := (f3 p (by simpa using d2.ne np)).trans up_same
  have k3 : Kp [s] h h3 := (f1.kp.trans f2.kp).trans ((kp_new np).trans f3.kp)
  obtain ⟨lo, elo, hlo⟩ : ∃ lo : Option Int, atI [PV.tup [], .int (rim - v)] w = some (oi lo) ∧ ∀ l, lo = some l → rim - 4 < l ∧ l ≤ rim := by
    rcases (show w = 0 ∨ w = 1 by omega) with rfl | rfl
    · exact ⟨none, by rw [at0]; rfl, fun l e => nomatch e⟩
    · exact ⟨some (rim - v), by rw [at1]; rfl, fun l e => by cases e; omega⟩
  dsimp! [e1, elo]
  refine ⟨by decide, ?_⟩
  refine c_draw (by omega) d3 (by omega) (by omega) fun v' h4 v0 v1 d4 f4 => ?_
  dsimp! []
  refine ⟨by decide, fun p' np' => ?_⟩
  refine c_draw (by omega) (d4.new np') (by omega) (by omega) fun w' h5 w0 w1 d5 f5 => ?_
  have e2 : h5 p' = some (.lst [.tup [], .int (rim + v')]) := (f5 p' (by simpa using d4.ne np')).trans up_same
  have k5 : Kp [s] h h5 := (k3.trans f4.kp).trans ((kp_new np').trans f5.kp)
  obtain ⟨hi, ehi, hhi⟩ : ∃ hi : Option Int, atI [PV.tup [], .int (rim + v')] w' = some (oi hi) ∧ ∀ l, hi = some l → rim ≤ l ∧ l < rim + 4 := by
    rcases (show w' = 0 ∨ w' = 1 by omega) with rfl | rfl
    · exact ⟨none, by rw [at0]; rfl, fun l e => nomatch e⟩
    · exact ⟨some (rim + v'), by rw [at1]; rfl, fun l e => by cases e; omega⟩
  dsimp! [e2, ehi]
  exact ⟨by decide, d.out d5 k5 fun h6 x' y => q rim lo hi h6 r0 r1 hlo hhi x' y⟩
/-! ### the words -/
def abc : List Nat := [97, 98, 99, 100, 101, 102, 103, 104, 105, 106, 107, 108, 109, 110, 111, 112, 113, 114, 115, 116, 117, 118, 119, 120, 121, 122]
def wordAt (side : Bool) (sh : List Nat) (start step : Int) (i : Nat) : List Nat := if side then sh ++ [97 + ((start + i * step) % 26).toNat] else (97 + ((start + i * step) % 26).toNat) :: sh
theorem abc_at {z : Int} (h0 : 0 ≤ z) (h1 : z < 26) : atI abc z = some (97 + z.toNat) := by
  obtain ⟨j, rfl⟩ : ∃ j : Nat, z = j := ⟨z.toNat, by omega⟩
  have hj : j < 26 := by omega
  rw [atN]
  have : ∀ j : Fin 26, abc[j.val]? = some (97 + j.val) := by decide
  exact this ⟨j, hj⟩
theorem words_nd {side : Bool} {sh : List Nat} {start t : Int} (h0 : 0 ≤ t) (h1 : t < 6) {n : Nat} (hn : n ≤ 26) : ((List.range n).map (wordAt side sh start (1 + 2 * t))).Nodup := by
  rw [List.nodup_iff_pairwise_ne, List.pairwise_map]
  refine List.Pairwise.imp_of_mem (fun {i j} hi hj hlt e => ?_) List.pairwise_lt_range
  have hi' := List.mem_range.mp hi
  have hj' := List.mem_range.mp hj
  have hlt' : i < j := hlt
  have e2 : (start + i * (1 + 2 * t)) % 26 = (start + j * (1 + 2 * t)) % 26 := by
    have a1 := Int.emod_nonneg (start + i * (1 + 2 * t)) (b := 26) (by omega)
    have a2 := Int.emod_nonneg (start + j * (1 + 2 * t)) (b := 26) (by omega)
    unfold wordAt at e
    cases side with
    | true => simp at e; omega
    | false => simp at e; omega
  rcases (show t = 0 ∨ t = 1 ∨ t = 2 ∨ t = 3 ∨ t = 4 ∨ t = 5 by omega) with rfl | rfl | rfl | rfl | rfl | rfl <;> omega
def okS (x : List Nat) : Bool := decide (x.length ≤ 1000) && x.all fun c => decide (c < 1114112)
theorem word_ok {side : Bool} {sh : List Nat} {start step : Int} {i : Nat} (hs : sh ∈ [([] : List Nat), [113], [113, 120], [113, 120, 122]]) : okS (wordAt side sh start step i) = true := by
  have b : ((start + i * step) % 26).toNat < 26 := by omega
  have hc : (((start + i * step) % 26).toNat + 97) < 1114112 := by omega
  simp only [List.mem_cons, List.not_mem_nil, or_false] at hs
  unfold okS wordAt
  rcases hs with rfl | rfl | rfl | rfl <;> cases side <;> simp <;> omega
theorem word_nou {side : Bool} {sh : List Nat} {start step : Int} {i : Nat} (hs : sh ∈ [([] : List Nat), [113], [113, 120], [113, 120, 122]]) : 95 ∉ wordAt side sh start step i := by
  simp only [List.mem_cons, List.not_mem_nil, or_false] at hs
  unfold wordAt
  rcases hs with rfl | rfl | rfl | rfl <;> cases side <;> simp <;> omega
theorem c_words2 {k : Nat} (hk : 2 ≤ k) {a s : Addr} {ns : List Int} {many : Nat} {h : PH} {Q : QV} (d : DS a ns s h) (hm : many ≤ 26)
    (q : ∀ (ws : List (List Nat)) p h', ws.length = many → ws.Nodup → (∀ x ∈ ws, okS x = true) → (∀ x ∈ ws, 95 ∉ x) → DS a ns s h' → G.Fr [s] h h' → h' p = none → Q (.ref p) (up h' p (.lst (ws.map .str)))) : (wC cl k)._law_words [.ref s, .int many] h Q := by
  obtain ⟨k, rfl⟩ : ∃ j, k = j + 1 := ⟨k - 1, by omega⟩
  show zFn _ _ (b__law_words cl (wC cl k)) _ h Q
  unfold b__law_words
  dsimp! []
  refine c_draw (by omega) d (by omega) (by omega) fun start h1 s0 s1 d1 f1 => ?_
  refine c_draw (by omega) d1 (by omega) (by omega) fun t h2 t0 t1 d2 f2 => ?_
  dsimp! []
  refine ⟨mulR ⟨by decide, by decide⟩, ?_⟩
  refine c_draw (by omega) d2 (by omega) (by omega) fun c h3 c0 c1 d3 f3 => ?_
  obtain ⟨sh, hsh, esh⟩ : ∃ sh : List Nat, sh ∈ [([] : List Nat), [113], [113, 120], [113, 120, 122]] ∧ cut [113, 120, 122] none (some c) = sh := by
    rcases (show c = 0 ∨ c = 1 ∨ c = 2 ∨ c = 3 by omega) with rfl | rfl | rfl | rfl
    · exact ⟨[], by simp, by decide⟩
    · exact ⟨[113], by simp, by decide⟩
    · exact ⟨[113, 120], by simp, by decide⟩
    · exact ⟨[113, 120, 122], by simp, by decide⟩
  have shl : sh.length ≤ 3 := by
    simp only [List.mem_cons, List.not_mem_nil, or_false] at hsh
    rcases hsh with rfl | rfl | rfl | rfl <;> simp
  dsimp! [esh]
  refine ⟨by decide, ?_⟩
  rw [zSeq_x]
  dsimp! []
  refine c_draw (by omega) d3 (by omega) (by omega) fun sd h4 sd0 sd1 d4 f4 => ?_
  have f : G.Fr [s] h h4 := ((f1.trans f2).trans f3).trans f4
  have fin : ∀ (side : Bool) (acc : List PV), acc = (((List.range many).map fun i : Nat => PV.int ((0 : Int) + i)).filter fun _ => true).map (fun p => match p with | .int i => PV.str (wordAt side sh start (1 + 2 * t) i.toNat) | _ => .non) → ∀ D, h4 D = none → ∃ h5, G.Sub h5 (up h4 D (.lst acc)) ∧ Q (.ref D) h5 := fun side acc e D nD => by
    refine ⟨_, G.Sub.refl _, ?_⟩
    have e2 : acc = ((List.range many).map (wordAt side sh start (1 + 2 * t))).map .str := by
      rw [e, List.filter_eq_self.mpr (by simp), List.map_map, List.map_map]
      refine List.map_congr_left fun i _ => ?_
      simp
    rw [e2]
    exact q _ D h4 (by simp) (words_nd t0 t1 hm) (fun x hx => by
      obtain ⟨i, _, rfl⟩ := List.mem_map.mp hx
      exact word_ok hsh) (fun x hx => by
      obtain ⟨i, _, rfl⟩ := List.mem_map.mp hx
      exact word_nou hsh) d4 f nD
  have one : ∀ (i : Nat), (start + ((0 : Int) + i) * (1 + 2 * t)) % 26 = (start + i * (1 + 2 * t)) % 26 := fun i => by rw [Int.zero_add]
  by_cases hs0 : sd = 0
  · dsimp! [hs0]
    refine ⟨by omega, by omega, ?_⟩
    refine lcP_R (fun _ => true) (fun p => match p with | .int i => PV.str (wordAt true sh start (1 + 2 * t) i.toNat) | _ => .non) (by rw [sizeLine_eq]; omega) (fun i hi R acc r => ?_) ?_
    · rw [if_pos rfl] at r
      have b0 := Int.emod_nonneg (start + ((0 : Int) + i) * (1 + 2 * t)) (b := 26) (by omega)
      have b1 := Int.emod_lt_of_pos (start + ((0 : Int) + i) * (1 + 2 * t)) (b := 26) (by omega)
      dsimp! []
      refine ⟨mulR ⟨by omega, by omega⟩, by decide, _, by decide, abc_at b0 b1, by rw [sizeLine_eq]; simp; omega, ?_⟩
      have e : (sh ++ [97 + ((start + ((0 : Int) + i) * (1 + 2 * t)) % 26).toNat]) = wordAt true sh start (1 + 2 * t) ((0 : Int) + i).toNat := by
        unfold wordAt; rw [if_pos rfl]; simp
      rw [e]; exact r
    · exact fin true _ (by simp)
  · dsimp! [hs0]
    refine ⟨by omega, by omega, ?_⟩
    refine lcP_R (fun _ => true) (fun p => match p with | .int i => PV.str (wordAt false sh start (1 + 2 * t) i.toNat) | _ => .non) (by rw [sizeLine_eq]; omega) (fun i hi R acc r => ?_) ?_
    · rw [if_pos rfl] at r
      have b0 := Int.emod_nonneg (start + ((0 : Int) + i) * (1 + 2 * t)) (b := 26) (by omega)
      have b1 := Int.emod_lt_of_pos (start + ((0 : Int) + i) * (1 + 2 * t)) (b := 26) (by omega)
      dsimp! []
      refine ⟨mulR ⟨by omega, by omega⟩, by decide, _, by decide, abc_at b0 b1, by rw [sizeLine_eq]; omega, ?_⟩
      have e : ((97 + ((start + ((0 : Int) + i) * (1 + 2 * t)) % 26).toNat) :: sh) = wordAt false sh start (1 + 2 * t) ((0 : Int) + i).toNat := by
        unfold wordAt; rw [if_neg Bool.false_ne_true]; simp
      rw [e]; exact r
    · exact fin false _ (by simp)
theorem c_words {k : Nat} (hk : 2 ≤ k) {a s : Addr} {ns : List Int} {many : Nat} {h : PH} {Q : QV} (d : DS a ns s h) (hm : many ≤ 26)
    (q : ∀ (ws : List (List Nat)) p h', ws.length = many → ws.Nodup → (∀ x ∈ ws, okS x = true) → DS a ns s h' → G.Fr [s] h h' → h' p = none → Q (.ref p) (up h' p (.lst (ws.map .str)))) : (wC cl k)._law_words [.ref s, .int many] h Q :=
  c_words2 hk d hm fun ws p h' a b c _ e f g => q ws p h' a b c e f g

/-! ### expressions -/
inductive Op2 | plus | minus | least | greatest
  deriving DecidableEq
inductive Sg | lt | le | gt | ge | eq | ne
  deriving DecidableEq
inductive Ex
  | num (n : Int) | ctr (c : Int) | cell (x : List Nat) (os : List Int) | neg (a : Ex) | scl (n : Int) (a : Ex) | bin (o : Op2) (a b : Ex) | pick (s : Sg) (a b c d : Ex)
def Op2.cs : Op2 → List Nat
  | .plus => ([112, 108, 117, 115] : List Nat) | .minus => ([109, 105, 110, 117, 115] : List Nat) | .least => ([108, 101, 97, 115, 116] : List Nat) | .greatest => ([103, 114, 101, 97, 116, 101, 115, 116] : List Nat)
def Sg.cs : Sg → List Nat
  | .lt => ([60] : List Nat) | .le => ([60, 61] : List Nat) | .gt => ([62] : List Nat) | .ge => ([62, 61] : List Nat) | .eq => ([61, 61] : List Nat) | .ne => ([33, 61] : List Nat)
def Ex.P : Ex → PV
  | .num n => .tup [(PV.str [110, 117, 109, 98, 101, 114]), .int n]
  | .ctr n => .tup [(PV.str [99, 111, 117, 110, 116, 101, 114]), .int n]
  | .cell x os => .tup [(PV.str [99, 101, 108, 108]), .str x, .tup (os.map .int)]
  | .neg a => .tup [(PV.str [110, 101, 103, 97, 116, 101]), a.P]
  | .scl n a => .tup [(PV.str [115, 99, 97, 108, 101]), .int n, a.P]
  | .bin o a b => .tup [.str o.cs, a.P, b.P]
  | .pick s a b c d => .tup [(PV.str [112, 105, 99, 107]), .str s.cs, a.P, b.P, c.P, d.P]
def Ex.dep : Ex → Nat
  | .num _ => 0
  | .ctr _ => 0
  | .cell _ _ => 0
  | .neg a => a.dep + 1
  | .scl _ a => a.dep + 1
  | .bin _ a b => max a.dep b.dep + 1
  | .pick _ a b c d => max (max a.dep b.dep) (max c.dep d.dep) + 1
/-- the references, each with its offsets, keep F; the numbers lie within a word -/
def Ex.Al (F : List Nat → List Int → Prop) : Ex → Prop
  | .num n => -1000000 < n ∧ n < 1000000
  | .ctr n => -1000000 < n ∧ n < 1000000
  | .cell x os => F x os
  | .neg a => a.Al F
  | .scl n a => (-1000000 < n ∧ n < 1000000) ∧ a.Al F
  | .bin _ a b => a.Al F ∧ b.Al F
  | .pick _ a b c d => a.Al F ∧ b.Al F ∧ c.Al F ∧ d.Al F
theorem Ex.Al.mono {F G : List Nat → List Int → Prop} (i : ∀ x os, F x os → G x os) : ∀ {e : Ex}, e.Al F → e.Al G
  | .num _, h => h
  | .ctr _, h => h
  | .cell _ _, h => i _ _ h
  | .neg a, h => Ex.Al.mono (e := a) i h
  | .scl _ a, h => ⟨h.1, Ex.Al.mono (e := a) i h.2⟩
  | .bin _ a b, h => ⟨Ex.Al.mono (e := a) i h.1, Ex.Al.mono (e := b) i h.2⟩
  | .pick _ a b c d, h => ⟨Ex.Al.mono (e := a) i h.1, Ex.Al.mono (e := b) i h.2.1, Ex.Al.mono (e := c) i h.2.2.1, Ex.Al.mono (e := d) i h.2.2.2⟩
/-- a reference that is well formed -/
def refOk (x : List Nat) (os : List Int) : Prop := okS x = true ∧ os.length ≤ 1000
abbrev Ex.wf (e : Ex) : Prop := e.Al refOk
theorem dats_ints : ∀ os : List Int, dats (os.map .int) = true
  | [] => rfl
  | o :: os => by simp [dats, dat, dats_ints os]
theorem okS_dat {x : List Nat} (h : okS x = true) : dat (.str x) = true := by
  unfold okS at h
  simp only [Bool.and_eq_true] at h
  simpa [dat] using h.2
theorem op_dat (o : Op2) : dat (.str o.cs) = true := by cases o <;> decide
theorem sg_dat (o : Sg) : dat (.str o.cs) = true := by cases o <;> decide
theorem Ex.dat : ∀ {e : Ex}, e.wf → dat e.P = true
  | .num _, h => by simp [Ex.P, K81.dat, K81.dats]
  | .ctr _, h => by simp [Ex.P, K81.dat, K81.dats]
  | .cell x os, h => by
    have h1 := okS_dat h.1
    have h2 : os.length ≤ 1000000 := by have := h.2; omega
    simp only [Ex.P, K81.dat, K81.dats, List.length_cons, List.length_nil, List.length_map, dats_ints, Bool.and_true, Bool.true_and, Bool.and_eq_true, decide_eq_true_eq] at h1 ⊢
    exact ⟨by decide, by decide, h1, h2⟩
  | .neg a, h => by
    have := Ex.dat (e := a) h
    simp [Ex.P, K81.dat, K81.dats, this]
  | .scl _ a, h => by
    have := Ex.dat (e := a) h.2
    simp [Ex.P, K81.dat, K81.dats, this]
  | .bin o a b, h => by
    have h1 := Ex.dat (e := a) h.1
    have h2 := Ex.dat (e := b) h.2
    have h3 := op_dat o
    simp only [Ex.P, K81.dats, h1, h2, h3, K81.dat, List.length_cons, List.length_nil, Bool.and_true] at h3 ⊢
    simp [h3]
  | .pick s a b c d, h => by
    have h1 := Ex.dat (e := a) h.1
    have h2 := Ex.dat (e := b) h.2.1
    have h4 := Ex.dat (e := c) h.2.2.1
    have h5 := Ex.dat (e := d) h.2.2.2
    have h3 := sg_dat s
    simp only [Ex.P, K81.dats, h1, h2, h4, h5, h3, K81.dat, List.length_cons, List.length_nil, Bool.and_true] at h3 ⊢
    simp [h3]
theorem dps_ints : ∀ os : List Int, PV.dps (os.map .int) = 0
  | [] => rfl
  | o :: os => by simp [PV.dps, PV.dp, dps_ints os]
theorem Ex.dp : ∀ e : Ex, e.P.dp ≤ e.dep + 2
  | .num _ => by simp [Ex.P, PV.dp, PV.dps]
  | .ctr _ => by simp [Ex.P, PV.dp, PV.dps]
  | .cell x os => by simp [Ex.P, PV.dp, PV.dps, dps_ints]
  | .neg a => by
    have := Ex.dp a
    simp only [Ex.P, PV.dp, PV.dps, Ex.dep]; omega
  | .scl _ a => by
    have := Ex.dp a
    simp only [Ex.P, PV.dp, PV.dps, Ex.dep]; omega
  | .bin o a b => by
    have := Ex.dp a
    have := Ex.dp b
    simp only [Ex.P, PV.dp, PV.dps, Ex.dep]; omega
  | .pick s a b c d => by
    have := Ex.dp a
    have := Ex.dp b
    have := Ex.dp c
    have := Ex.dp d
    simp only [Ex.P, PV.dp, PV.dps, Ex.dep]; omega

/-! ### the world of a table -/
structure Wd where
  over : List (List Nat)
  many : Nat
  rn : List (List Nat)
  gn : List (List Nat)
  most : Int
  row : Option (List Int)
  nums : List Nat → Int
  least : Int
  name : List Nat
/-- where it lies -/
structure Wa where
  w : Addr
  r : Addr
  g : Addr
  row : Addr
  nums : Addr
structure Wd.ok (W : Wd) : Prop where
  many : 1 ≤ W.many ∧ W.many ≤ 3
  rn : W.rn ≠ [] ∧ W.rn.length ≤ 20
  gn : W.gn.length ≤ 20
  rs : ∀ x ∈ W.rn, okS x = true
  gs : ∀ x ∈ W.gn, okS x = true
  most : 0 ≤ W.most ∧ W.most ≤ 10
/-- the offsets' slope along the row -/
def slo (row os : List Int) : Int := (List.zipWith (· * ·) row os).sum
/-- what a reference keeps -/
def Wd.Ref (W : Wd) (x : List Nat) (os : List Int) : Prop :=
  (x ∈ W.gn ∧ os.length = W.many ∧ ∀ o ∈ os, -2 ≤ o ∧ o ≤ 2) ∨ (x ∈ W.rn ∧ os.length = W.many ∧ (∀ o ∈ os, -W.most ≤ o ∧ o ≤ W.most) ∧ ∀ row, W.row = some row → slo row os + W.nums x - W.nums W.name ≤ W.least)
structure RowAt (W : Wd) (A : Wa) (kvs : List (PV × PV)) (h : PH) (row : List Int) : Prop where
  at_ : dget kvs (PV.str [114, 111, 119]) = some (.ref A.row)
  lst : h A.row = some (.lst (row.map .int))
  len : row.length = W.many
  nat : dget kvs (PV.str [110, 117, 109, 98, 101, 114, 115]) = some (.ref A.nums)
  dic : ∃ nk, h A.nums = some (.dic false none nk) ∧ ∀ x ∈ W.rn, dget nk (.str x) = some (.int (W.nums x))
  least : dget kvs (PV.str [108, 101, 97, 115, 116]) = some (.int W.least)
/-- the world stands in the heap, but for its room and name -/
structure WB (W : Wd) (A : Wa) (h : PH) (kvs : List (PV × PV)) : Prop where
  dic : h A.w = some (.dic false none kvs)
  len : kvs.length ≤ 20
  many : dget kvs (PV.str [109, 97, 110, 121]) = some (.int W.many)
  most : dget kvs (PV.str [109, 111, 115, 116]) = some (.int W.most)
  rule : dget kvs (PV.str [114, 117, 108, 101, 95, 110, 97, 109, 101, 115]) = some (.ref A.r)
  given : dget kvs (PV.str [103, 105, 118, 101, 110, 95, 110, 97, 109, 101, 115]) = some (.ref A.g)
  rl : h A.r = some (.lst (W.rn.map .str))
  gl : h A.g = some (.lst (W.gn.map .str))
  over : dget kvs (PV.str [111, 118, 101, 114]) = some (.tup (W.over.map .str))
  row : (W.row = none → dget kvs (PV.str [114, 111, 119]) = some .non) ∧ ∀ row, W.row = some row → RowAt W A kvs h row
structure WH (W : Wd) (A : Wa) (h : PH) (kvs : List (PV × PV)) : Prop extends WB W A h kvs where
  room : ∃ r, dget kvs (PV.str [114, 111, 111, 109]) = some (.int r)
  name : dget kvs (PV.str [110, 97, 109, 101]) = some (.str W.name)
  mem : W.name ∈ W.rn
/-- the parts lie apart -/
structure Wa.ok (A : Wa) (s a : Addr) : Prop where
  w : A.w ≠ s ∧ A.w ≠ a
  r : A.r ≠ s ∧ A.r ≠ A.w
  g : A.g ≠ s ∧ A.g ≠ A.w
  row : A.row ≠ s ∧ A.row ≠ A.w
  nums : A.nums ≠ s ∧ A.nums ≠ A.w
/-- other heaps that keep the parts -/
theorem WB.to {W : Wd} {A : Wa} {h h' : PH} {kvs : List (PV × PV)} (w : WB W A h kvs) (e0 : h' A.w = h A.w) (e1 : h' A.r = h A.r) (e2 : h' A.g = h A.g) (e3 : h' A.row = h A.row) (e4 : h' A.nums = h A.nums) : WB W A h' kvs :=
  ⟨e0.trans w.dic, w.len, w.many, w.most, w.rule, w.given, e1.trans w.rl, e2.trans w.gl, w.over, w.row.1, fun row h => by
    have r := w.row.2 row h
    obtain ⟨nk, n1, n2⟩ := r.dic
    exact ⟨r.at_, e3.trans r.lst, r.len, r.nat, ⟨nk, e4.trans n1, n2⟩, r.least⟩⟩
theorem WB.fr {W : Wd} {A : Wa} {s a : Addr} {h h' : PH} {kvs : List (PV × PV)} (o : A.ok s a) (w : WB W A h kvs) (f : G.Fr [s] h h') : WB W A h' kvs := by
  have e : ∀ b, b ≠ s → h' b = h b := fun b n => f b (by simpa using n)
  exact w.to (e _ o.w.1) (e _ o.r.1) (e _ o.g.1) (e _ o.row.1) (e _ o.nums.1)
theorem WH.fr {W : Wd} {A : Wa} {s a : Addr} {h h' : PH} {kvs : List (PV × PV)} (o : A.ok s a) (w : WH W A h kvs) (f : G.Fr [s] h h') : WH W A h' kvs := ⟨w.toWB.fr o f, w.room, w.name, w.mem⟩
/-- .. that keep all that is there -/
theorem WB.kp {W : Wd} {A : Wa} {h h' : PH} {kvs : List (PV × PV)} (w : WB W A h kvs) (k : ∀ b o, h b = some o → h' b = some o) : WB W A h' kvs :=
  ⟨k _ _ w.dic, w.len, w.many, w.most, w.rule, w.given, k _ _ w.rl, k _ _ w.gl, w.over, w.row.1, fun row h => by
    have r := w.row.2 row h
    obtain ⟨nk, n1, n2⟩ := r.dic
    exact ⟨r.at_, k _ _ r.lst, r.len, r.nat, ⟨nk, k _ _ n1, n2⟩, r.least⟩⟩
theorem keep_new {h : PH} {p : Addr} {x : PO} (n : h p = none) : ∀ b o, h b = some o → up h p x b = some o := fun b o e => by
  rw [up_ne (by rintro rfl; rw [n] at e; cases e)]; exact e
theorem WB.put {W : Wd} {A : Wa} {p : Addr} {h : PH} {kvs : List (PV × PV)} {x : PO} (w : WB W A h kvs) (n : h p = none) : WB W A (up h p x) kvs := w.kp (keep_new n)
theorem WH.put {W : Wd} {A : Wa} {s a p : Addr} {h : PH} {kvs : List (PV × PV)} {x : PO} (o : A.ok s a) (w : WH W A h kvs) (n : h p = none) : WH W A (up h p x) kvs := ⟨w.toWB.put n, w.room, w.name, w.mem⟩
theorem wb_back {W : Wd} {A : Wa} {s a : Addr} {h h' : PH} {kvs kvs' : List (PV × PV)} (o : A.ok s a) (w : WB W A h kvs) (w' : WB W A h' kvs') : WB W A (G.back [s, A.w] h h') kvs' := by
  have e : ∀ {b : Addr}, b ≠ s → b ≠ A.w → G.back [s, A.w] h h' b = h b := fun {b} n1 n2 => back_fr (M := [s, A.w]) b (by simp [n1, n2])
  exact ⟨(back_in (by simp)).trans w'.dic, w'.len, w'.many, w'.most, w'.rule, w'.given, (e o.r.1 o.r.2).trans w.rl, (e o.g.1 o.g.2).trans w.gl, w'.over, w'.row.1, fun row h => by
    have r := w.row.2 row h
    have r' := w'.row.2 row h
    obtain ⟨nk, n1, n2⟩ := r.dic
    exact ⟨r'.at_, (e o.row.1 o.row.2).trans r.lst, r.len, r'.nat, ⟨nk, (e o.nums.1 o.nums.2).trans n1, n2⟩, r'.least⟩⟩
theorem wh_back {W : Wd} {A : Wa} {s a : Addr} {h h' : PH} {kvs kvs' : List (PV × PV)} (o : A.ok s a) (w : WH W A h kvs) (w' : WH W A h' kvs') : WH W A (G.back [s, A.w] h h') kvs' := ⟨wb_back o w.toWB w'.toWB, w'.room, w'.name, w'.mem⟩
theorem ds_back2 {a s w : Addr} {ns : List Int} {h h' : PH} (d : DS a ns s h) (d' : DS a ns s h') (n : w ≠ a) : DS a ns s (G.back [s, w] h h') := d.back d' (by simp) (by have := d.1; simp [this, n.symm])
/-- another entry, of none of these names -/
theorem WB.puts {W : Wd} {A : Wa} {s a : Addr} {h : PH} {kvs : List (PV × PV)} {k v : PV} (o : A.ok s a) (w : WB W A h kvs) (hl : (dput kvs k v).length ≤ 20) (hk : k ∈ [(PV.str [114, 111, 111, 109]), (PV.str [110, 97, 109, 101]), (PV.str [112, 111, 111, 108])]) : WB W A (up h A.w (.dic false none (dput kvs k v))) (dput kvs k v) := by
  have g : ∀ {k' : PV} {v' : PV}, k' ∈ [(PV.str [111, 118, 101, 114]), (PV.str [109, 97, 110, 121]), (PV.str [109, 111, 115, 116]), (PV.str [114, 117, 108, 101, 95, 110, 97, 109, 101, 115]), (PV.str [103, 105, 118, 101, 110, 95, 110, 97, 109, 101, 115]), (PV.str [114, 111, 119]), (PV.str [110, 117, 109, 98, 101, 114, 115]), (PV.str [108, 101, 97, 115, 116])] → dget kvs k' = some v' → dget (dput kvs k v) k' = some v' := fun {k' v'} m e => by
    rw [dget_dput, if_neg (by rintro rfl; simp only [List.mem_cons, List.not_mem_nil, or_false] at hk; rcases hk with rfl | rfl | rfl <;> revert m <;> decide)]; exact e
  refine ⟨up_same, hl, g (by simp) w.many, g (by simp) w.most, g (by simp) w.rule, g (by simp) w.given, by rw [up_ne o.r.2]; exact w.rl, by rw [up_ne o.g.2]; exact w.gl, g (by simp) w.over, fun e => g (by simp) (w.row.1 e), fun row h => ?_⟩
  have r := w.row.2 row h
  obtain ⟨nk, n1, n2⟩ := r.dic
  exact ⟨g (by simp) r.at_, by rw [up_ne o.row.2]; exact r.lst, r.len, g (by simp) r.nat, ⟨nk, by rw [up_ne o.nums.2]; exact n1, n2⟩, g (by simp) r.least⟩
theorem WB.nm {W : Wd} {A : Wa} {h : PH} {kvs : List (PV × PV)} (w : WB W A h kvs) (x : List Nat) : WB { W with name := x } A h kvs :=
  ⟨w.dic, w.len, w.many, w.most, w.rule, w.given, w.rl, w.gl, w.over, w.row.1, fun row h => by
    have r := w.row.2 row h
    exact ⟨r.at_, r.lst, r.len, r.nat, r.dic, r.least⟩⟩
theorem WB.nm' {W : Wd} {A : Wa} {h : PH} {kvs : List (PV × PV)} {x : List Nat} (w : WB { W with name := x } A h kvs) : WB W A h kvs :=
  ⟨w.dic, w.len, w.many, w.most, w.rule, w.given, w.rl, w.gl, w.over, w.row.1, fun row h => by
    have r := w.row.2 row h
    exact ⟨r.at_, r.lst, r.len, r.nat, r.dic, r.least⟩⟩
theorem Wd.ok.nm {W : Wd} (o : W.ok) (x : List Nat) : ({ W with name := x } : Wd).ok := ⟨o.many, o.rn, o.gn, o.rs, o.gs, o.most⟩
/-- something written that was not there at the start -/
theorem WB.put0 {W : Wd} {A : Wa} {p : Addr} {h0 h : PH} {kvs0 kvs : List (PV × PV)} {x : PO} (w0 : WB W A h0 kvs0) (w : WB W A h kvs) (n : h0 p = none) : WB W A (up h p x) kvs := by
  have ne : ∀ {b : Addr} {o : PO}, h0 b = some o → b ≠ p := fun {b o} e z => by rw [z, n] at e; cases e
  exact ⟨by rw [up_ne (ne w0.dic)]; exact w.dic, w.len, w.many, w.most, w.rule, w.given, by rw [up_ne (ne w0.rl)]; exact w.rl, by rw [up_ne (ne w0.gl)]; exact w.gl, w.over, w.row.1, fun row h => by
    have r0 := w0.row.2 row h
    have r := w.row.2 row h
    obtain ⟨nk, n1, n2⟩ := r.dic
    obtain ⟨nk0, n3, _⟩ := r0.dic
    exact ⟨r.at_, by rw [up_ne (ne r0.lst)]; exact r.lst, r.len, r.nat, ⟨nk, by rw [up_ne (ne n3)]; exact n1, n2⟩, r.least⟩⟩
/-- room and name are set -/
theorem WB.turn {W : Wd} {A : Wa} {s a : Addr} {h : PH} {kvs : List (PV × PV)} {r : Int} {nm : List Nat} (o : A.ok s a) (w : WB W A h kvs) (l : kvs.length ≤ 15 ∨ ((∃ v, dget kvs (PV.str [114, 111, 111, 109]) = some v) ∧ ∃ v, dget kvs (PV.str [110, 97, 109, 101]) = some v)) (m : nm ∈ W.rn) :
    WH { W with name := nm } A (up h A.w (.dic false none (dput (dput kvs (PV.str [114, 111, 111, 109]) (.int r)) (PV.str [110, 97, 109, 101]) (.str nm)))) (dput (dput kvs (PV.str [114, 111, 111, 109]) (.int r)) (PV.str [110, 97, 109, 101]) (.str nm)) ∧ (dput kvs (PV.str [114, 111, 111, 109]) (.int r)).length < sizeLine := by
  have l1 : (dput kvs (PV.str [114, 111, 111, 109]) (.int r)).length ≤ 20 ∧ (dput (dput kvs (PV.str [114, 111, 111, 109]) (.int r)) (PV.str [110, 97, 109, 101]) (.str nm)).length ≤ 20 := by
    rcases l with l | ⟨⟨v, e⟩, v', e'⟩
    · have := len_dput kvs (PV.str [114, 111, 111, 109]) (.int r)
      have := len_dput (dput kvs (PV.str [114, 111, 111, 109]) (.int r)) (PV.str [110, 97, 109, 101]) (.str nm)
      omega
    · have h1 := len_dput_old (v := .int r) e
      have h2 := len_dput_old (v := .str nm) (show dget (dput kvs (PV.str [114, 111, 111, 109]) (.int r)) (PV.str [110, 97, 109, 101]) = some v' by rw [dget_dput, if_neg (by decide)]; exact e')
      have := w.len
      omega
  have w1 := w.puts o (k := (PV.str [114, 111, 111, 109])) (v := .int r) l1.1 (by simp)
  have w2 := w1.puts o (k := (PV.str [110, 97, 109, 101])) (v := .str nm) l1.2 (by simp)
  rw [up_up] at w2
  refine ⟨⟨w2.nm nm, ⟨r, ?_⟩, by rw [dget_dput, if_pos rfl], m⟩, by rw [sizeLine_eq]; omega⟩
  rw [dget_dput, if_neg (by decide), dget_dput, if_pos rfl]
/-- another room -/
theorem WH.roomed {W : Wd} {A : Wa} {s a : Addr} {h : PH} {kvs : List (PV × PV)} (o : A.ok s a) (w : WH W A h kvs) (z : Int) : WH W A (up h A.w (.dic false none (dput kvs (PV.str [114, 111, 111, 109]) (.int z)))) (dput kvs (PV.str [114, 111, 111, 109]) (.int z)) := by
  obtain ⟨r0, e0⟩ := w.room
  exact ⟨w.toWB.puts o (by rw [len_dput_old e0]; exact w.len) (by simp), ⟨z, by rw [dget_dput, if_pos rfl]⟩, by rw [dget_dput, if_neg (by decide)]; exact w.name, w.mem⟩
theorem slo_take {row os : List Int} (hl : row.length = os.length) : ((List.range os.length).map fun i => (row.getD i 0) * (os.getD i 0)).sum = slo row os := by
  unfold slo
  congr 1
  apply List.ext_getElem
  · simp [hl]
  · intro i h1 h2
    simp only [List.getElem_map, List.getElem_range, List.getElem_zipWith]
    simp only [List.length_map, List.length_range] at h1
    rw [List.getD_eq_getElem?_getD, List.getD_eq_getElem?_getD, List.getElem?_eq_getElem (by omega), List.getElem?_eq_getElem (by omega)]
    rfl
theorem ints_map : ∀ l : List Int, intsP (l.map .int) = some l
  | [] => rfl
  | x :: l => by simp [intsP, ints_map l]

theorem c_slope {k : Nat} (hk : 1 ≤ k) {W : Wd} {A : Wa} {h : PH} {Q : QV} {kvs : List (PV × PV)} {row os : List Int} {x y : List Nat} (w : WH W A h kvs) (hr : W.row = some row) (hx : x ∈ W.rn) (hy : y ∈ W.rn) (ho : os.length = W.many) (hm : W.many ≤ 3)
    (hb : ∀ o ∈ os, -(10 : Int) ≤ o ∧ o ≤ 10) (q : Q (.int (slo row os + W.nums y - W.nums x)) h) : (wC cl k)._law_slope [.ref A.w, .str x, .str y, .tup (os.map .int)] h Q := by
  obtain ⟨k, rfl⟩ : ∃ j, k = j + 1 := ⟨k - 1, by omega⟩
  show zFn _ _ (b__law_slope cl (wC cl k)) _ h Q
  unfold b__law_slope
  have r := w.row.2 row hr
  obtain ⟨nk, n1, n2⟩ := r.dic
  have hrl := r.len
  have ko : keyOk false (PV.str [114, 111, 119]) = true := rfl
  have ko2 : keyOk false (PV.str [110, 117, 109, 98, 101, 114, 115]) = true := rfl
  have ko3 : ∀ z, keyOk false (.str z) = true := fun _ => rfl
  dsimp! [List.length_map]
  refine ⟨by omega, by omega, ?_⟩
  refine lcP_R (fun _ => true) (fun p => match p with | .int i => PV.int (row.getD i.toNat 0 * os.getD i.toNat 0) | _ => .non) (by rw [sizeLine_eq]; omega) (fun i hi R acc h1 => ?_) ?_
  · rw [if_pos rfl] at h1
    have hi' : i < os.length := by omega
    dsimp! [w.dic, ko, r.at_, r.lst, Int.zero_add, atN, List.getElem?_map, List.getElem?_eq_getElem hi', List.getElem?_eq_getElem (show i < row.length by omega), Option.map_some]
    refine ⟨mulL ?_, ?_⟩
    · have := hb _ (List.getElem_mem hi'); omega
    · have e : row[i]'(by omega) * os[i] = row.getD i 0 * os.getD i 0 := by
        rw [List.getD_eq_getElem?_getD, List.getD_eq_getElem?_getD, List.getElem?_eq_getElem hi', List.getElem?_eq_getElem (show i < row.length by omega)]; rfl
      simp only [Int.zero_add, Int.toNat_natCast] at h1
      rw [e]; exact h1
  · intro D nD
    have e1 : (((List.range ((os.length : Nat) : Int).toNat).map fun i : Nat => PV.int ((0 : Int) + i)).filter fun _ => true).map (fun p => match p with | .int i => PV.int (row.getD i.toNat 0 * os.getD i.toNat 0) | _ => .non) = ((List.range os.length).map fun i => row.getD i 0 * os.getD i 0).map .int := by
      rw [List.filter_eq_self.mpr (by simp), List.map_map, List.map_map]
      simp
    have hDw : A.w ≠ D := by rintro rfl; rw [w.dic] at nD; cases nD
    have hDn : A.nums ≠ D := by rintro rfl; rw [n1] at nD; cases nD
    rw [e1]
    dsimp! [ints_map, up_ne hDw, up_ne hDn, w.dic, ko2, ko3, r.nat, n1, n2 x hx, n2 y hy]
    rw [slo_take (by omega)]
    exact ⟨h, back_self nD, q⟩

theorem empty_lst (l : List (List Nat)) : decide (l.map PV.str = ([] : List PV)) = l.isEmpty := by cases l <;> simp
theorem pls_strs {l : List (List Nat)} (h : ∀ x ∈ l, okS x = true) : PV.pls (l.map .str) = true ∧ PV.dps (l.map .str) = 0 := by
  induction l with
  | nil => exact ⟨rfl, rfl⟩
  | cons x l ih =>
    obtain ⟨i1, i2⟩ := ih fun y hy => h y (List.mem_cons_of_mem _ hy)
    have := dat_pl _ (okS_dat (h x List.mem_cons_self))
    exact ⟨by simp [PV.pls, this, i1], by simp [PV.dps, PV.dp, i2]⟩
/-- nothing but the room differs -/
def Rm (kvs kvs' : List (PV × PV)) : Prop := kvs'.length = kvs.length ∧ ∀ k, k ≠ (PV.str [114, 111, 111, 109]) → dget kvs' k = dget kvs k
theorem Rm.refl (kvs : List (PV × PV)) : Rm kvs kvs := ⟨rfl, fun _ _ => rfl⟩
theorem Rm.trans {a b c : List (PV × PV)} (x : Rm a b) (y : Rm b c) : Rm a c := ⟨y.1.trans x.1, fun k n => (y.2 k n).trans (x.2 k n)⟩
theorem Rm.room {kvs : List (PV × PV)} {v x : PV} (e : dget kvs (PV.str [114, 111, 111, 109]) = some x) : Rm kvs (dput kvs (PV.str [114, 111, 111, 109]) v) := ⟨len_dput_old e, fun k n => by rw [dget_dput, if_neg n]⟩

/-- from a state to a later one, s and the world changed -/
structure Gone (W : Wd) (A : Wa) (a : Addr) (ns : List Int) (s : Addr) (h h' : PH) (kvs' : List (PV × PV)) : Prop where
  d : DS a ns s h'
  w : WH W A h' kvs'
  k : Kp [s, A.w] h h'
theorem Gone.out {W : Wd} {A : Wa} {a s : Addr} {ns : List Int} {h h' : PH} {kvs kvs' : List (PV × PV)} {v : PV} {Q : QV} (d : DS a ns s h) (o : A.ok s a) (w : WH W A h kvs) (g : Gone W A a ns s h h' kvs')
    (q : ∀ h2, DS a ns s h2 → WH W A h2 kvs' → G.Fr [s, A.w] h h2 → Q v h2) : ∃ h2, G.Sub h2 h' ∧ Q v h2 := ⟨G.back [s, A.w] h h', back_sub g.k, q _ (ds_back2 d g.d o.w.2) (wh_back o w g.w) back_fr⟩
theorem Gone.fr {W : Wd} {A : Wa} {a s : Addr} {ns : List Int} {h h1 h2 : PH} {kvs : List (PV × PV)} (g : Gone W A a ns s h h1 kvs) (o : A.ok s a) (d : DS a ns s h2) (f : G.Fr [s] h1 h2) : Gone W A a ns s h h2 kvs :=
  ⟨d, g.w.fr o f, g.k.trans fun b o' n e => (f b (by simp at n ⊢; exact n.1)).trans e⟩
theorem Gone.fr2 {W : Wd} {A : Wa} {a s : Addr} {ns : List Int} {h h1 h2 : PH} {kvs kvs2 : List (PV × PV)} (g : Gone W A a ns s h h1 kvs) (d : DS a ns s h2) (w : WH W A h2 kvs2) (f : G.Fr [s, A.w] h1 h2) : Gone W A a ns s h h2 kvs2 :=
  ⟨d, w, g.k.trans f.kp⟩
theorem Gone.new {W : Wd} {A : Wa} {a s p : Addr} {ns : List Int} {h h1 : PH} {kvs : List (PV × PV)} {x : PO} (g : Gone W A a ns s h h1 kvs) (o : A.ok s a) (n : h1 p = none) : Gone W A a ns s h (up h1 p x) kvs :=
  ⟨g.d.new n, g.w.put o n, g.k.new n⟩
theorem op_at {v : Int} (h0 : 0 ≤ v) (h1 : v < 4) : ∃ o : Op2, atI [(PV.str [112, 108, 117, 115]), (PV.str [109, 105, 110, 117, 115]), (PV.str [108, 101, 97, 115, 116]), (PV.str [103, 114, 101, 97, 116, 101, 115, 116])] v = some (.str o.cs) := by
  rcases (show v = 0 ∨ v = 1 ∨ v = 2 ∨ v = 3 by omega) with rfl | rfl | rfl | rfl
  · exact ⟨.plus, by rw [at0]; rfl⟩
  · exact ⟨.minus, by rw [at1]; rfl⟩
  · exact ⟨.least, by rw [at2]; rfl⟩
  · exact ⟨.greatest, by rw [at3]; rfl⟩
theorem sg_at {v : Int} (h0 : 0 ≤ v) (h1 : v < 6) : ∃ o : Sg, atI [(PV.str [60]), (PV.str [60, 61]), (PV.str [62]), (PV.str [62, 61]), (PV.str [61, 61]), (PV.str [33, 61])] v = some (.str o.cs) := by
  rcases (show v = 0 ∨ v = 1 ∨ v = 2 ∨ v = 3 ∨ v = 4 ∨ v = 5 by omega) with rfl | rfl | rfl | rfl | rfl | rfl
  · exact ⟨.lt, by rw [at0]; rfl⟩
  · exact ⟨.le, by rw [at1]; rfl⟩
  · exact ⟨.gt, by rw [at2]; rfl⟩
  · exact ⟨.ge, by rw [at3]; rfl⟩
  · exact ⟨.eq, by rw [at4]; rfl⟩
  · exact ⟨.ne, by rw [at5]; rfl⟩

theorem c_leaf {k : Nat} (hk : 4 ≤ k) {W : Wd} (ok : W.ok) {A : Wa} {s a : Addr} {ns : List Int} {h : PH} {Q : QV} {kvs : List (PV × PV)} (d : DS a ns s h) (o : A.ok s a) (w : WH W A h kvs)
    (q : ∀ (e : Ex) h' kvs', e.dep = 0 → e.Al W.Ref → DS a ns s h' → WH W A h' kvs' → G.Fr [s, A.w] h h' → Rm kvs kvs' → Q e.P h') : (wC cl k)._law_leaf [.ref s, .ref A.w] h Q := by
  obtain ⟨k, rfl⟩ : ∃ j, k = j + 1 := ⟨k - 1, by omega⟩
  show zFn _ _ (b__law_leaf cl (wC cl k)) _ h Q
  unfold b__law_leaf
  have kz : ∀ z, keyOk false (.str z) = true := fun _ => rfl
  have up2 : ∀ {g g' : PH}, G.Fr [s] g g' → Kp [s, A.w] g g' := fun f b o' n e => (f b (by simp at n ⊢; exact n.1)).trans e
  have som : ∀ (e : Ex) (h1 : PH) (kvs1 : List (PV × PV)), e.dep = 0 → e.Al W.Ref → DS a ns s h1 → WH W A h1 kvs1 → Kp [s, A.w] h h1 → Rm kvs kvs1 → ∃ h2, G.Sub h2 h1 ∧ Q e.P h2 := fun e h1 kvs1 x1 x2 x3 x4 x5 x6 =>
    ⟨G.back [s, A.w] h h1, back_sub x5, q e _ kvs1 x1 x2 (ds_back2 d x3 o.w.2) (wh_back o w x4) back_fr x6⟩
  -- a number that is drawn
  have num : ∀ {m : Int} {h1 : PH} {kvs1 : List (PV × PV)}, 0 < m → m ≤ 100 → DS a ns s h1 → WH W A h1 kvs1 → Kp [s, A.w] h h1 → Rm kvs kvs1 → (wC cl k)._law_draw [.ref s, .int m] h1 fun p h2 => 2 ≤ sizeLine ∧ ∃ h3, G.Sub h3 h2 ∧ Q (.tup [(PV.str [110, 117, 109, 98, 101, 114]), p]) h3 := fun {m h1 kvs1} m0 m1 d1 w1 f1 r1 =>
    c_draw (by omega) d1 m0 (by omega) fun v h2 v0 v1 d2 f2 => ⟨by decide, som (.num v) h2 kvs1 rfl ⟨by omega, by omega⟩ d2 (w1.fr o f2) (f1.trans (up2 f2)) r1⟩
  dsimp! []
  refine c_draw (by omega) d (by omega) (by omega) fun pick h1 p0 p1 d1 f1 => ?_
  have w1 := w.fr o f1
  have F1 := up2 f1
  rw [zSeq_x]; dsimp! []
  by_cases e0 : pick = 0
  · dsimp! [e0]
    exact num (by omega) (by omega) d1 w1 F1 (Rm.refl _)
  dsimp! [e0]
  rw [zSeq_x]; dsimp! []
  by_cases e1 : pick = 1
  · dsimp! [e1, w1.dic, kz, w1.many]
    have hm := ok.many
    refine c_draw (by omega) d1 (by omega) (by omega) fun v h2 v0 v1 d2 f2 => ?_
    exact ⟨by decide, som (.ctr v) h2 kvs rfl ⟨by omega, by omega⟩ d2 (w1.fr o f2) (F1.trans (up2 f2)) (Rm.refl _)⟩
  dsimp! [e1]
  -- is there room
  obtain ⟨room, hroom⟩ := w1.room
  refine zSeq_key (fun ρ' h' => ρ' = [some (.ref s), some (.ref A.w), some (.int pick), none, none] ∧ (pick = 2 → W.gn ≠ []) ∧ DS a ns s h' ∧ WH W A h' kvs ∧ Kp [s, A.w] h h') ?_ fun X kx => ?_
  rotate_left
  · dsimp! [w1.dic, kz, hroom]
    by_cases er : room = 0
    · dsimp! [er]
      exact num (by omega) (by omega) d1 w1 F1 (Rm.refl _)
    · simp only [er, decide_false, Bool.false_eq_true, if_false]
      by_cases e2 : pick = 2
      · simp only [e2, decide_true, if_true]
        dsimp! [w1.dic, kz, w1.given]
        refine ⟨by decide, fun p np => ?_⟩
        have gp : A.g ≠ p := by rintro rfl; rw [w1.gl] at np; cases np
        obtain ⟨g1, g2⟩ := pls_strs ok.gs
        have d2 := d1.new np (o := .lst [])
        have w2 := w1.put o np (x := .lst [])
        have f2 : Kp [s, A.w] h (up h1 p (.lst [])) := F1.new np
        dsimp! [up_ne gp, w1.gl, g1, g2, empty_lst]
        refine ⟨rfl, by decide, by decide, ?_⟩
        by_cases hge : W.gn = []
        · rw [hge, show ([] : List (List Nat)).isEmpty = true from rfl]
          dsimp! []
          exact num (by omega) (by omega) d2 w2 f2 (Rm.refl _)
        · rw [show W.gn.isEmpty = false by cases hq : W.gn <;> simp_all]
          dsimp! []
          exact kx _ _ ⟨by rw [e2], fun _ => hge, d2, w2, f2⟩
      · simp only [e2, decide_false, Bool.false_eq_true, if_false]
        exact kx _ _ ⟨rfl, fun z => absurd z e2, d1, w1, F1⟩
  rintro _ h2 ⟨rfl, hg, d2, w2, f2⟩
  obtain ⟨room2, hroom2⟩ := w2.room
  dsimp! [w2.dic, kz, hroom2]
  refine ⟨by have := w2.len; rw [sizeLine_eq]; omega, ?_⟩
  have w3 := w2.roomed o (room2 - 1)
  have r3 : Rm kvs (dput kvs (PV.str [114, 111, 111, 109]) (.int (room2 - 1))) := Rm.room hroom2
  have d3 : DS a ns s (up h2 A.w (.dic false none (dput kvs (PV.str [114, 111, 111, 109]) (.int (room2 - 1))))) := d2.put o.w.2 o.w.1
  have f3 : Kp [s, A.w] h (up h2 A.w (.dic false none (dput kvs (PV.str [114, 111, 111, 109]) (.int (room2 - 1))))) := f2.put (by simp)
  generalize up h2 A.w (.dic false none (dput kvs (PV.str [114, 111, 111, 109]) (.int (room2 - 1)))) = h3 at w3 d3 f3 ⊢
  generalize dput kvs (PV.str [114, 111, 111, 109]) (.int (room2 - 1)) = kvs3 at w3 r3 ⊢
  rw [zSeq_x]; dsimp! []
  have hmany := ok.many
  by_cases e2 : pick = 2
  · dsimp! [e2, w3.dic, kz, w3.given]
    have hge := hg e2
    refine c_one_of (by omega) d3 w3.gl (by simpa using hge) (by have := ok.gn; rw [List.length_map]; omega) o.g.1 fun x h4 hx d4 f4 => ?_
    obtain ⟨x, hx', rfl⟩ := List.mem_map.mp hx
    have w4 := w3.fr o f4
    dsimp! [w4.dic, kz, w4.many]
    refine c_offsets (by omega) d4 (by omega) (by omega) (by omega) fun os h5 l5 b5 d5 f5 => ?_
    refine ⟨by decide, som (.cell x os) h5 kvs3 rfl (.inl ⟨hx', l5, fun z hz => ?_⟩) d5 (w4.fr o f5) ((f3.trans (up2 f4)).trans (up2 f5)) r3⟩
    have := b5 z hz; omega
  dsimp! [e2, w3.dic, kz, w3.rule]
  refine c_one_of (by omega) d3 w3.rl (by simpa using ok.rn.1) (by have := ok.rn; rw [List.length_map]; omega) o.r.1 fun x h4 hx d4 f4 => ?_
  obtain ⟨x, hx', rfl⟩ := List.mem_map.mp hx
  have w4 := w3.fr o f4
  have hmost := ok.most
  dsimp! [w4.dic, kz, w4.many, w4.most]
  refine c_offsets (by omega) d4 (by omega) (by omega) (by omega) fun os h5 l5 b5 d5 f5 => ?_
  have w5 := w4.fr o f5
  have k5 := (f3.trans (up2 f4)).trans (up2 f5)
  rw [zSeq_x]
  dsimp! [w5.dic, kz]
  cases hrow : W.row with
  | none =>
    have hn := w5.row.1 hrow
    dsimp! [hn, Bool.not_true]
    exact ⟨by decide, som (.cell x os) h5 kvs3 rfl (.inr ⟨hx', l5, b5, fun row e => nomatch hrow.symm.trans e⟩) d5 w5 k5 r3⟩
  | some row =>
    have r := w5.row.2 row hrow
    dsimp! [r.at_, w5.name, Bool.not_false]
    refine c_slope (by omega) w5 hrow w5.mem hx' l5 (by omega) (fun z hz => by have := b5 z hz; omega) ?_
    dsimp! [w5.dic, kz, r.least]
    by_cases hs : W.least < slo row os + W.nums x - W.nums W.name
    · dsimp! [hs]
      exact num (by omega) (by omega) d5 w5 k5 r3
    · dsimp! [hs]
      exact ⟨by decide, som (.cell x os) h5 kvs3 rfl (.inr ⟨hx', l5, b5, fun row' e => by
        have e' : row = row' := by rw [hrow] at e; exact Option.some.inj e
        subst e'; omega⟩) d5 w5 k5 r3⟩

theorem c_some_part {W : Wd} (ok : W.ok) {A : Wa} {s a : Addr} {ns : List Int} (o : A.ok s a) : ∀ (n : Nat) {k : Nat}, n + 5 ≤ k → ∀ {h : PH} {Q : QV} {kvs : List (PV × PV)}, DS a ns s h → WH W A h kvs →
    (∀ (e : Ex) h' kvs', e.dep ≤ n → e.Al W.Ref → DS a ns s h' → WH W A h' kvs' → G.Fr [s, A.w] h h' → Q e.P h') → (wC cl k)._law_some_part [.ref s, .ref A.w, .int n] h Q := by
  intro n
  induction n with
  | zero =>
    intro k hk h Q kvs d w q
    obtain ⟨k, rfl⟩ : ∃ j, k = j + 1 := ⟨k - 1, by omega⟩
    show zFn _ _ (b__law_some_part cl (wC cl k)) _ h Q
    unfold b__law_some_part
    dsimp! []
    refine c_draw (by omega) d (by omega) (by omega) fun pick h1 p0 p1 d1 f1 => ?_
    rw [zSeq_x]; dsimp! [Int.natCast_zero]
    refine c_leaf (by omega) ok d1 o (w.fr o f1) fun e h2 kvs2 e1 e2 d2 w2 f2 _ => ⟨h2, G.Sub.refl _, q e h2 kvs2 (by omega) e2 d2 w2 fun b nb => (f2 b nb).trans (f1 b (by simp at nb ⊢; exact nb.1))⟩
  | succ n ih =>
    intro k hk h Q kvs d w q
    obtain ⟨k, rfl⟩ : ∃ j, k = j + 1 := ⟨k - 1, by omega⟩
    show zFn _ _ (b__law_some_part cl (wC cl k)) _ h Q
    unfold b__law_some_part
    have hn0 : ¬ ((n + 1 : Nat) : Int) = 0 := by omega
    have hn1 : ((n + 1 : Nat) : Int) - 1 = (n : Int) := by omega
    have fin : ∀ {e : Ex} {h1 : PH} {kvs1 : List (PV × PV)}, e.dep ≤ n + 1 → e.Al W.Ref → Gone W A a ns s h h1 kvs1 → ∃ h2, G.Sub h2 h1 ∧ Q e.P h2 := fun {e h1 kvs1} x1 x2 g => g.out d o w fun h2 y1 y2 y3 => q e h2 kvs1 x1 x2 y1 y2 y3
    dsimp! []
    refine c_draw (by omega) d (by omega) (by omega) fun pick h1 p0 p1 d1 f1 => ?_
    have g1 : Gone W A a ns s h h1 kvs := Gone.fr ⟨d, w, Kp.refl _ _⟩ o d1 f1
    rw [zSeq_x]; dsimp! [hn0]
    by_cases e0 : pick < 4
    · dsimp! [e0]
      exact c_leaf (by omega) ok d1 o g1.w fun e h2 kvs2 e1 e2 d2 w2 f2 _ => fin (by omega) e2 (g1.fr2 d2 w2 f2)
    dsimp! [e0]
    rw [zSeq_x]; dsimp! []
    by_cases e1 : pick = 4
    · dsimp! [e1, hn1]
      exact ih (by omega) d1 g1.w fun e h2 kvs2 x1 x2 d2 w2 f2 => ⟨by decide, fin (e := .neg e) (by simp only [Ex.dep]; omega) x2 (g1.fr2 d2 w2 f2)⟩
    dsimp! [e1]
    rw [zSeq_x]; dsimp! []
    by_cases e2 : pick = 5
    · dsimp! [e2, hn1]
      refine c_draw (by omega) d1 (by omega) (by omega) fun v h2 v0 v1 d2 f2 => ?_
      have g2 := g1.fr o d2 f2
      exact ih (by omega) d2 g2.w fun e h3 kvs3 x1 x2 d3 w3 f3 => ⟨by decide, fin (e := .scl v e) (by simp only [Ex.dep]; omega) ⟨⟨by omega, by omega⟩, x2⟩ (g2.fr2 d3 w3 f3)⟩
    dsimp! [e2, hn1]
    refine ih (by omega) d1 g1.w fun ea h2 kvs2 a1 a2 d2 w2 f2 => ?_
    have g2 := g1.fr2 d2 w2 f2
    refine ih (by omega) d2 w2 fun eb h3 kvs3 b1 b2 d3 w3 f3 => ?_
    have g3 := g2.fr2 d3 w3 f3
    rw [zSeq_x]; dsimp! []
    by_cases e3 : pick < 10
    · obtain ⟨op, eo⟩ := op_at (v := pick - 6) (by omega) (by omega)
      dsimp! [e3]
      refine ⟨by decide, fun p np => ?_⟩
      dsimp! [eo]
      exact ⟨by decide, fin (e := .bin op ea eb) (by simp only [Ex.dep]; omega) ⟨a2, b2⟩ (g3.new o np)⟩
    dsimp! [e3]
    refine ⟨by decide, fun p np => ?_⟩
    have g4 := g3.new o np (x := .lst [(PV.str [60]), (PV.str [60, 61]), (PV.str [62]), (PV.str [62, 61]), (PV.str [61, 61]), (PV.str [33, 61])])
    refine c_draw (by omega) g4.d (by omega) (by omega) fun v h5 v0 v1 d5 f5 => ?_
    have g5 := g4.fr o d5 f5
    have e5 : h5 p = some (.lst [(PV.str [60]), (PV.str [60, 61]), (PV.str [62]), (PV.str [62, 61]), (PV.str [61, 61]), (PV.str [33, 61])]) := (f5 p (by simpa using g3.d.ne np)).trans up_same
    obtain ⟨sg, es⟩ := sg_at v0 v1
    dsimp! [e5, es]
    refine c_leaf (by omega) ok d5 o g5.w fun ec h6 kvs6 c1 c2 d6 w6 f6 _ => ?_
    have g6 := g5.fr2 d6 w6 f6
    refine c_leaf (by omega) ok d6 o w6 fun ed h7 kvs7 dd1 dd2 d7 w7 f7 _ => ?_
    have g7 := g6.fr2 d7 w7 f7
    exact ⟨by decide, fin (e := .pick sg ea ec eb ed) (by simp only [Ex.dep]; omega) ⟨a2, c2, b2, dd2⟩ g7⟩

/-! ### tables -/
structure Giv where
  name : List Nat
  rim : Int
  lo : Option Int
  hi : Option Int
structure Row where
  name : List Nat
  rim : Int
  e : Ex
structure Tb where
  over : List (List Nat)
  gs : List Giv
  rs : List Row
def Giv.P (g : Giv) : PV := givP g.name g.rim g.lo g.hi
def Row.P (r : Row) : PV := .tup [.str r.name, .int r.rim, r.e.P]
def Tb.P (t : Tb) : PV := .tup [.tup (t.over.map .str), .tup (t.gs.map Giv.P), .tup (t.rs.map Row.P), .tup []]
def Giv.ok (g : Giv) : Prop := okS g.name = true ∧ -4 ≤ g.rim ∧ g.rim ≤ 4 ∧ (∀ l, g.lo = some l → g.rim - 4 < l ∧ l ≤ g.rim) ∧ ∀ u, g.hi = some u → g.rim ≤ u ∧ u < g.rim + 4
theorem strs_back : ∀ {l : List PV}, (∀ p ∈ l, ∃ x, p = PV.str x) → ∃ r : List (List Nat), l = r.map .str
  | [], _ => ⟨[], rfl⟩
  | p :: l, h => by
    obtain ⟨x, rfl⟩ := h p List.mem_cons_self
    obtain ⟨r, rfl⟩ := strs_back fun q hq => h q (List.mem_cons_of_mem _ hq)
    exact ⟨x :: r, rfl⟩
def unstr : PV → List Nat
  | .str x => x
  | _ => []
theorem unstr_map (l : List (List Nat)) : (l.map PV.str).map unstr = l := by
  rw [List.map_map]
  have : (unstr ∘ PV.str) = id := rfl
  rw [this, List.map_id]
theorem sort_strs {l : List (List Nat)} (h : ∀ x ∈ l, okS x = true) : sortOk (l.map .str) = true ∧ ∃ r : List (List Nat), isort (l.map .str) = r.map .str ∧ r.Perm l := by
  obtain ⟨h1, h2⟩ := pls_strs h
  refine ⟨?_, ?_⟩
  · unfold sortOk
    simp only [Bool.and_eq_true, Bool.or_eq_true, decide_eq_true_eq, List.all_eq_true, h1, h2]
    refine ⟨⟨⟨trivial, by omega⟩, fun p hp q hq => ?_⟩, .inl (.inl (.inl (.inr fun p hp => ?_)))⟩
    · obtain ⟨x, _, rfl⟩ := List.mem_map.mp hp
      obtain ⟨y, _, rfl⟩ := List.mem_map.mp hq
      rfl
    · obtain ⟨x, _, rfl⟩ := List.mem_map.mp hp
      rfl
  · have pm := isort_perm (l.map .str)
    obtain ⟨r, e⟩ := strs_back (l := isort (l.map .str)) fun p hp => by
      obtain ⟨x, _, rfl⟩ := List.mem_map.mp (pm.mem_iff.mp hp)
      exact ⟨x, rfl⟩
    refine ⟨r, e, ?_⟩
    rw [e] at pm
    have q := pm.map unstr
    rw [unstr_map, unstr_map] at q
    exact q
theorem tw_all {α : Type} {p : α → Bool} : ∀ {l : List α}, (∀ x ∈ l, p x = true) → l.takeWhile p = l ∧ l.dropWhile p = []
  | [], _ => ⟨rfl, rfl⟩
  | x :: l, h => by
    have hx := h x List.mem_cons_self
    obtain ⟨i1, i2⟩ := tw_all (l := l) fun y hy => h y (List.mem_cons_of_mem _ hy)
    exact ⟨by rw [List.takeWhile_cons_of_pos hx, i1], by rw [List.dropWhile_cons_of_pos hx, i2]⟩
theorem isort_app : ∀ (rest acc : List PV), SrtO.Srtd PV.o (acc ++ rest) → rest.foldl insO acc = acc ++ rest
  | [], acc, _ => by simp
  | y :: rest, acc, h => by
    have e : insO acc y = acc ++ [y] := by
      have hall : ∀ x ∈ acc, PV.o y x = false := fun x hx => (List.pairwise_append.mp h).2.2 x hx y List.mem_cons_self
      obtain ⟨w1, w2⟩ := tw_all (p := fun x => !PV.o y x) (l := acc) fun x hx => by rw [hall x hx]; rfl
      unfold insO
      rw [w1, w2]
    rw [List.foldl_cons, e, isort_app rest (acc ++ [y]) (by simpa using h)]
    simp
theorem isort_id {l : List PV} (h : SrtO.Srtd PV.o l) : isort l = l := by
  have := isort_app l [] (by simpa using h)
  simpa [isort] using this
theorem isort_isort (l : List PV) : isort (isort l) = isort l := isort_id (isort_ok l).1
theorem c_table_world2 {k : Nat} (hk : 3 ≤ k) {a s : Addr} {ns : List Int} {many rules givens : Nat} {h : PH} {Q : QV} (d : DS a ns s h) (hm : 1 ≤ many ∧ many ≤ 3) (hr : 1 ≤ rules ∧ rules ≤ 8) (hg : givens ≤ 8)
    (q : ∀ (over rn gn : List (List Nat)) (A : Wa) (kvs : List (PV × PV)) h', over.length = many → rn.length = rules → gn.length = givens → (over ++ (rn ++ gn)).Nodup → (∀ x ∈ over ++ (rn ++ gn), okS x = true) →
      DS a ns s h' → WB ⟨over, many, rn, gn, 2, none, fun _ => 0, 0, []⟩ A h' kvs → A.ok s a → kvs.length ≤ 7 → Kp [s] h h' → h A.w = none → isort (rn.map .str) = rn.map .str → (∀ x ∈ over ++ (rn ++ gn), 95 ∉ x) → Q (.ref A.w) h') : (wC cl k)._law_table_world [.ref s, .int many, .int rules, .int givens] h Q := by
  obtain ⟨k, rfl⟩ : ∃ j, k = j + 1 := ⟨k - 1, by omega⟩
  show zFn _ _ (b__law_table_world cl (wC cl k)) _ h Q
  unfold b__law_table_world
  dsimp! []
  have en : ((many : Int) + (rules : Int)) + (givens : Int) = ((many + rules + givens : Nat) : Int) := by omega
  rw [en]
  refine c_words2 (by omega) d (by omega) fun ws p h1 lw nd okw nou d1 f1 np => ?_
  have hlw : (ws.map PV.str).length = many + rules + givens := by rw [List.length_map]; exact lw
  dsimp! [cut_to (show (0 : Int) ≤ many by omega)]
  intro p1 np1
  dsimp! []
  have e1 : p ≠ p1 := by rintro rfl; rw [up_same] at np1; cases np1
  dsimp! [up_ne e1, cut_nn (show (0 : Int) ≤ many by omega) (show (0 : Int) ≤ (many : Int) + rules by omega) (show ((many : Nat) : Int).toNat ≤ (ws.map PV.str).length by omega)]
  intro p2 np2
  have t1 : ((ws.map PV.str).drop (many : Int).toNat).take (((many : Int) + rules).toNat - (many : Int).toNat) = ((ws.drop many).take rules).map .str := by
    rw [show ((many : Int)).toNat = many by omega, show ((many : Int) + rules).toNat - many = rules by omega, ← List.map_drop, ← List.map_take]
  have t2 : ((ws.map PV.str).drop ((many : Int) + rules).toNat) = (ws.drop (many + rules)).map .str := by
    rw [show ((many : Int) + rules).toNat = many + rules by omega, ← List.map_drop]
  have t3 : (ws.map PV.str).take (many : Int).toNat = (ws.take many).map .str := by rw [show ((many : Int)).toNat = many by omega, ← List.map_take]
  rw [t1, t3]
  rw [t3] at np2
  obtain ⟨s1, rn, i1, pm1⟩ := sort_strs (l := (ws.drop many).take rules) fun x hx => okw x (List.mem_of_mem_drop (List.mem_of_mem_take hx))
  obtain ⟨s2, gn, i2, pm2⟩ := sort_strs (l := ws.drop (many + rules)) fun x hx => okw x (List.mem_of_mem_drop hx)
  dsimp! [s1, i1]
  intro r1 nr1
  dsimp! [dputs]
  refine ⟨by decide, rfl, fun w nw => ?_⟩
  -- what stands where
  have hp4 := keep_new nw (x := .dic false none (List.foldl (fun acc kv => dput acc kv.fst kv.snd) [] [(PV.str [109, 97, 110, 121], .int many), (PV.str [111, 118, 101, 114], .tup ((ws.take many).map .str)), (PV.str [114, 117, 108, 101, 95, 110, 97, 109, 101, 115], .ref r1), (PV.str [109, 111, 115, 116], .int 2)])) p _ (keep_new nr1 p _ (keep_new np2 p _ (keep_new np1 p _ up_same)))
  have hr4 := keep_new nw (x := .dic false none (List.foldl (fun acc kv => dput acc kv.fst kv.snd) [] [(PV.str [109, 97, 110, 121], .int many), (PV.str [111, 118, 101, 114], .tup ((ws.take many).map .str)), (PV.str [114, 117, 108, 101, 95, 110, 97, 109, 101, 115], .ref r1), (PV.str [109, 111, 115, 116], .int 2)])) r1 _ up_same
  have d5 := ((((d1.new np (o := .lst (ws.map PV.str))).new np1 (o := .lst ((ws.take many).map .str))).new np2 (o := .lst (((ws.drop many).take rules).map .str))).new nr1 (o := .lst (rn.map .str))).new nw (o := .dic false none (List.foldl (fun acc kv => dput acc kv.fst kv.snd) [] [(PV.str [109, 97, 110, 121], .int many), (PV.str [111, 118, 101, 114], .tup ((ws.take many).map .str)), (PV.str [114, 117, 108, 101, 95, 110, 97, 109, 101, 115], .ref r1), (PV.str [109, 111, 115, 116], .int 2)]))
  have k5 := ((((f1.kp.new np (o := .lst (ws.map PV.str))).new np1 (o := .lst ((ws.take many).map .str))).new np2 (o := .lst (((ws.drop many).take rules).map .str))).new nr1 (o := .lst (rn.map .str)))
  have nwh : h w = none := by
    cases e : h w with
    | none => rfl
    | some o =>
      by_cases hs : w = s
      · subst hs
        obtain ⟨_, _, i, c, n, es⟩ := ((((d1.new np (o := .lst (ws.map PV.str))).new np1 (o := .lst ((ws.take many).map .str))).new np2 (o := .lst (((ws.drop many).take rules).map .str))).new nr1 (o := .lst (rn.map .str)))
        rw [nw] at es; cases es
      · have := k5 w o (by simpa using hs) e
        rw [nw] at this; cases this
  have k6 := k5.new nw (o := .dic false none (List.foldl (fun acc kv => dput acc kv.fst kv.snd) [] [(PV.str [109, 97, 110, 121], .int many), (PV.str [111, 118, 101, 114], .tup ((ws.take many).map .str)), (PV.str [114, 117, 108, 101, 95, 110, 97, 109, 101, 115], .ref r1), (PV.str [109, 111, 115, 116], .int 2)]))
  have hw4 : ∀ (g : PH) (o : PO), up g w o w = some o := fun g o => up_same
  have hw5 := hw4 (up (up (up (up h1 p (PO.lst (List.map PV.str ws))) p1 (PO.lst (List.map PV.str (List.take many ws)))) p2 (PO.lst (List.map PV.str (List.take rules (List.drop many ws))))) r1 (PO.lst (List.map PV.str rn))) (.dic false none (List.foldl (fun acc kv => dput acc kv.fst kv.snd) [] [(PV.str [109, 97, 110, 121], .int many), (PV.str [111, 118, 101, 114], .tup ((ws.take many).map .str)), (PV.str [114, 117, 108, 101, 95, 110, 97, 109, 101, 115], .ref r1), (PV.str [109, 111, 115, 116], .int 2)]))
  generalize up (up (up (up (up h1 p (PO.lst (List.map PV.str ws))) p1 (PO.lst (List.map PV.str (List.take many ws)))) p2 (PO.lst (List.map PV.str (List.take rules (List.drop many ws))))) r1 (PO.lst (List.map PV.str rn))) w (.dic false none (List.foldl (fun acc kv => dput acc kv.fst kv.snd) [] [(PV.str [109, 97, 110, 121], .int many), (PV.str [111, 118, 101, 114], .tup ((ws.take many).map .str)), (PV.str [114, 117, 108, 101, 95, 110, 97, 109, 101, 115], .ref r1), (PV.str [109, 111, 115, 116], .int 2)])) = H5 at hp4 hr4 d5 k6 hw5 ⊢
  have hwr : r1 ≠ w := by rintro rfl; rw [hw5] at hr4; cases hr4
  dsimp! [hp4, cut_from (show (0 : Int) ≤ (many : Int) + rules by omega)]
  rw [t2]
  intro p6 np6
  dsimp! [s2, i2]
  intro g ng
  have hg6 : p6 ≠ g := by rintro rfl; rw [up_same] at ng; cases ng
  have d6 := d5.new np6 (o := .lst ((ws.drop (many + rules)).map .str))
  have wp6 : w ≠ p6 := by rintro rfl; rw [hw5] at np6; cases np6
  have wg : w ≠ g := by rintro rfl; rw [up_ne wp6, hw5] at ng; cases ng
  have rp6 : r1 ≠ p6 := by rintro rfl; rw [hr4] at np6; cases np6
  have rg : r1 ≠ g := by rintro rfl; rw [up_ne rp6, hr4] at ng; cases ng
  dsimp! [up_ne wg, up_ne wp6, hw5]
  refine ⟨rfl, by show 4 < sizeLine; decide, rfl, by show 5 < sizeLine; decide, ?_⟩
  have dg := d6.new ng (o := .lst (gn.map .str))
  have wne : w ≠ s ∧ w ≠ a := by
    constructor
    · rintro rfl
      obtain ⟨_, _, i, c, n, es⟩ := d5
      rw [hw5] at es; cases es
    · rintro rfl
      obtain ⟨_, es, _⟩ := d5
      rw [hw5] at es; cases es
  have rne : r1 ≠ s := by
    rintro rfl
    have hne := d.1
    obtain ⟨_, _, i, c, n, es⟩ := d5
    rw [hr4] at es; cases rn <;> simp at es
  have gne : g ≠ s := d6.ne ng
  refine ⟨_, G.Sub.refl _, ?_⟩
  have hwsl : (ws.take many).length = many := by rw [List.length_take]; omega
  have pm : ((ws.take many) ++ (rn ++ gn)).Perm ws := by
    have e0 : ws = ws.take many ++ ((ws.drop many).take rules ++ ws.drop (many + rules)) := by
      rw [show ws.drop (many + rules) = (ws.drop many).drop rules by rw [List.drop_drop], List.take_append_drop, List.take_append_drop]
    exact (List.Perm.append_left _ (List.Perm.append pm1 pm2)).trans (List.Perm.of_eq e0.symm)
  refine q (ws.take many) rn gn ⟨w, r1, g, r1, r1⟩ _ _ hwsl ?_ ?_ (pm.nodup_iff.mpr nd) (fun x hx => okw x (pm.mem_iff.mp hx)) (dg.put wne.2 wne.1) ⟨up_same, by show 6 ≤ 20; decide, rfl, rfl, rfl, rfl, ?_, ?_, rfl, fun _ => rfl, fun row e => nomatch e⟩ ⟨wne, ⟨rne, hwr⟩, ⟨gne, wg.symm⟩, ⟨rne, hwr⟩, ⟨rne, hwr⟩⟩ (by show 6 ≤ 7; decide) ?_ nwh (by rw [← i1, isort_isort]) (fun x hx => nou x (pm.mem_iff.mp hx))
  · rw [pm1.length_eq, List.length_take, List.length_drop]; omega
  · rw [pm2.length_eq, List.length_drop]; omega
  · rw [up_ne hwr, up_ne rg, up_ne rp6]; exact hr4
  · rw [up_ne wg.symm]; exact up_same
  · exact ((k6.new np6).new ng).put0 nwh
theorem c_table_world {k : Nat} (hk : 3 ≤ k) {a s : Addr} {ns : List Int} {many rules givens : Nat} {h : PH} {Q : QV} (d : DS a ns s h) (hm : 1 ≤ many ∧ many ≤ 3) (hr : 1 ≤ rules ∧ rules ≤ 8) (hg : givens ≤ 8)
    (q : ∀ (over rn gn : List (List Nat)) (A : Wa) (kvs : List (PV × PV)) h', over.length = many → rn.length = rules → gn.length = givens → (over ++ (rn ++ gn)).Nodup → (∀ x ∈ over ++ (rn ++ gn), okS x = true) →
      DS a ns s h' → WB ⟨over, many, rn, gn, 2, none, fun _ => 0, 0, []⟩ A h' kvs → A.ok s a → kvs.length ≤ 7 → Kp [s] h h' → h A.w = none → Q (.ref A.w) h') : (wC cl k)._law_table_world [.ref s, .int many, .int rules, .int givens] h Q :=
  c_table_world2 hk d hm hr hg fun over rn gn A kvs h' a b c e f g i j l m n _ _ => q over rn gn A kvs h' a b c e f g i j l m n

theorem c_given_rows {k : Nat} (hk : 4 ≤ k) {a s l : Addr} {ns : List Int} {gn : List (List Nat)} (okg : ∀ x ∈ gn, okS x = true) (hl : gn.length ≤ 1000) (hne : l ≠ s) {ρ : Ev} {h : PH} (d : DS a ns s h) (hgl : h l = some (.lst (gn.map .str))) {c : Cs} (hc : c = wC cl (k - 1)) {Q : List PV → PH → Prop} {te : ZE} {j : Nat}
    (run : ∀ (x : List Nat) (h' : PH) (R : QV), c._law_given_row [.ref s, .str x] h' R → te (ρ.set j (some (.str x))) h' R)
    (q : ∀ (gs : List Giv) h', gs.map Giv.name = gn → (∀ g ∈ gs, g.ok) → DS a ns s h' → G.Fr [s] h h' → Q (gs.map Giv.P) h') : LcW (ZitL l) (zgName j) ztYes te ρ h Q := by
  refine lcW_L (ps := gn.map .str) (by rw [sizeLine_eq, List.length_map]; omega) (fun i acc h' => ∃ gs : List Giv, acc = gs.map Giv.P ∧ gs.length = i ∧ gs.map Giv.name = gn.take i ∧ (∀ g ∈ gs, g.ok) ∧ DS a ns s h' ∧ G.Fr [s] h h') ⟨[], rfl, rfl, rfl, by simp, d, G.Fr.refl _ _⟩
    (fun i acc h' ⟨gs, e, l, _⟩ => by rw [e, List.length_map, l]; exact Nat.le_refl _) (fun i acc h' _ ⟨gs, _, _, _, _, _, f⟩ => (f l (by simpa using hne)).trans hgl) ?_ ?_
  · rintro i _ h1 p e ⟨gs, rfl, l1, n1, b1, d1, f1⟩
    rw [List.getElem?_map] at e
    obtain ⟨x, ex, rfl⟩ := Option.map_eq_some_iff.mp e
    dsimp! []
    refine run x h1 _ ?_
    rw [hc]
    refine c_given_row (by omega) d1 fun rim lo hi h2 r0 r1 b2 b3 d2 f2 => ⟨h2, G.Sub.refl _, gs ++ [⟨x, rim, lo, hi⟩], by simp [Giv.P], by simp [l1], ?_, fun g hg => ?_, d2, f1.trans f2⟩
    · rw [List.map_append, n1, List.take_add_one, ex]; rfl
    · rcases List.mem_append.mp hg with hg | hg
      · exact b1 g hg
      · simp at hg; subst hg
        exact ⟨okg x (List.mem_of_getElem? ex), r0, r1, b2, b3⟩
  · rintro _ h1 ⟨gs, rfl, l1, n1, b1, d1, f1⟩
    rw [List.length_map, List.take_length] at n1
    exact q gs h1 n1 b1 d1 f1

theorem c_rules_of2 {k n : Nat} (hk : n + 7 ≤ k) {W : Wd} (ok : W.ok) {A : Wa} {a s : Addr} {ns : List Int} {h : PH} {Q : QV} {kvs : List (PV × PV)} (d : DS a ns s h) (o : A.ok s a) (w : WB W A h kvs) (hl : kvs.length ≤ 15)
    (q : ∀ (t : Tb) h' kvs', t.over = W.over → t.gs.map Giv.name = W.gn → t.rs.map Row.name = W.rn → (∀ g ∈ t.gs, g.ok) → (∀ r ∈ t.rs, (-4 ≤ r.rim ∧ r.rim ≤ 4) ∧ r.e.dep ≤ n ∧ r.e.Al ({ W with name := r.name } : Wd).Ref) → DS a ns s h' → Kp [s, A.w] h h' → WB W A h' kvs' → Q t.P h') :
    (wC cl k)._law_rules_of [.ref s, .ref A.w, .int n] h Q := by
  obtain ⟨k, rfl⟩ : ∃ j, k = j + 1 := ⟨k - 1, by omega⟩
  show zFn _ _ (b__law_rules_of cl (wC cl k)) _ h Q
  unfold b__law_rules_of
  have kz : ∀ z, keyOk false (.str z) = true := fun _ => rfl
  dsimp! []
  refine ⟨by decide, fun rl nrl => ?_⟩
  have d0 := d.new nrl (o := .lst [])
  have w0 := w.put nrl (x := .lst [])
  have k0 : Kp [s, A.w] h (up h rl (.lst [])) := kp_new nrl
  have rls : rl ≠ s := d.ne nrl
  have rlw : rl ≠ A.w := by rintro rfl; rw [w.dic] at nrl; cases nrl
  rw [zSeq_x]
  dsimp! [w0.dic, kz, w0.rule, w0.rl]
  refine forW_L (ps := W.rn.map .str) (fun i ρ' h' => ∃ (rs : List Row) (kvs' : List (PV × PV)) (x : Option PV), rs.map Row.name = W.rn.take i ∧ (∀ r ∈ rs, (-4 ≤ r.rim ∧ r.rim ≤ 4) ∧ r.e.dep ≤ n ∧ r.e.Al ({ W with name := r.name } : Wd).Ref) ∧
    ρ' = [some (.ref s), some (.ref A.w), some (.int n), some (.ref rl), x, none] ∧ DS a ns s h' ∧ WB W A h' kvs' ∧ (kvs'.length ≤ 15 ∨ ((∃ v, dget kvs' (PV.str [114, 111, 111, 109]) = some v) ∧ ∃ v, dget kvs' (PV.str [110, 97, 109, 101]) = some v)) ∧ h' rl = some (.lst (rs.map Row.P)) ∧ Kp [s, A.w] h h')
    ⟨[], kvs, none, rfl, by simp, rfl, d0, w0, .inl hl, up_same, k0⟩ (fun i ρ' h' _ ⟨_, _, _, _, _, _, _, w', _⟩ => w'.rl) ?_ ?_
  · rintro i _ h1 p e ⟨rs, kvs1, x, n1, b1, rfl, d1, w1, l1, r1, k1⟩
    rw [List.getElem?_map] at e
    obtain ⟨nm, ex, rfl⟩ := Option.map_eq_some_iff.mp e
    have hnm : nm ∈ W.rn := List.mem_of_getElem? ex
    dsimp! []
    refine ⟨by decide, fun p np => ?_⟩
    have d2 := d1.new np (o := .lst [.int 5, .int 4, .int 3])
    have w2 := w1.put np (x := .lst [.int 5, .int 4, .int 3])
    have k2 := k1.new np (o := .lst [.int 5, .int 4, .int 3])
    have r2 : up h1 p (.lst [.int 5, .int 4, .int 3]) rl = some (.lst (rs.map Row.P)) := keep_new np _ _ r1
    obtain ⟨r, er⟩ : ∃ r : Int, atI [PV.int 5, PV.int 4, PV.int 3] ((W.many : Int) - 1) = some (.int r) := by
      rcases (show W.many = 1 ∨ W.many = 2 ∨ W.many = 3 by have := ok.many; omega) with e | e | e <;> rw [e]
      · exact ⟨5, at0⟩
      · exact ⟨4, at1⟩
      · exact ⟨3, at2⟩
    dsimp! [w2.dic, kz, w2.many, er]
    obtain ⟨w3, l3⟩ := w2.turn (r := r) o l1 hnm
    refine ⟨by have := w2.len; rw [sizeLine_eq]; omega, l3, ?_⟩
    have d3 : DS a ns s (up (up h1 p (.lst [.int 5, .int 4, .int 3])) A.w (.dic false none (dput (dput kvs1 (PV.str [114, 111, 111, 109]) (.int r)) (PV.str [110, 97, 109, 101]) (.str nm)))) := d2.put o.w.2 o.w.1
    have k3 : Kp [s, A.w] h (up (up h1 p (.lst [.int 5, .int 4, .int 3])) A.w (.dic false none (dput (dput kvs1 (PV.str [114, 111, 111, 109]) (.int r)) (PV.str [110, 97, 109, 101]) (.str nm)))) := k2.put (by simp)
    have r3 : up (up h1 p (.lst [.int 5, .int 4, .int 3])) A.w (.dic false none (dput (dput kvs1 (PV.str [114, 111, 111, 109]) (.int r)) (PV.str [110, 97, 109, 101]) (.str nm))) rl = some (.lst (rs.map Row.P)) := by rw [up_ne rlw]; exact r2
    generalize up (up h1 p (.lst [.int 5, .int 4, .int 3])) A.w (.dic false none (dput (dput kvs1 (PV.str [114, 111, 111, 109]) (.int r)) (PV.str [110, 97, 109, 101]) (.str nm))) = h3 at w3 d3 k3 r3 ⊢
    generalize dput (dput kvs1 (PV.str [114, 111, 111, 109]) (.int r)) (PV.str [110, 97, 109, 101]) (.str nm) = kvs3 at w3 ⊢
    dsimp! [r3]
    refine c_rim (by omega) d3 fun rim h4 d4 f4 q0 q1 => ?_
    have w4 := w3.fr o f4
    have r4 : h4 rl = some (.lst (rs.map Row.P)) := (f4 rl (by simpa using rls)).trans r3
    have up2 : ∀ {g g' : PH}, G.Fr [s] g g' → Kp [s, A.w] g g' := fun f b o' n e => (f b (by simp at n ⊢; exact n.1)).trans e
    refine c_some_part (ok.nm nm) o n (by omega) d4 w4 fun e h5 kvs5 e1 e2 d5 w5 f5 => ?_
    have r5 : h5 rl = some (.lst (rs.map Row.P)) := (f5 rl (by simp [rls, rlw])).trans r4
    have k5 := (k3.trans (up2 f4)).trans f5.kp
    dsimp! [r5]
    have hlen : rs.length ≤ 20 := by
      have := congrArg List.length n1
      rw [List.length_map, List.length_take] at this
      have := ok.rn
      omega
    refine ⟨by decide, by rw [sizeLine_eq, List.length_map]; omega, _, G.Sub.refl _, rs ++ [⟨nm, rim, e⟩], kvs5, some (.str nm), ?_, ?_, rfl, d5.put ?_ rls, w.put0 w5.toWB.nm' nrl, .inr ⟨⟨_, w5.room.choose_spec⟩, _, w5.name⟩, ?_, ?_⟩
    · rw [List.map_append, n1, List.take_add_one, ex]; rfl
    · intro r' hr'
      rcases List.mem_append.mp hr' with hr' | hr'
      · exact b1 r' hr'
      · simp at hr'; subst hr'
        exact ⟨⟨q0, q1⟩, e1, e2⟩
    · rintro rfl
      obtain ⟨_, ea, _⟩ := d
      rw [nrl] at ea; cases ea
    · rw [up_same, List.map_append]; rfl
    · exact k5.put0 nrl
  · rintro _ h1 ⟨rs, kvs1, x, n1, b1, rfl, d1, w1, l1, r1, k1⟩
    rw [List.length_map, List.take_length] at n1
    dsimp! [w1.dic, kz, w1.given, w1.gl]
    have hgn := ok.gn
    refine c_given_rows (k := k + 1) (by omega) ok.gs (by omega) o.g.1 d1 w1.gl (rfl : wC cl k = wC cl (k + 1 - 1)) (fun x h' R r => ?_) fun gs h2 gn gb d2 f2 => ?_
    · dsimp! []
      exact r
    · intro D nD
      have d3 := d2.new nD (o := .lst (gs.map Giv.P))
      have up2 : ∀ {g g' : PH}, G.Fr [s] g g' → Kp [s, A.w] g g' := fun f b o' n e => (f b (by simp at n ⊢; exact n.1)).trans e
      have w2 := w1.fr o f2
      have w3 := w2.put nD (x := .lst (gs.map Giv.P))
      have r2 : h2 rl = some (.lst (rs.map Row.P)) := (f2 rl (by simpa using rls)).trans r1
      have r3 : up h2 D (.lst (gs.map Giv.P)) rl = some (.lst (rs.map Row.P)) := keep_new nD _ _ r2
      have k3 := (k1.trans (up2 f2)).new nD (o := .lst (gs.map Giv.P))
      dsimp! [w3.dic, kz, w3.over, r3]
      exact ⟨by decide, by decide, _, G.Sub.refl _, q ⟨W.over, gs, rs⟩ _ kvs1 rfl gn n1 gb b1 d3 k3 w3⟩
theorem c_rules_of {k n : Nat} (hk : n + 7 ≤ k) {W : Wd} (ok : W.ok) {A : Wa} {a s : Addr} {ns : List Int} {h : PH} {Q : QV} {kvs : List (PV × PV)} (d : DS a ns s h) (o : A.ok s a) (w : WB W A h kvs) (hl : kvs.length ≤ 15)
    (q : ∀ (t : Tb) h', t.over = W.over → t.gs.map Giv.name = W.gn → t.rs.map Row.name = W.rn → (∀ g ∈ t.gs, g.ok) → (∀ r ∈ t.rs, (-4 ≤ r.rim ∧ r.rim ≤ 4) ∧ r.e.dep ≤ n ∧ r.e.Al ({ W with name := r.name } : Wd).Ref) → DS a ns s h' → Kp [s, A.w] h h' → Q t.P h') :
    (wC cl k)._law_rules_of [.ref s, .ref A.w, .int n] h Q :=
  c_rules_of2 hk ok d o w hl fun t h' _ b1 b2 b3 b4 b5 b6 b7 _ => q t h' b1 b2 b3 b4 b5 b6 b7

/-! ### parts of expressions -/
/-- a part: no tuple, or an expression -/
inductive Kid
  | val (v : PV) | ex (e : Ex)
def Kid.P : Kid → PV
  | .val v => v
  | .ex e => e.P
def Ex.hd : Ex → List Nat
  | .num _ => ([110, 117, 109, 98, 101, 114] : List Nat) | .ctr _ => ([99, 111, 117, 110, 116, 101, 114] : List Nat) | .cell _ _ => ([99, 101, 108, 108] : List Nat) | .neg _ => ([110, 101, 103, 97, 116, 101] : List Nat) | .scl _ _ => ([115, 99, 97, 108, 101] : List Nat) | .bin o _ _ => o.cs | .pick .. => ([112, 105, 99, 107] : List Nat)
def Ex.kids : Ex → List Kid
  | .num n => [.val (.int n)]
  | .ctr n => [.val (.int n)]
  | .cell _ _ => []
  | .neg a => [.ex a]
  | .scl n a => [.val (.int n), .ex a]
  | .bin _ a b => [.ex a, .ex b]
  | .pick s a b c d => [.val (.str s.cs), .ex a, .ex b, .ex c, .ex d]
def Ex.isCell : Ex → Bool
  | .cell _ _ => true | _ => false
theorem Ex.P_kids {e : Ex} (h : e.isCell = false) : e.P = .tup (.str e.hd :: e.kids.map Kid.P) := by cases e <;> first | rfl | cases h
theorem Ex.P_tup (e : Ex) : ∃ r, e.P = .tup (.str e.hd :: r) := by cases e <;> exact ⟨_, rfl⟩
theorem hd_cell {e : Ex} (h : e.isCell = false) : decide (e.hd = ([99, 101, 108, 108] : List Nat)) = false := by
  cases e with
  | bin o a b => cases o <;> rfl
  | cell _ _ => cases h
  | _ => rfl
theorem kid_val {e : Ex} {v : PV} (h : Kid.val v ∈ e.kids) : (∃ n, v = .int n) ∨ ∃ x, v = .str x := by cases e <;> simp [Ex.kids] at h <;> first | exact .inl ⟨_, h⟩ | exact .inr ⟨_, h⟩
theorem kid_dep {e c : Ex} (h : Kid.ex c ∈ e.kids) : c.dep + 1 ≤ e.dep := by
  cases e with
  | num n => simp [Ex.kids] at h
  | ctr n => simp [Ex.kids] at h
  | cell x os => simp [Ex.kids] at h
  | neg a => simp [Ex.kids] at h; subst h; simp [Ex.dep]
  | scl n a => simp [Ex.kids] at h; subst h; simp [Ex.dep]
  | bin o a b => simp [Ex.kids] at h; simp only [Ex.dep]; rcases h with rfl | rfl <;> omega
  | pick s a b c d => simp [Ex.kids] at h; simp only [Ex.dep]; rcases h with rfl | rfl | rfl | rfl <;> omega
theorem kid_al {F : List Nat → List Int → Prop} {e c : Ex} (w : e.Al F) (h : Kid.ex c ∈ e.kids) : c.Al F := by
  cases e with
  | num n => simp [Ex.kids] at h
  | ctr n => simp [Ex.kids] at h
  | cell x os => simp [Ex.kids] at h
  | neg a => simp [Ex.kids] at h; subst h; exact w
  | scl n a => simp [Ex.kids] at h; subst h; exact w.2
  | bin o a b => simp [Ex.kids] at h; rcases h with rfl | rfl <;> first | exact w.1 | exact w.2
  | pick s a b c d => simp [Ex.kids] at h; rcases h with rfl | rfl | rfl | rfl <;> first | exact w.1 | exact w.2.1 | exact w.2.2.1 | exact w.2.2.2
theorem kids_len (e : Ex) : e.kids.length ≤ 5 := by cases e <;> simp [Ex.kids]
def Ex.refs : Ex → List (List Nat × List Int)
  | .num _ => []
  | .ctr _ => []
  | .cell x os => [(x, os)]
  | .neg a => a.refs
  | .scl _ a => a.refs
  | .bin _ a b => a.refs ++ b.refs
  | .pick _ a b c d => a.refs ++ (b.refs ++ (c.refs ++ d.refs))
def Kid.refs : Kid → List (List Nat × List Int)
  | .val _ => []
  | .ex e => e.refs
theorem refs_kids {e : Ex} (h : e.isCell = false) : e.refs = e.kids.flatMap Kid.refs := by cases e <;> first | (cases h; done) | simp [Ex.refs, Ex.kids, Kid.refs]
theorem refs_len : ∀ e : Ex, e.refs.length ≤ 4 ^ e.dep
  | .num _ => by simp [Ex.refs]
  | .ctr _ => by simp [Ex.refs]
  | .cell _ _ => by simp [Ex.refs, Ex.dep]
  | .neg a => by
    have := refs_len a
    simp only [Ex.refs, Ex.dep, Nat.pow_succ]; omega
  | .scl _ a => by
    have := refs_len a
    simp only [Ex.refs, Ex.dep, Nat.pow_succ]; omega
  | .bin _ a b => by
    have h1 := refs_len a
    have h2 := refs_len b
    have l1 := Nat.pow_le_pow_right (n := 4) (by omega) (Nat.le_max_left a.dep b.dep)
    have l2 := Nat.pow_le_pow_right (n := 4) (by omega) (Nat.le_max_right a.dep b.dep)
    simp only [Ex.refs, Ex.dep, Nat.pow_succ, List.length_append]; omega
  | .pick _ a b c d => by
    have h1 := refs_len a
    have h2 := refs_len b
    have h3 := refs_len c
    have h4 := refs_len d
    have l1 := Nat.pow_le_pow_right (n := 4) (by omega) (show a.dep ≤ max (max a.dep b.dep) (max c.dep d.dep) by omega)
    have l2 := Nat.pow_le_pow_right (n := 4) (by omega) (show b.dep ≤ max (max a.dep b.dep) (max c.dep d.dep) by omega)
    have l3 := Nat.pow_le_pow_right (n := 4) (by omega) (show c.dep ≤ max (max a.dep b.dep) (max c.dep d.dep) by omega)
    have l4 := Nat.pow_le_pow_right (n := 4) (by omega) (show d.dep ≤ max (max a.dep b.dep) (max c.dep d.dep) by omega)
    simp only [Ex.refs, Ex.dep, Nat.pow_succ, List.length_append]; omega
def refP (r : List Nat × List Int) : PV := .tup [(PV.str [99, 101, 108, 108]), .str r.1, .tup (r.2.map .int)]
theorem pow9 {n : Nat} (h : n ≤ 9) : 4 ^ n ≤ 262144 := Nat.le_trans (Nat.pow_le_pow_right (by omega) h) (by decide)
theorem flat_take {e : Ex} {i : Nat} {c : Kid} (h : e.kids[i]? = some c) : ((e.kids.take (i + 1)).flatMap Kid.refs) = (e.kids.take i).flatMap Kid.refs ++ c.refs := by
  rw [List.take_add_one, h]; simp
theorem flat_le {e : Ex} (i : Nat) (h : e.isCell = false) : ((e.kids.take i).flatMap Kid.refs).length ≤ e.refs.length := by
  rw [refs_kids h]
  conv => rhs; rw [← List.take_append_drop i e.kids]
  rw [List.flatMap_append, List.length_append]; omega
/-- a new list, all else as it was -/
theorem new_out {h h' : PH} {p : Addr} {xs : List PV} {Q : QV} (k : Kp [] h h') (n : h p = none) (e : h' p = some (.lst xs)) (q : Q (.ref p) (up h p (.lst xs))) : ∃ h2, G.Sub h2 h' ∧ Q (.ref p) h2 :=
  ⟨_, fun b o eb => by
    by_cases hb : b = p
    · subst hb; rw [up_same] at eb; cases eb; exact e
    · rw [up_ne hb] at eb; exact k b o (by simp) eb, q⟩
theorem kp_fresh {h h' : PH} {p : Addr} (k : Kp [] h h') (n : h' p = none) : h p = none := by
  cases e : h p with
  | none => rfl
  | some o => have := k p o (by simp) e; rw [n] at this; cases this
theorem c_refs : ∀ (n : Nat) (e : Ex), e.dep ≤ n → n ≤ 9 → ∀ {k : Nat}, n + 1 ≤ k → ∀ {h : PH} {Q : QV}, (∀ p, h p = none → Q (.ref p) (up h p (.lst (e.refs.map refP)))) → (wC cl k)._law_refs [e.P] h Q := by
  intro n
  induction n with
  | zero => exact fun e he h9 {k} hk {h Q} q => body 0 (fun c hc => absurd hc (by omega)) e he h9 hk q
  | succ n ih => exact fun e he h9 {k} hk {h Q} q => body (n + 1) (fun c hc => by
      intro k' hk' h' Q' q'
      exact ih c (by omega) (by omega) (by omega) q') e he h9 hk q
where
  body (n : Nat) (ih : ∀ c : Ex, c.dep + 1 ≤ n → ∀ {k : Nat}, n ≤ k → ∀ {h : PH} {Q : QV}, (∀ p, h p = none → Q (.ref p) (up h p (.lst (c.refs.map refP)))) → (wC cl k)._law_refs [c.P] h Q) (e : Ex) (he : e.dep ≤ n) (h9 : n ≤ 9) {k : Nat} (hk : n + 1 ≤ k) {h : PH} {Q : QV}
      (q : ∀ p, h p = none → Q (.ref p) (up h p (.lst (e.refs.map refP)))) : (wC cl k)._law_refs [e.P] h Q := by
    obtain ⟨k, rfl⟩ : ∃ j, k = j + 1 := ⟨k - 1, by omega⟩
    show zFn _ _ (b__law_refs cl (wC cl k)) _ h Q
    unfold b__law_refs
    cases hc : e.isCell with
    | true =>
      cases e <;> first | (cases hc; done) | skip
      rename_i x os
      show zFn _ _ _ [refP (x, os)] h Q
      unfold refP
      dsimp! []
      rw [zSeq_x]; dsimp! []
      exact ⟨by decide, fun p np => ⟨_, G.Sub.refl _, q p np⟩⟩
    | false =>
      rw [Ex.P_kids hc]
      dsimp! []
      rw [zSeq_x]; dsimp! [hd_cell hc]
      refine ⟨by decide, fun p0 np0 => ?_⟩
      rw [zSeq_x]
      dsimp! [cut_from (show (0 : Int) ≤ 1 by omega), show (1 : Int).toNat = 1 from rfl, List.drop_succ_cons, List.drop_zero]
      refine forW_V (fun i ρ' h' => ∃ (p : Addr) (x : Option PV), ρ' = [some (.tup (.str e.hd :: e.kids.map Kid.P)), some (.ref p), x] ∧ Kp [] h h' ∧ h p = none ∧ h' p = some (.lst (((e.kids.take i).flatMap Kid.refs).map refP))) ⟨p0, none, rfl, kp_new np0, np0, up_same⟩ ?_ ?_
      · rintro i _ h1 p ep ⟨pl, x, rfl, k1, n1, e1⟩
        rw [List.getElem?_map] at ep
        obtain ⟨c, ec, rfl⟩ := Option.map_eq_some_iff.mp ep
        cases c with
        | val v =>
          have fin : ∃ h2, G.Sub h2 h1 ∧ ∃ (p : Addr) (x : Option PV), [some (PV.tup (.str e.hd :: e.kids.map Kid.P)), some (.ref pl), some v] = [some (.tup (.str e.hd :: e.kids.map Kid.P)), some (.ref p), x] ∧ Kp [] h h2 ∧ h p = none ∧ h2 p = some (.lst (((e.kids.take (i + 1)).flatMap Kid.refs).map refP)) :=
            ⟨h1, G.Sub.refl _, pl, some v, rfl, k1, n1, by rw [flat_take ec]; simpa [Kid.refs] using e1⟩
          rcases kid_val (List.mem_of_getElem? ec) with ⟨m, rfl⟩ | ⟨m, rfl⟩
          · simp only [Kid.P]
            dsimp! [show decide (Ty.tuple = Ty.int) = false from rfl]
            exact fin
          · simp only [Kid.P]
            dsimp! [show decide (Ty.tuple = Ty.str) = false from rfl]
            exact fin
        | ex c =>
          obtain ⟨r, er⟩ := Ex.P_tup c
          simp only [Kid.P]
          have hcall : (wC cl k)._law_refs [c.P] h1 (fun q h2 => zAdd (.ref pl) q h2 fun p h1 => ∃ h2, G.Sub h2 h1 ∧ ∃ (p_1 : Addr) (x : Option PV), [some (PV.tup (.str e.hd :: e.kids.map Kid.P)), some p, some c.P] = [some (.tup (.str e.hd :: e.kids.map Kid.P)), some (.ref p_1), x] ∧ Kp [] h h2 ∧ h p_1 = none ∧ h2 p_1 = some (.lst (((e.kids.take (i + 1)).flatMap Kid.refs).map refP))) := by
            refine ih c (by have := kid_dep (List.mem_of_getElem? ec); omega) (by omega) fun p2 n2 => ?_
            have ne : pl ≠ p2 := by rintro rfl; rw [e1] at n2; cases n2
            dsimp! [up_ne ne, e1]
            refine ⟨?_, fun p3 n3 => ?_⟩
            · have b1 := flat_le i hc
              have b2 := refs_len e
              have b3 := pow9 (show e.dep ≤ 9 by omega)
              have b4 := refs_len c
              have b5 := pow9 (show c.dep ≤ 9 by have := kid_dep (List.mem_of_getElem? ec); omega)
              rw [sizeLine_eq, List.length_map, List.length_map]; omega
            · have k3 : Kp [] h (up (up h1 p2 (.lst (c.refs.map refP))) p3 (.lst (((e.kids.take i).flatMap Kid.refs).map refP ++ c.refs.map refP))) := (k1.new n2).new n3
              exact ⟨_, G.Sub.refl _, p3, some c.P, rfl, k3, kp_fresh (k1.new n2) n3, by rw [up_same, flat_take ec, List.map_append]; rfl⟩
          rw [er] at hcall ⊢
          dsimp! [show decide (Ty.tuple = Ty.tuple) = true from rfl]
          exact hcall
      · rintro _ h1 ⟨pl, x, rfl, k1, n1, e1⟩
        rw [List.length_map, List.take_length, ← refs_kids hc] at e1
        dsimp! []
        exact new_out k1 n1 e1 (q pl n1)

def Ex.own : Ex → List Int
  | .scl n _ => [n]
  | _ => []
def Ex.nums : Ex → List Int
  | .num n => [n]
  | .ctr _ => []
  | .cell _ _ => []
  | .neg a => a.nums
  | .scl n a => n :: a.nums
  | .bin _ a b => a.nums ++ b.nums
  | .pick _ a b c d => a.nums ++ (b.nums ++ (c.nums ++ d.nums))
def Kid.nums : Kid → List Int
  | .val _ => []
  | .ex e => e.nums
def Ex.isNum : Ex → Bool
  | .num _ => true | _ => false
theorem nums_kids {e : Ex} (h : e.isNum = false) : e.nums = e.own ++ e.kids.flatMap Kid.nums := by cases e <;> first | (cases h; done) | simp [Ex.nums, Ex.own, Ex.kids, Kid.nums]
theorem nums_len : ∀ e : Ex, e.nums.length ≤ 5 ^ (e.dep + 1)
  | .num _ => by simp [Ex.nums, Ex.dep]
  | .ctr _ => by simp [Ex.nums]
  | .cell _ _ => by simp [Ex.nums]
  | .neg a => by
    have := nums_len a
    simp only [Ex.nums, Ex.dep, Nat.pow_succ] at this ⊢; omega
  | .scl _ a => by
    have := nums_len a
    have p := Nat.pow_pos (n := a.dep) (show 0 < 5 by omega)
    simp only [Ex.nums, Ex.dep, Nat.pow_succ, List.length_cons] at this ⊢; omega
  | .bin _ a b => by
    have h1 := nums_len a
    have h2 := nums_len b
    have l1 := Nat.pow_le_pow_right (n := 5) (by omega) (show a.dep + 1 ≤ max a.dep b.dep + 1 by omega)
    have l2 := Nat.pow_le_pow_right (n := 5) (by omega) (show b.dep + 1 ≤ max a.dep b.dep + 1 by omega)
    simp only [Ex.nums, Ex.dep, Nat.pow_succ, List.length_append] at *; omega
  | .pick _ a b c d => by
    have h1 := nums_len a
    have h2 := nums_len b
    have h3 := nums_len c
    have h4 := nums_len d
    have l1 := Nat.pow_le_pow_right (n := 5) (by omega) (show a.dep + 1 ≤ max (max a.dep b.dep) (max c.dep d.dep) + 1 by omega)
    have l2 := Nat.pow_le_pow_right (n := 5) (by omega) (show b.dep + 1 ≤ max (max a.dep b.dep) (max c.dep d.dep) + 1 by omega)
    have l3 := Nat.pow_le_pow_right (n := 5) (by omega) (show c.dep + 1 ≤ max (max a.dep b.dep) (max c.dep d.dep) + 1 by omega)
    have l4 := Nat.pow_le_pow_right (n := 5) (by omega) (show d.dep + 1 ≤ max (max a.dep b.dep) (max c.dep d.dep) + 1 by omega)
    simp only [Ex.nums, Ex.dep, Nat.pow_succ, List.length_append] at *; omega
theorem pow59 {n : Nat} (h : n ≤ 8) : 5 ^ (n + 1) ≤ 1953125 := Nat.le_trans (Nat.pow_le_pow_right (by omega) (show n + 1 ≤ 9 by omega)) (by decide)
theorem nflat_take {e : Ex} {i : Nat} {c : Kid} (h : e.kids[i]? = some c) : ((e.kids.take (i + 1)).flatMap Kid.nums) = (e.kids.take i).flatMap Kid.nums ++ c.nums := by
  rw [List.take_add_one, h]; simp
theorem nflat_le {e : Ex} (i : Nat) (h : e.isNum = false) : (e.own ++ (e.kids.take i).flatMap Kid.nums).length ≤ e.nums.length := by
  rw [nums_kids h]
  conv => rhs; rw [← List.take_append_drop i e.kids]
  rw [List.flatMap_append, List.length_append, List.length_append, List.length_append]; omega
theorem hd_num {e : Ex} (h : e.isNum = false) : decide (e.hd = ([110, 117, 109, 98, 101, 114] : List Nat)) = false := by
  cases e with
  | bin o a b => cases o <;> rfl
  | num _ => cases h
  | _ => rfl
theorem c_nums : ∀ (n : Nat) (e : Ex), e.dep ≤ n → n ≤ 8 → ∀ {k : Nat}, n + 1 ≤ k → ∀ {h : PH} {Q : QV}, (∀ p, h p = none → Q (.ref p) (up h p (.lst (e.nums.map .int)))) → (wC cl k)._law_numbers_in [e.P] h Q := by
  intro n
  induction n with
  | zero => exact fun e he h9 {k} hk {h Q} q => body 0 (fun c hc => absurd hc (by omega)) e he h9 hk q
  | succ n ih => exact fun e he h9 {k} hk {h Q} q => body (n + 1) (fun c hc => by
      intro k' hk' h' Q' q'
      exact ih c (by omega) (by omega) (by omega) q') e he h9 hk q
where
  body (n : Nat) (ih : ∀ c : Ex, c.dep + 1 ≤ n → ∀ {k : Nat}, n ≤ k → ∀ {h : PH} {Q : QV}, (∀ p, h p = none → Q (.ref p) (up h p (.lst (c.nums.map .int)))) → (wC cl k)._law_numbers_in [c.P] h Q) (e : Ex) (he : e.dep ≤ n) (h9 : n ≤ 8) {k : Nat} (hk : n + 1 ≤ k) {h : PH} {Q : QV}
      (q : ∀ p, h p = none → Q (.ref p) (up h p (.lst (e.nums.map .int)))) : (wC cl k)._law_numbers_in [e.P] h Q := by
    obtain ⟨k, rfl⟩ : ∃ j, k = j + 1 := ⟨k - 1, by omega⟩
    show zFn _ _ (b__law_numbers_in cl (wC cl k)) _ h Q
    unfold b__law_numbers_in
    cases hn : e.isNum with
    | true =>
      cases e <;> first | (cases hn; done) | skip
      rename_i m
      simp only [Ex.P]
      dsimp! []
      rw [zSeq_x]; dsimp! []
      exact ⟨by decide, fun p np => ⟨_, G.Sub.refl _, q p np⟩⟩
    | false =>
    cases hc : e.isCell with
    | true =>
      cases e <;> first | (cases hc; done) | skip
      rename_i x os
      simp only [Ex.P]
      dsimp! []
      rw [zSeq_x]; dsimp! [show decide (([99, 101, 108, 108] : List Nat) = ([110, 117, 109, 98, 101, 114] : List Nat)) = false from rfl]
      refine ⟨by decide, fun p0 np0 => ?_⟩
      rw [zSeq_x]; dsimp! [show decide (([99, 101, 108, 108] : List Nat) = ([115, 99, 97, 108, 101] : List Nat)) = false from rfl]
      rw [zSeq_x]
      dsimp! [cut_from (show (0 : Int) ≤ 1 by omega), show (1 : Int).toNat = 1 from rfl, List.drop_succ_cons, List.drop_zero]
      refine forW_V (fun i ρ' h' => ∃ (x' : Option PV), ρ' = [some (.tup [(PV.str [99, 101, 108, 108]), .str x, .tup (os.map .int)]), some (.ref p0), x'] ∧ h' = up h p0 (.lst [])) ⟨none, rfl, rfl⟩ ?_ ?_
      · rintro i _ _ p ep ⟨x', rfl, rfl⟩
        have hp : p = .str x ∨ p = .tup (os.map .int) := by
          match i, ep with
          | 0, ep => left; simpa using ep.symm
          | 1, ep => right; simpa using ep.symm
          | j + 2, ep => simp at ep
        rcases hp with rfl | rfl
        · dsimp! [show decide (Ty.tuple = Ty.str) = false from rfl]
          exact ⟨_, G.Sub.refl _, some (.str x), rfl, rfl⟩
        · dsimp! [show decide (Ty.tuple = Ty.tuple) = true from rfl, Bool.not_true]
          exact ⟨_, G.Sub.refl _, some (.tup (os.map .int)), rfl, rfl⟩
      · rintro _ _ ⟨x', rfl, rfl⟩
        dsimp! []
        exact ⟨_, G.Sub.refl _, q p0 np0⟩
    | false =>
      rw [Ex.P_kids hc]
      dsimp! []
      rw [zSeq_x]; dsimp! [hd_num hn]
      refine ⟨by decide, fun p0 np0 => ?_⟩
      refine zSeq_key (fun ρ' h' => ρ' = [some (.tup (.str e.hd :: e.kids.map Kid.P)), some (.ref p0), none] ∧ h' = up h p0 (.lst (e.own.map .int))) ?_ fun X kx => ?_
      rotate_left
      · by_cases hs : e.hd = ([115, 99, 97, 108, 101] : List Nat)
        · dsimp! [hs]
          cases e with
          | scl m a =>
            simp only [Ex.kids, List.map_cons, List.map_nil, Kid.P]
            dsimp! []
            exact ⟨by decide, kx _ _ ⟨rfl, rfl⟩⟩
          | bin o a b => cases o <;> (revert hs; simp [Ex.hd, Op2.cs])
          | num _ => revert hs; simp [Ex.hd]
          | ctr _ => revert hs; simp [Ex.hd]
          | cell _ _ => revert hs; simp [Ex.hd]
          | neg _ => revert hs; simp [Ex.hd]
          | pick _ _ _ _ _ => revert hs; simp [Ex.hd]
        · dsimp! [hs]
          refine kx _ _ ⟨rfl, ?_⟩
          have : e.own = [] := by cases e <;> first | rfl | exact absurd rfl hs
          rw [this]; rfl
      rintro _ _ ⟨rfl, rfl⟩
      rw [zSeq_x]
      dsimp! [cut_from (show (0 : Int) ≤ 1 by omega), show (1 : Int).toNat = 1 from rfl, List.drop_succ_cons, List.drop_zero]
      refine forW_V (fun i ρ' h' => ∃ (p : Addr) (x : Option PV), ρ' = [some (.tup (.str e.hd :: e.kids.map Kid.P)), some (.ref p), x] ∧ Kp [] h h' ∧ h p = none ∧ h' p = some (.lst ((e.own ++ (e.kids.take i).flatMap Kid.nums).map .int))) ⟨p0, none, rfl, kp_new np0, np0, by rw [up_same]; simp⟩ ?_ ?_
      · rintro i _ h1 p ep ⟨pl, x, rfl, k1, n1, e1⟩
        rw [List.getElem?_map] at ep
        obtain ⟨c, ec, rfl⟩ := Option.map_eq_some_iff.mp ep
        cases c with
        | val v =>
          have fin : ∃ h2, G.Sub h2 h1 ∧ ∃ (p : Addr) (x : Option PV), [some (PV.tup (.str e.hd :: e.kids.map Kid.P)), some (.ref pl), some v] = [some (.tup (.str e.hd :: e.kids.map Kid.P)), some (.ref p), x] ∧ Kp [] h h2 ∧ h p = none ∧ h2 p = some (.lst ((e.own ++ (e.kids.take (i + 1)).flatMap Kid.nums).map .int)) :=
            ⟨h1, G.Sub.refl _, pl, some v, rfl, k1, n1, by rw [nflat_take ec]; simpa [Kid.nums] using e1⟩
          rcases kid_val (List.mem_of_getElem? ec) with ⟨m, rfl⟩ | ⟨m, rfl⟩
          · simp only [Kid.P]
            dsimp! [show decide (Ty.tuple = Ty.int) = false from rfl]
            exact fin
          · simp only [Kid.P]
            dsimp! [show decide (Ty.tuple = Ty.str) = false from rfl]
            exact fin
        | ex c =>
          obtain ⟨r, er⟩ := Ex.P_tup c
          simp only [Kid.P]
          have hcall : (wC cl k)._law_numbers_in [c.P] h1 (fun q h2 => zAdd (.ref pl) q h2 fun p h1 => ∃ h2, G.Sub h2 h1 ∧ ∃ (p_1 : Addr) (x : Option PV), [some (PV.tup (.str e.hd :: e.kids.map Kid.P)), some p, some c.P] = [some (.tup (.str e.hd :: e.kids.map Kid.P)), some (.ref p_1), x] ∧ Kp [] h h2 ∧ h p_1 = none ∧ h2 p_1 = some (.lst ((e.own ++ (e.kids.take (i + 1)).flatMap Kid.nums).map .int))) := by
            have hcd := kid_dep (List.mem_of_getElem? ec)
            refine ih c (by omega) (by omega) fun p2 n2 => ?_
            have ne : pl ≠ p2 := by rintro rfl; rw [e1] at n2; cases n2
            dsimp! [up_ne ne, e1]
            refine ⟨?_, fun p3 n3 => ?_⟩
            · have b1 := nflat_le i hn
              have b2 := nums_len e
              have b3 := pow59 (show e.dep ≤ 8 by omega)
              have b4 := nums_len c
              have b5 := pow59 (show c.dep ≤ 8 by omega)
              rw [sizeLine_eq, List.length_map, List.length_map]; omega
            · have k3 : Kp [] h (up (up h1 p2 (.lst (c.nums.map .int))) p3 (.lst ((e.own ++ (e.kids.take i).flatMap Kid.nums).map .int ++ c.nums.map .int))) := (k1.new n2).new n3
              exact ⟨_, G.Sub.refl _, p3, some c.P, rfl, k3, kp_fresh (k1.new n2) n3, by rw [up_same, nflat_take ec, ← List.append_assoc, List.map_append (l₁ := e.own ++ _)]; rfl⟩
          have hcd : decide (e.hd = ([99, 101, 108, 108] : List Nat)) = false := hd_cell hc
          rw [er] at hcall ⊢
          dsimp! [show decide (Ty.tuple = Ty.tuple) = true from rfl, hcd, Bool.not_false]
          exact hcall
      · rintro _ h1 ⟨pl, x, rfl, k1, n1, e1⟩
        rw [List.length_map, List.take_length, ← nums_kids hn] at e1
        dsimp! []
        exact new_out k1 n1 e1 (q pl n1)

theorem hd_pl (e : Ex) : (PV.str e.hd).pl = true := by
  cases e with
  | bin o a b => cases o <;> rfl
  | _ => rfl
theorem dp_str (x : List Nat) : (PV.str x).dp = 0 := rfl
theorem ints_app {l : List Int} : intsP (l.map .int) = some l := ints_map l
/-- how many tokens: some whole number -/
theorem c_tokens : ∀ (n : Nat) (e : Ex), e.dep ≤ n → e.wf → ∀ {k : Nat}, n + 1 ≤ k → ∀ {ov : List PV} {h : PH} {Q : QV}, (∀ z : Int, Q (.int z) h) → (wC cl k)._law_token_count [.tup ov, e.P] h Q := by
  intro n
  induction n with
  | zero => exact fun e he hw {k} hk {ov h Q} q => body 0 (fun c hc => absurd hc (by omega)) e he hw hk q
  | succ n ih => exact fun e he hw {k} hk {ov h Q} q => body (n + 1) (fun c hc hw => by
      intro k' hk' ov' h' Q' q'
      exact ih c (by omega) hw (by omega) q') e he hw hk q
where
  body (n : Nat) (ih : ∀ c : Ex, c.dep + 1 ≤ n → c.wf → ∀ {k : Nat}, n ≤ k → ∀ {ov : List PV} {h : PH} {Q : QV}, (∀ z : Int, Q (.int z) h) → (wC cl k)._law_token_count [.tup ov, c.P] h Q) (e : Ex) (he : e.dep ≤ n) (hw : e.wf) {k : Nat} (hk : n + 1 ≤ k) {ov : List PV} {h : PH} {Q : QV}
      (q : ∀ z : Int, Q (.int z) h) : (wC cl k)._law_token_count [.tup ov, e.P] h Q := by
    obtain ⟨k, rfl⟩ : ∃ j, k = j + 1 := ⟨k - 1, by omega⟩
    show zFn _ _ (b__law_token_count cl (wC cl k)) _ h Q
    unfold b__law_token_count
    have two : ∀ z : Int, CMulA 2 z := fun z => mulR ⟨by decide, by decide⟩
    have inb : ∀ (b : Bool) (z : Int) (h1 : PH), G.Sub h h1 → ∃ h2, G.Sub h2 h1 ∧ Q (.int (z + 2 * (if b = true then 1 else 0))) h2 := fun b z h1 u => ⟨h, u, q _⟩
    have outz : ∀ (z : Int) (h1 : PH), G.Sub h h1 → ∃ h2, G.Sub h2 h1 ∧ Q (.int z) h2 := fun z h1 u => ⟨h, u, q _⟩
    have kid : ∀ (c : Ex) {h1 : PH} {R : QV}, Kid.ex c ∈ e.kids → (∀ z : Int, R (.int z) h1) → (wC cl k)._law_token_count [.tup ov, c.P] h1 R := fun c {h1 R} hc r => ih c (by have := kid_dep hc; omega) (kid_al hw hc) (by omega) r
    cases e with
    | num m =>
      simp only [Ex.P]
      dsimp! []
      rw [zSeq_x]; dsimp! []
      exact outz _ _ (G.Sub.refl _)
    | ctr m =>
      simp only [Ex.P]
      dsimp! []
      rw [zSeq_x]; dsimp! [show decide (([99, 111, 117, 110, 116, 101, 114] : List Nat) = ([110, 117, 109, 98, 101, 114] : List Nat)) = false from rfl]
      exact outz _ _ (G.Sub.refl _)
    | cell x os =>
      simp only [Ex.P]
      dsimp! []
      rw [zSeq_x]; dsimp! [show decide (([99, 101, 108, 108] : List Nat) = ([110, 117, 109, 98, 101, 114] : List Nat)) = false from rfl, show decide (([99, 101, 108, 108] : List Nat) = ([99, 111, 117, 110, 116, 101, 114] : List Nat)) = false from rfl]
      rw [zSeq_x]; dsimp! []
      refine ⟨two _, ?_⟩
      refine lcP_V (fun p => match p with | .int i => !decide (i = 0) | _ => true) (fun p => p) (by rw [sizeLine_eq, List.length_map]; have := hw.2; omega) (fun p hp R acc r => ?_) ?_
      · obtain ⟨i, _, rfl⟩ := List.mem_map.mp hp
        dsimp! []
        by_cases hi : i = 0
        · simp only [hi, decide_true, Bool.not_true, Bool.false_eq_true, if_false] at r ⊢
          exact r
        · simp only [hi, decide_false, Bool.not_false, if_true] at r ⊢
          exact r
      · intro D nD
        dsimp! []
        exact ⟨two _, outz _ _ (back_self nD)⟩
    | neg a =>
      obtain ⟨r, er⟩ := Ex.P_tup a
      simp only [Ex.P]
      dsimp! []
      rw [zSeq_x]; dsimp! [show decide (([110, 101, 103, 97, 116, 101] : List Nat) = ([110, 117, 109, 98, 101, 114] : List Nat)) = false from rfl, show decide (([110, 101, 103, 97, 116, 101] : List Nat) = ([99, 111, 117, 110, 116, 101, 114] : List Nat)) = false from rfl]
      rw [zSeq_x]; dsimp! [show decide (([110, 101, 103, 97, 116, 101] : List Nat) = ([99, 101, 108, 108] : List Nat)) = false from rfl]
      rw [zSeq_x]; dsimp! []
      refine kid a (by simp [Ex.kids]) fun z => ?_
      rw [er]
      dsimp! []
      refine ⟨by decide, fun p np => ?_⟩
      dsimp! [hd_pl a]
      exact ⟨by show 0 ≤ 64; omega, rfl, by decide, two _, inb _ _ _ (back_self np)⟩
    | scl m a =>
      obtain ⟨r, er⟩ := Ex.P_tup a
      simp only [Ex.P]
      dsimp! []
      rw [zSeq_x]; dsimp! [show decide (([115, 99, 97, 108, 101] : List Nat) = ([110, 117, 109, 98, 101, 114] : List Nat)) = false from rfl, show decide (([115, 99, 97, 108, 101] : List Nat) = ([99, 111, 117, 110, 116, 101, 114] : List Nat)) = false from rfl]
      rw [zSeq_x]; dsimp! [show decide (([115, 99, 97, 108, 101] : List Nat) = ([99, 101, 108, 108] : List Nat)) = false from rfl]
      rw [zSeq_x]; dsimp! [show decide (([115, 99, 97, 108, 101] : List Nat) = ([110, 101, 103, 97, 116, 101] : List Nat)) = false from rfl]
      rw [zSeq_x]; dsimp! []
      refine kid a (by simp [Ex.kids]) fun z => ?_
      rw [er]
      dsimp! []
      refine ⟨by decide, fun p np => ?_⟩
      dsimp! [hd_pl a]
      exact ⟨by show 0 ≤ 64; omega, rfl, by decide, two _, inb _ _ _ (back_self np)⟩
    | bin o a b =>
      obtain ⟨r, er⟩ := Ex.P_tup b
      obtain ⟨ra, era⟩ := Ex.P_tup a
      have hh : decide (o.cs = ([110, 117, 109, 98, 101, 114] : List Nat)) = false ∧ decide (o.cs = ([99, 111, 117, 110, 116, 101, 114] : List Nat)) = false ∧ decide (o.cs = ([99, 101, 108, 108] : List Nat)) = false ∧ decide (o.cs = ([110, 101, 103, 97, 116, 101] : List Nat)) = false ∧ decide (o.cs = ([115, 99, 97, 108, 101] : List Nat)) = false ∧ decide (o.cs = ([112, 105, 99, 107] : List Nat)) = false := by cases o <;> decide
      simp only [Ex.P]
      dsimp! []
      rw [zSeq_x]; dsimp! [hh.1, hh.2.1]
      rw [zSeq_x]; dsimp! [hh.2.2.1]
      rw [zSeq_x]; dsimp! [hh.2.2.2.1]
      rw [zSeq_x]; dsimp! [hh.2.2.2.2.1]
      dsimp! [cut_from (show (0 : Int) ≤ 1 by omega), show (1 : Int).toNat = 1 from rfl, List.drop_succ_cons, List.drop_zero]
      refine lcW_V (ps := [a.P, b.P]) (by show 2 ≤ sizeLine; decide) (fun i acc h' => h = h' ∧ ∃ zs : List Int, acc = zs.map .int ∧ zs.length = i) ⟨rfl, [], rfl, rfl⟩ (fun i acc h' ⟨_, zs, e1, e2⟩ => by rw [e1, List.length_map, e2]; exact Nat.le_refl _) ?_ ?_
      · rintro i _ _ p ep ⟨rfl, zs, rfl, lz⟩
        have hp : ∃ c : Ex, p = c.P ∧ Kid.ex c ∈ (Ex.bin o a b).kids := by
          match i, ep with
          | 0, ep => exact ⟨a, by simpa using ep.symm, by simp [Ex.kids]⟩
          | 1, ep => exact ⟨b, by simpa using ep.symm, by simp [Ex.kids]⟩
          | j + 2, ep => simp at ep
        obtain ⟨c, rfl, hc⟩ := hp
        obtain ⟨rc, erc⟩ := Ex.P_tup c
        have hcall := kid c hc (h1 := h) (R := fun y h4 => ∃ h5, G.Sub h5 h4 ∧ h = h5 ∧ ∃ zs' : List Int, zs.map .int ++ [y] = zs'.map .int ∧ zs'.length = i + 1) fun z => ⟨h, G.Sub.refl _, rfl, zs ++ [z], by simp, by simp [lz]⟩
        rw [erc] at hcall ⊢
        dsimp! [show decide (Ty.tuple = Ty.tuple) = true from rfl]
        exact hcall
      · rintro _ _ ⟨rfl, zs, rfl, lz⟩ D nD
        dsimp! [ints_map]
        rw [zSeq_x]; dsimp! [hh.2.2.2.2.2]
        rw [zSeq_x]
        by_cases hpm : o.cs = ([112, 108, 117, 115] : List Nat) ∨ o.cs = ([109, 105, 110, 117, 115] : List Nat)
        · have e2 : b.P = .tup (.str b.hd :: r) := er
          have hif : ∀ {α : Prop}, True := fun {α} => trivial
          rcases hpm with hp | hp
          · dsimp! [hp, er]
            refine ⟨by decide, fun p np => ?_⟩
            dsimp! [hd_pl b]
            exact ⟨by show 0 ≤ 64; omega, rfl, by decide, two _, inb _ _ _ ((back_self nD).trans (back_self np))⟩
          · dsimp! [hp, er, show decide (([109, 105, 110, 117, 115] : List Nat) = ([112, 108, 117, 115] : List Nat)) = false from rfl]
            refine ⟨by decide, fun p np => ?_⟩
            dsimp! [hd_pl b]
            exact ⟨by show 0 ≤ 64; omega, rfl, by decide, two _, inb _ _ _ ((back_self nD).trans (back_self np))⟩
        · have h1 : decide (o.cs = ([112, 108, 117, 115] : List Nat)) = false := decide_eq_false fun z => hpm (.inl z)
          have h2 : decide (o.cs = ([109, 105, 110, 117, 115] : List Nat)) = false := decide_eq_false fun z => hpm (.inr z)
          dsimp! [h1, h2]
          exact outz _ _ (back_self nD)
    | pick s a b c d =>
      simp only [Ex.P]
      dsimp! []
      rw [zSeq_x]; dsimp! [show decide (([112, 105, 99, 107] : List Nat) = ([110, 117, 109, 98, 101, 114] : List Nat)) = false from rfl, show decide (([112, 105, 99, 107] : List Nat) = ([99, 111, 117, 110, 116, 101, 114] : List Nat)) = false from rfl]
      rw [zSeq_x]; dsimp! [show decide (([112, 105, 99, 107] : List Nat) = ([99, 101, 108, 108] : List Nat)) = false from rfl]
      rw [zSeq_x]; dsimp! [show decide (([112, 105, 99, 107] : List Nat) = ([110, 101, 103, 97, 116, 101] : List Nat)) = false from rfl]
      rw [zSeq_x]; dsimp! [show decide (([112, 105, 99, 107] : List Nat) = ([115, 99, 97, 108, 101] : List Nat)) = false from rfl]
      dsimp! [cut_from (show (0 : Int) ≤ 1 by omega), show (1 : Int).toNat = 1 from rfl, List.drop_succ_cons, List.drop_zero]
      refine lcW_V (ps := [.str s.cs, a.P, b.P, c.P, d.P]) (by show 5 ≤ sizeLine; decide) (fun i acc h' => h = h' ∧ ∃ zs : List Int, acc = zs.map .int ∧ zs.length ≤ i) ⟨rfl, [], rfl, Nat.zero_le _⟩ (fun i acc h' ⟨_, zs, e1, e2⟩ => by rw [e1, List.length_map]; exact e2) ?_ ?_
      · rintro i _ _ p ep ⟨rfl, zs, rfl, lz⟩
        have hp : p = .str s.cs ∨ ∃ c' : Ex, p = c'.P ∧ Kid.ex c' ∈ (Ex.pick s a b c d).kids := by
          match i, ep with
          | 0, ep => left; simpa using ep.symm
          | 1, ep => exact .inr ⟨a, by simpa using ep.symm, by simp [Ex.kids]⟩
          | 2, ep => exact .inr ⟨b, by simpa using ep.symm, by simp [Ex.kids]⟩
          | 3, ep => exact .inr ⟨c, by simpa using ep.symm, by simp [Ex.kids]⟩
          | 4, ep => exact .inr ⟨d, by simpa using ep.symm, by simp [Ex.kids]⟩
          | j + 5, ep => simp at ep
        rcases hp with rfl | ⟨c', rfl, hc⟩
        · dsimp! [show decide (Ty.tuple = Ty.str) = false from rfl]
          exact ⟨h, G.Sub.refl _, rfl, zs, rfl, by omega⟩
        · obtain ⟨rc, erc⟩ := Ex.P_tup c'
          have hcall := kid c' hc (h1 := h) (R := fun y h4 => ∃ h5, G.Sub h5 h4 ∧ h = h5 ∧ ∃ zs' : List Int, zs.map .int ++ [y] = zs'.map .int ∧ zs'.length ≤ i + 1) fun z => ⟨h, G.Sub.refl _, rfl, zs ++ [z], by simp, by simp; omega⟩
          rw [erc] at hcall ⊢
          dsimp! [show decide (Ty.tuple = Ty.tuple) = true from rfl]
          exact hcall
      · rintro _ _ ⟨rfl, zs, rfl, lz⟩ D nD
        dsimp! [ints_map]
        rw [zSeq_x]; dsimp! []
        exact outz _ _ (back_self nD)
/-- whether a line can be read: some answer -/
theorem c_read {k n : Nat} {e : Ex} {x : List Nat} {rim : Int} {ov : List PV} {h : PH} {Q : QV} (hd : e.dep ≤ n) (hn : n ≤ 8) (hw : e.wf) (hk : n + 2 ≤ k) (q : ∀ b : Bool, Q (.bl b) h) : (wC cl k)._law_can_be_read [.tup ov, .tup [.str x, .int rim, e.P]] h Q := by
  obtain ⟨k, rfl⟩ : ∃ j, k = j + 1 := ⟨k - 1, by omega⟩
  show zFn _ _ (b__law_can_be_read cl (wC cl k)) _ h Q
  unfold b__law_can_be_read
  dsimp! []
  refine ⟨mulR ⟨by decide, by decide⟩, ?_⟩
  refine zSeq_key (fun ρ' h' => ∃ z : Int, ρ' = [some (.tup ov), some (.tup [.str x, .int rim, e.P]), some (.int z), none] ∧ Kp [] h h') ?_ fun X kx => ?_
  rotate_left
  · dsimp! []
    refine c_tokens n e hd hw (by omega) fun z => ?_
    dsimp! []
    by_cases hz : 80 < 3 + 2 * (if (!decide (rim = 0)) = true then 1 else 0) + (if decide (rim < 0) = true then 1 else 0) + z
    · dsimp! [hz]
      exact ⟨h, G.Sub.refl _, q _⟩
    · dsimp! [hz]
      refine c_refs n e hd (by omega) (by omega) fun p np => ?_
      dsimp! []
      by_cases hz2 : (12 : Int) < ((e.refs.map refP).length : Nat)
      · simp only [hz2, decide_true, if_true]
        exact ⟨h, back_self np, q _⟩
      · simp only [hz2, decide_false, Bool.false_eq_true, if_false]
        exact kx _ _ ⟨_, rfl, kp_new np⟩
  · rintro _ h1 ⟨z, rfl, k1⟩
    dsimp! []
    refine c_nums n e hd hn (by omega) fun p np => ?_
    dsimp! []
    have b2 := nums_len e
    have b3 := pow59 (show e.dep ≤ 8 by omega)
    refine lcP_L (ps := e.nums.map .int) (fun _ => true) (fun p => match p with | .int i => .bl (decide (i < 10 ^ (6 : Int).toNat)) | _ => .bl true) (by rw [sizeLine_eq, List.length_map]; omega) up_same (fun p hp R acc r => ?_) ?_
    · obtain ⟨i, _, rfl⟩ := List.mem_map.mp hp
      dsimp! []
      refine ⟨⟨by decide, by decide, by decide⟩, ?_⟩
      simpa using r
    · intro D nD
      have e1 : (((e.nums.map PV.int).filter fun _ => true).map fun p => match p with | .int i => PV.bl (decide (i < 10 ^ (6 : Int).toNat)) | _ => .bl true) = (e.nums.map fun i => decide (i < 10 ^ (6 : Int).toNat)).map .bl := by
        rw [List.filter_eq_self.mpr (by simp), List.map_map, List.map_map]; rfl
      have bm : ∀ l : List Bool, blsP (l.map .bl) = some l := by
        intro l
        induction l with
        | nil => rfl
        | cons x l ih => simp [blsP, ih]
      rw [e1]
      dsimp! [bm]
      exact ⟨h, sub_of_kp ((k1.new np).new nD), q _⟩

theorem c_with_row {k : Nat} (hk : 2 ≤ k) {W : Wd} (ok : W.ok) {A : Wa} {a s : Addr} {ns : List Int} {least : Int} {h : PH} {Q : QV} {kvs : List (PV × PV)} (d : DS a ns s h) (o : A.ok s a) (w : WB W A h kvs) (hr : W.row = none) (hl : kvs.length ≤ 12)
    (q : ∀ (row : List Int) (nums : List Nat → Int) (A' : Wa) (kvs' : List (PV × PV)) h', row.length = W.many → A'.w = A.w → A'.ok s a → WB { W with row := some row, nums := nums, least := least } A' h' kvs' → kvs'.length ≤ 15 → DS a ns s h' → Kp [s, A.w] h h' → Q .non h') : (wC cl k)._law_with_row [.ref s, .ref A.w, .int least] h Q := by
  obtain ⟨k, rfl⟩ : ∃ j, k = j + 1 := ⟨k - 1, by omega⟩
  show zFn _ _ (b__law_with_row cl (wC cl k)) _ h Q
  unfold b__law_with_row
  have kz : ∀ z, keyOk false (.str z) = true := fun _ => rfl
  have hmany := ok.many
  dsimp! [w.dic, kz, w.many]
  refine ⟨by omega, by omega, ?_⟩
  refine lcW_R (by rw [sizeLine_eq]; omega) (fun i acc h' => ∃ os : List Int, acc = os.map .int ∧ os.length = i ∧ DS a ns s h' ∧ G.Fr [s] h h') ⟨[], rfl, rfl, d, G.Fr.refl _ _⟩ (fun i acc h' ⟨os, e, l, _⟩ => by rw [e, List.length_map, l]; exact Nat.le_refl _) ?_ ?_
  · rintro i _ h1 hi ⟨os, rfl, l, d1, f1⟩
    dsimp! []
    refine c_draw (by omega) d1 (by omega) (by omega) fun v h2 v0 v1 d2 f2 => ?_
    dsimp! []
    exact ⟨h2, G.Sub.refl _, os ++ [v - 2], by simp, by simp [l], d2, f1.trans f2⟩
  rintro _ h1 ⟨row0, rfl, lr0, d1, f1⟩ D nD
  have lr : row0.length = W.many := by omega
  have w1 := w.fr o f1
  have hDs := d1.ne nD
  have hDw : D ≠ A.w := by rintro rfl; rw [w1.dic] at nD; cases nD
  have nDh : h D = none := by rw [← f1 D (by simpa using hDs)]; exact nD
  have w2 := w1.put nD (x := .lst (row0.map .int))
  have d2 := d1.new nD (o := .lst (row0.map .int))
  have up2 : ∀ {g g' : PH}, G.Fr [s] g g' → Kp [s, A.w] g g' := fun f b o' n e => (f b (by simp at n ⊢; exact n.1)).trans e
  have k2 : Kp [s, A.w] h (up h1 D (.lst (row0.map .int))) := (up2 f1).new nD
  have r2 : up h1 D (.lst (row0.map .int)) D = some (.lst (row0.map .int)) := up_same
  have hrow := w2.row.1 hr
  dsimp! [w2.dic, kz]
  refine ⟨by rw [sizeLine_eq]; omega, ?_⟩
  -- row is set: what lies at the other names stays
  have oth : ∀ {kv : List (PV × PV)} {k1 v1 : PV} {k' v' : PV}, k1 ∈ [(PV.str [114, 111, 119]), (PV.str [110, 117, 109, 98, 101, 114, 115]), (PV.str [108, 101, 97, 115, 116])] → k' ∈ [(PV.str [111, 118, 101, 114]), (PV.str [109, 97, 110, 121]), (PV.str [109, 111, 115, 116]), (PV.str [114, 117, 108, 101, 95, 110, 97, 109, 101, 115]), (PV.str [103, 105, 118, 101, 110, 95, 110, 97, 109, 101, 115])] → dget kv k' = some v' → dget (dput kv k1 v1) k' = some v' := fun {kv k1 v1 k' v'} m1 m2 e => by
    rw [dget_dput, if_neg (by rintro rfl; simp only [List.mem_cons, List.not_mem_nil, or_false] at m1; rcases m1 with rfl | rfl | rfl <;> revert m2 <;> decide)]; exact e
  generalize up h1 D (.lst (row0.map .int)) = h2 at w2 d2 k2 r2 ⊢
  have l3 := len_dput_old (v := .ref D) hrow
  refine ⟨by decide, fun p np => ?_⟩
  have hpD : D ≠ p := by
    rintro rfl
    rw [up_ne hDw] at np; rw [r2] at np; cases np
  have hpw : A.w ≠ p := by rintro rfl; rw [up_same] at np; cases np
  have hps : p ≠ s := by
    rintro rfl
    obtain ⟨_, _, i, c, m, e⟩ := d2
    rw [up_ne o.w.1.symm] at np
    rw [e] at np; cases np
  have hpa : p ≠ a := by
    rintro rfl
    obtain ⟨_, e, _⟩ := d2
    rw [up_ne o.w.2.symm] at np
    rw [e] at np; cases np
  have nph : h p = none := by
    cases e : h p with
    | none => rfl
    | some ob =>
      have := k2 p ob (by simp [hps, hpw.symm]) e
      rw [up_ne hpw.symm, this] at np; cases np
  have d3 : DS a ns s (up (up h2 A.w (.dic false none (dput kvs (PV.str [114, 111, 119]) (.ref D)))) p (.lst [.int 1, .int (-1), .int 2])) := (d2.put o.w.2 o.w.1).put hpa hps
  refine c_draw (by omega) d3 (by omega) (by omega) fun v h4 v0 v1 d4 f4 => ?_
  have e4 : ∀ b, b ≠ s → h4 b = up (up h2 A.w (.dic false none (dput kvs (PV.str [114, 111, 119]) (.ref D)))) p (.lst [.int 1, .int (-1), .int 2]) b := fun b n => f4 b (by simpa using n)
  have p4 : h4 p = some (.lst [.int 1, .int (-1), .int 2]) := (e4 p hps).trans up_same
  obtain ⟨z, ez⟩ : ∃ z : Int, atI [PV.int 1, PV.int (-1), PV.int 2] v = some (.int z) := by
    rcases (show v = 0 ∨ v = 1 ∨ v = 2 by omega) with rfl | rfl | rfl
    · exact ⟨1, at0⟩
    · exact ⟨-1, at1⟩
    · exact ⟨2, at2⟩
  have w4 : h4 A.w = some (.dic false none (dput kvs (PV.str [114, 111, 119]) (.ref D))) := by rw [e4 _ o.w.1, up_ne hpw, up_same]
  have D4 : h4 D = some (.lst (row0.map .int)) := by rw [e4 _ hDs, up_ne hpD, up_ne hDw]; exact r2
  have gm : ∀ {k' v' : PV}, k' ∈ [(PV.str [111, 118, 101, 114]), (PV.str [109, 97, 110, 121]), (PV.str [109, 111, 115, 116]), (PV.str [114, 117, 108, 101, 95, 110, 97, 109, 101, 115]), (PV.str [103, 105, 118, 101, 110, 95, 110, 97, 109, 101, 115])] → dget kvs k' = some v' → dget (dput kvs (PV.str [114, 111, 119]) (.ref D)) k' = some v' := fun m e => oth (by simp) m e
  dsimp! [p4, ez, w4, kz, dget_dput, gm (k' := (PV.str [109, 97, 110, 121])) (by simp) w2.many, reduceCtorEq]
  refine c_draw (by omega) d4 (by omega) (by omega) fun i h5 i0 i1 d5 f5 => ?_
  have e5 : ∀ b, b ≠ s → h5 b = h4 b := fun b n => f5 b (by simpa using n)
  obtain ⟨j, rfl⟩ : ∃ j : Nat, i = (j : Int) := ⟨i.toNat, by omega⟩
  have D5 : h5 D = some (.lst (row0.map .int)) := (e5 _ hDs).trans D4
  dsimp! [D5, ixN_n (n := (row0.map PV.int).length) (i := j) (by rw [List.length_map]; omega), zDn_x]
  refine ⟨false, fun nd nnd => ?_⟩
  have w5 : h5 A.w = some (.dic false none (dput kvs (PV.str [114, 111, 119]) (.ref D))) := (e5 _ o.w.1).trans w4
  have hndD : D ≠ nd := by rintro rfl; rw [up_same] at nnd; cases nnd
  rw [up_ne hndD.symm] at nnd
  have hndw : A.w ≠ nd := by rintro rfl; rw [w5] at nnd; cases nnd
  have hnds : nd ≠ s := d5.ne nnd
  have hnda : nd ≠ a := d5.nea nnd
  have hDa : D ≠ a := by
    rintro rfl
    obtain ⟨_, e, _⟩ := d
    rw [nDh] at e; cases e
  have n5 : ∀ b, b ≠ s → b ≠ p → b ≠ A.w → h5 b = h2 b := fun b b1 b2 b3 => by rw [e5 b b1, e4 b b1, up_ne b2, up_ne b3]
  have ndh : h nd = none := by
    cases e : h nd with
    | none => rfl
    | some ob =>
      have x := k2 nd ob (by simp [hnds, hndw.symm]) e
      by_cases hp : nd = p
      · subst hp; rw [nph] at e; cases e
      · rw [n5 nd hnds hp hndw.symm, x] at nnd; cases nnd
  dsimp! [up_ne hndw, up_ne hDw.symm, w5, kz]
  refine ⟨by rw [sizeLine_eq]; omega, ?_⟩
  have l6 := len_dput (dput kvs (PV.str [114, 111, 119]) (.ref D)) (PV.str [110, 117, 109, 98, 101, 114, 115]) (.ref nd)
  have hrA : ∀ {b : Addr} {ob : PO}, h b = some ob → b ≠ s → b ≠ A.w → up (up (up h5 D (.lst ((row0.set j z).map .int))) nd (.dic false none [])) A.w (.dic false none (dput (dput kvs (PV.str [114, 111, 119]) (.ref D)) (PV.str [110, 117, 109, 98, 101, 114, 115]) (.ref nd))) b = some ob := fun {b ob} e b1 b2 => by
    have x := k2 b ob (by simp [b1, b2]) e
    have hbp : b ≠ p := by rintro rfl; rw [nph] at e; cases e
    have hbD : b ≠ D := by rintro rfl; rw [nDh] at e; cases e
    have hbn : b ≠ nd := by rintro rfl; rw [ndh] at e; cases e
    rw [up_ne b2, up_ne hbn, up_ne hbD, n5 b b1 hbp b2]; exact x
  have W6 : up (up (up h5 D (.lst ((row0.set j z).map .int))) nd (.dic false none [])) A.w (.dic false none (dput (dput kvs (PV.str [114, 111, 119]) (.ref D)) (PV.str [110, 117, 109, 98, 101, 114, 115]) (.ref nd))) A.w = some (.dic false none (dput (dput kvs (PV.str [114, 111, 119]) (.ref D)) (PV.str [110, 117, 109, 98, 101, 114, 115]) (.ref nd))) := up_same
  have D6 : up (up (up h5 D (.lst ((row0.set j z).map .int))) nd (.dic false none [])) A.w (.dic false none (dput (dput kvs (PV.str [114, 111, 119]) (.ref D)) (PV.str [110, 117, 109, 98, 101, 114, 115]) (.ref nd))) D = some (.lst ((row0.set j z).map .int)) := by rw [up_ne hDw, up_ne hndD, up_same]
  have N6 : up (up (up h5 D (.lst ((row0.set j z).map .int))) nd (.dic false none [])) A.w (.dic false none (dput (dput kvs (PV.str [114, 111, 119]) (.ref D)) (PV.str [110, 117, 109, 98, 101, 114, 115]) (.ref nd))) nd = some (.dic false none []) := by rw [up_ne hndw.symm, up_same]
  have S6 : DS a ns s (up (up (up h5 D (.lst ((row0.set j z).map .int))) nd (.dic false none [])) A.w (.dic false none (dput (dput kvs (PV.str [114, 111, 119]) (.ref D)) (PV.str [110, 117, 109, 98, 101, 114, 115]) (.ref nd)))) := ((d5.put hDa hDs).put hnda hnds).put o.w.2 o.w.1
  rw [← List.map_set]
  generalize up (up (up h5 D (.lst ((row0.set j z).map .int))) nd (.dic false none [])) A.w (.dic false none (dput (dput kvs (PV.str [114, 111, 119]) (.ref D)) (PV.str [110, 117, 109, 98, 101, 114, 115]) (.ref nd))) = H6 at hrA W6 D6 N6 S6 ⊢
  have K6 : Kp [s, A.w] h H6 := fun b ob nb e => hrA e (by simp at nb; exact nb.1) (by simp at nb; exact nb.2)
  have R6 : H6 A.r = some (.lst (W.rn.map .str)) := hrA w.rl o.r.1 o.r.2
  have G6 : H6 A.g = some (.lst (W.gn.map .str)) := hrA w.gl o.g.1 o.g.2
  have hnr : nd ≠ A.r := by rintro rfl; rw [w.rl] at ndh; cases ndh
  have hng : nd ≠ A.g := by rintro rfl; rw [w.gl] at ndh; cases ndh
  have gm6 : ∀ {k' v' : PV}, k' ∈ [(PV.str [111, 118, 101, 114]), (PV.str [109, 97, 110, 121]), (PV.str [109, 111, 115, 116]), (PV.str [114, 117, 108, 101, 95, 110, 97, 109, 101, 115]), (PV.str [103, 105, 118, 101, 110, 95, 110, 97, 109, 101, 115])] → dget kvs k' = some v' → dget (dput (dput kvs (PV.str [114, 111, 119]) (.ref D)) (PV.str [110, 117, 109, 98, 101, 114, 115]) (.ref nd)) k' = some v' := fun m e => oth (by simp) m (oth (by simp) m e)
  rw [zSeq_x]
  dsimp! [W6, kz, gm6 (k' := (PV.str [114, 117, 108, 101, 95, 110, 97, 109, 101, 115])) (by simp) w.rule, R6]
  refine forW_L (ps := W.rn.map .str) (fun i ρ' h' => ∃ (nk : List (PV × PV)) (x : Option PV), ρ' = [some (.ref s), some (.ref A.w), some (.int least), x, none] ∧ DS a ns s h' ∧ (∀ b, b ≠ s → b ≠ nd → h' b = H6 b) ∧ h' nd = some (.dic false none nk) ∧ nk.length ≤ i ∧ ∀ y ∈ W.rn.take i, ∃ z : Int, dget nk (.str y) = some (.int z))
    ⟨[], none, rfl, S6, fun _ _ _ => rfl, N6, Nat.le_refl _, by simp⟩ (fun i ρ' h' _ ⟨_, _, _, _, f, _⟩ => (f _ o.r.1 hnr.symm).trans R6) ?_ ?_
  · rintro i _ h7 pp ep ⟨nk, x, rfl, d7, f7, n7, l7, a7⟩
    rw [List.getElem?_map] at ep
    obtain ⟨nm, en, rfl⟩ := Option.map_eq_some_iff.mp ep
    have hil : i < W.rn.length := by
      by_cases h : i < W.rn.length
      · exact h
      · rw [List.getElem?_eq_none (by omega)] at en; cases en
    dsimp! []
    refine c_draw (by omega) d7 (by omega) (by omega) fun u h8 u0 u1 d8 f8 => ?_
    have e8 : ∀ b, b ≠ s → h8 b = h7 b := fun b n => f8 b (by simpa using n)
    have w8 : h8 A.w = some (.dic false none (dput (dput kvs (PV.str [114, 111, 119]) (.ref D)) (PV.str [110, 117, 109, 98, 101, 114, 115]) (.ref nd))) := ((e8 _ o.w.1).trans (f7 _ o.w.1 hndw)).trans W6
    have n8 : h8 nd = some (.dic false none nk) := (e8 _ hnds).trans n7
    have gn : dget (dput (dput kvs (PV.str [114, 111, 119]) (.ref D)) (PV.str [110, 117, 109, 98, 101, 114, 115]) (.ref nd)) (PV.str [110, 117, 109, 98, 101, 114, 115]) = some (.ref nd) := by rw [dget_dput, if_pos rfl]
    have hrn := ok.rn
    dsimp! [w8, kz, gn, n8]
    refine ⟨by rw [sizeLine_eq]; omega, _, G.Sub.refl _, dput nk (.str nm) (.int u), some (.str nm), rfl, d8.put hnda hnds, fun b b1 b2 => ?_, up_same, by have := len_dput nk (.str nm) (.int u); omega, fun y hy => ?_⟩
    · rw [up_ne b2, e8 b b1]; exact f7 b b1 b2
    · rw [dget_dput]
      by_cases hyn : PV.str y = .str nm
      · exact ⟨u, by rw [if_pos hyn]⟩
      · rw [if_neg hyn]
        rw [List.take_add_one, en] at hy
        rcases List.mem_append.mp hy with hy | hy
        · exact a7 y hy
        · simp at hy; exact absurd (by rw [hy]) hyn
  · rintro _ h7 ⟨nk, x, rfl, d7, f7, n7, l7, a7⟩
    have w7 : h7 A.w = some (.dic false none (dput (dput kvs (PV.str [114, 111, 119]) (.ref D)) (PV.str [110, 117, 109, 98, 101, 114, 115]) (.ref nd))) := (f7 _ o.w.1 hndw).trans W6
    dsimp! [w7, kz]
    refine ⟨by rw [sizeLine_eq]; omega, ?_⟩
    have l8 := len_dput (dput (dput kvs (PV.str [114, 111, 119]) (.ref D)) (PV.str [110, 117, 109, 98, 101, 114, 115]) (.ref nd)) (PV.str [108, 101, 97, 115, 116]) (.int least)
    have gm7 : ∀ {k' v' : PV}, k' ∈ [(PV.str [111, 118, 101, 114]), (PV.str [109, 97, 110, 121]), (PV.str [109, 111, 115, 116]), (PV.str [114, 117, 108, 101, 95, 110, 97, 109, 101, 115]), (PV.str [103, 105, 118, 101, 110, 95, 110, 97, 109, 101, 115])] → dget kvs k' = some v' → dget (dput (dput (dput kvs (PV.str [114, 111, 119]) (.ref D)) (PV.str [110, 117, 109, 98, 101, 114, 115]) (.ref nd)) (PV.str [108, 101, 97, 115, 116]) (.int least)) k' = some v' := fun m e => oth (by simp) m (gm6 m e)
    rw [List.length_map, List.take_length] at a7
    refine ⟨_, G.Sub.refl _, q (row0.set j z) (fun y => match dget nk (.str y) with | some (.int z) => z | _ => 0) ⟨A.w, A.r, A.g, D, nd⟩ _ _ (by rw [List.length_set]; exact lr) rfl ⟨o.w, o.r, o.g, ⟨hDs, hDw⟩, ⟨hnds, hndw.symm⟩⟩
      ⟨up_same, by omega, gm7 (by simp) w.many, gm7 (by simp) w.most, gm7 (by simp) w.rule, gm7 (by simp) w.given, ?_, ?_, gm7 (by simp) w.over, ⟨(fun e => nomatch e), fun row e => ?_⟩⟩ (by omega) (d7.put o.w.2 o.w.1) ?_⟩
    · show up h7 A.w _ A.r = _
      rw [up_ne o.r.2, f7 _ o.r.1 hnr.symm]; exact R6
    · show up h7 A.w _ A.g = _
      rw [up_ne o.g.2, f7 _ o.g.1 hng.symm]; exact G6
    · cases e
      refine ⟨?_, ?_, by rw [List.length_set]; exact lr, ?_, ⟨nk, ?_, fun y hy => ?_⟩, by rw [dget_dput, if_pos rfl]⟩
      · show dget _ _ = some (PV.ref D)
        rw [dget_dput, if_neg (by decide), dget_dput, if_neg (by decide), dget_dput, if_pos rfl]
      · show up h7 A.w _ D = _
        rw [up_ne hDw, f7 _ hDs hndD]; exact D6
      · show dget _ _ = some (PV.ref nd)
        rw [dget_dput, if_neg (by decide), dget_dput, if_pos rfl]
      · show up h7 A.w _ nd = _
        rw [up_ne hndw.symm]; exact n7
      · obtain ⟨z, ez⟩ := a7 y hy
        show dget nk (.str y) = some (PV.int (match dget nk (.str y) with | some (.int z) => z | _ => 0))
        rw [ez]
    · intro b ob nb e
      have nb' := nb
      simp only [List.mem_cons, List.not_mem_nil, or_false, not_or] at nb'
      have hbn : b ≠ nd := by rintro rfl; rw [ndh] at e; cases e
      rw [up_ne nb'.2, f7 b nb'.1 hbn]
      exact K6 b ob nb e

/-! ### places, boxes, rows -/
abbrev tI (os : List Int) : PV := .tup (os.map .int)
def atO (p os : List Int) : List Int := List.zipWith (· + ·) p os
def inB (sz p : List Int) : Bool := (List.range sz.length).all fun i => decide (0 ≤ p.getD i 0) && decide (p.getD i 0 < sz.getD i 0)
theorem getD_at {l : List Int} {i : Nat} (h : i < l.length) : l.getD i 0 = l[i] := by rw [List.getD_eq_getElem?_getD, List.getElem?_eq_getElem h]; rfl
theorem atO_len {p os : List Int} (h : p.length = os.length) : (atO p os).length = p.length := by unfold atO; rw [List.length_zipWith]; omega
theorem ints_at {l : List Int} {i : Nat} (h : i < l.length) : (l.map PV.int)[i]? = some (.int (l.getD i 0)) := by
  rw [List.getElem?_map, List.getElem?_eq_getElem h, getD_at h]; rfl
theorem range_int (n : Nat) (f : PV → PV) : ((((List.range n).map fun i : Nat => PV.int ((0 : Int) + i)).filter fun _ => true).map f) = (List.range n).map fun i : Nat => f (.int (i : Int)) := by
  rw [List.filter_eq_self.mpr (by simp), List.map_map]
  simp
theorem c_at_offsets {k : Nat} (hk : 1 ≤ k) {p os : List Int} (hl : p.length = os.length) (hs : p.length ≤ 1000) {h : PH} {Q : QV} (q : Q (tI (atO p os)) h) : (wC cl k)._law_at_offsets [tI p, tI os] h Q := by
  obtain ⟨k, rfl⟩ : ∃ j, k = j + 1 := ⟨k - 1, by omega⟩
  show zFn _ _ (b__law_at_offsets cl (wC cl k)) _ h Q
  unfold b__law_at_offsets
  dsimp! [List.length_map]
  refine ⟨by omega, by omega, ?_⟩
  refine lcP_R (fun _ => true) (fun x => match x with | .int i => .int (p.getD i.toNat 0 + os.getD i.toNat 0) | _ => .non) (by rw [sizeLine_eq]; omega) (fun i hi R acc h1 => ?_) ?_
  · rw [if_pos rfl] at h1
    have hi' : i < p.length := by omega
    dsimp! [Int.zero_add, atN, ints_at hi', ints_at (show i < os.length by omega)]
    simpa using h1
  · intro D nD
    rw [range_int, Int.toNat_natCast]
    have e : ((List.range p.length).map fun i : Nat => (PV.int (p.getD (i : Int).toNat 0 + os.getD (i : Int).toNat 0))) = (atO p os).map .int := by
      apply List.ext_getElem
      · simp [atO_len hl]
      · intro i h1 h2
        have hi : i < p.length := by simpa using h1
        simp only [List.getElem_map, List.getElem_range, Int.toNat_natCast, atO, List.getElem_zipWith]
        rw [getD_at hi, getD_at (show i < os.length by omega)]
    simp only [] at e ⊢
    rw [e]
    dsimp! []
    exact ⟨h, back_self nD, q⟩
theorem bls_map {α : Type} (f : α → Bool) : ∀ l : List α, blsP (l.map fun a => .bl (f a)) = some (l.map f)
  | [] => rfl
  | a :: l => by simp [blsP, bls_map f l]

/-! ### shifted -/
def addP : PV → PV
  | .tup [.int a, .int b] => .int (a + b)
  | _ => .non
theorem zip_ints (p os : List Int) : zipP (p.map .int) (os.map .int) = List.zipWith (fun a b => PV.tup [.int a, .int b]) p os := by
  unfold zipP
  rw [List.zipWith_map]
theorem zip_int_of {p os : List Int} {x : PV} (h : x ∈ zipP (p.map .int) (os.map .int)) : ∃ a b, x = .tup [.int a, .int b] := by
  rw [zip_ints] at h
  obtain ⟨i, hi, e⟩ := List.mem_iff_getElem.mp h
  rw [List.getElem_zipWith] at e
  exact ⟨_, _, e.symm⟩
theorem zip_add (p os : List Int) : (zipP (p.map .int) (os.map .int)).map addP = (atO p os).map .int := by
  rw [zip_ints, atO, List.map_zipWith, List.map_zipWith]
  rfl
theorem c_shifted {k : Nat} (hk : 1 ≤ k) {p os : List Int} (hs : p.length ≤ 1000) {h : PH} {Q : QV} (q : Q (tI (atO p os)) h) : (wC cl k).shifted [tI p, tI os] h Q := by
  obtain ⟨k, rfl⟩ : ∃ j, k = j + 1 := ⟨k - 1, by omega⟩
  show zFn _ _ (b_shifted cl (wC cl k)) _ h Q
  unfold b_shifted
  dsimp! [zsZip_x, zsZipI_t]
  refine lcP_V (fun _ => true) addP ?_ (fun x hx R acc h1 => ?_) ?_
  · rw [zip_ints, List.length_zipWith, sizeLine_eq]; omega
  · rw [if_pos rfl] at h1
    obtain ⟨a, b, rfl⟩ := zip_int_of hx
    dsimp! []
    exact h1
  · intro D nD
    rw [List.filter_eq_self.mpr (by simp), zip_add]
    dsimp! []
    exact ⟨h, back_self nD, q⟩

def zExtO (l : Addr) (ys : List PV) : Option PO → PH → QV → Prop
  | some (.lst xs), h, Q => xs.length + ys.length ≤ sizeLine ∧ Q .non (up h l (.lst (xs ++ ys)))
  | _, _, _ => False
def zExtP (l : Addr) : Option PO → Option PO → PH → QV → Prop
  | some (.lst xs), some (.lst ys), h, Q => xs.length + ys.length ≤ sizeLine ∧ Q .non (up h l (.lst (xs ++ ys)))
  | _, _, _, _ => False
theorem zExt_t {l : Addr} {ys : List PV} {h : PH} {Q : QV} : zExtend (.ref l) [.tup ys] h Q = zExtO l ys (h l) h Q := by
  simp only [zExtend]
  cases h l with
  | none => rfl
  | some o => cases o <;> rfl
theorem zExt_r {l b : Addr} {h : PH} {Q : QV} : zExtend (.ref l) [.ref b] h Q = zExtP l (h l) (h b) h Q := by
  simp only [zExtend]
  cases h l with
  | none => rfl
  | some o => cases o <;> cases h b <;> first | rfl | (rename_i p; cases p <;> rfl)
theorem zExtO_l {l : Addr} {xs ys : List PV} {h : PH} {Q : QV} : zExtO l ys (some (.lst xs)) h Q = (xs.length + ys.length ≤ sizeLine ∧ Q .non (up h l (.lst (xs ++ ys)))) := rfl
theorem zExtP_l {l : Addr} {xs ys : List PV} {h : PH} {Q : QV} : zExtP l (some (.lst xs)) (some (.lst ys)) h Q = (xs.length + ys.length ≤ sizeLine ∧ Q .non (up h l (.lst (xs ++ ys)))) := rfl

theorem c_references_in : ∀ (n : Nat) (e : Ex), e.dep ≤ n → n ≤ 9 → ∀ {k : Nat}, n + 1 ≤ k → ∀ {h : PH} {Q : QV}, (∀ p, h p = none → Q (.ref p) (up h p (.lst (e.refs.map refP)))) → (wC cl k).references_in [e.P] h Q := by
  intro n
  induction n with
  | zero => exact fun e he h9 {k} hk {h Q} q => body 0 (fun c hc => absurd hc (by omega)) e he h9 hk q
  | succ n ih => exact fun e he h9 {k} hk {h Q} q => body (n + 1) (fun c hc => by
      intro k' hk' h' Q' q'
      exact ih c (by omega) (by omega) (by omega) q') e he h9 hk q
where
  body (n : Nat) (ih : ∀ c : Ex, c.dep + 1 ≤ n → ∀ {k : Nat}, n ≤ k → ∀ {h : PH} {Q : QV}, (∀ p, h p = none → Q (.ref p) (up h p (.lst (c.refs.map refP)))) → (wC cl k).references_in [c.P] h Q) (e : Ex) (he : e.dep ≤ n) (h9 : n ≤ 9) {k : Nat} (hk : n + 1 ≤ k) {h : PH} {Q : QV}
      (q : ∀ p, h p = none → Q (.ref p) (up h p (.lst (e.refs.map refP)))) : (wC cl k).references_in [e.P] h Q := by
    obtain ⟨k, rfl⟩ : ∃ j, k = j + 1 := ⟨k - 1, by omega⟩
    show zFn _ _ (b_references_in cl (wC cl k)) _ h Q
    unfold b_references_in
    cases hc : e.isCell with
    | true =>
      cases e <;> first | (cases hc; done) | skip
      rename_i x os
      show zFn _ _ _ [refP (x, os)] h Q
      unfold refP
      dsimp! []
      rw [zSeq_x]; dsimp! []
      exact ⟨by decide, fun p np => ⟨_, G.Sub.refl _, q p np⟩⟩
    | false =>
      rw [Ex.P_kids hc]
      dsimp! []
      rw [zSeq_x]; dsimp! [hd_cell hc]
      refine ⟨by decide, fun p0 np0 => ?_⟩
      rw [zSeq_x]
      dsimp! [cut_from (show (0 : Int) ≤ 1 by omega), show (1 : Int).toNat = 1 from rfl, List.drop_succ_cons, List.drop_zero]
      refine forW_V (fun i ρ' h' => ∃ (x : Option PV), ρ' = [some (.tup (.str e.hd :: e.kids.map Kid.P)), some (.ref p0), x] ∧ Kp [] h h' ∧ h' p0 = some (.lst (((e.kids.take i).flatMap Kid.refs).map refP))) ⟨none, rfl, kp_new np0, up_same⟩ ?_ ?_
      · rintro i _ h1 p ep ⟨x, rfl, k1, e1⟩
        rw [List.getElem?_map] at ep
        obtain ⟨c, ec, rfl⟩ := Option.map_eq_some_iff.mp ep
        cases c with
        | val v =>
          have fin : ∃ h2, G.Sub h2 h1 ∧ ∃ (x : Option PV), [some (PV.tup (.str e.hd :: e.kids.map Kid.P)), some (.ref p0), some v] = [some (.tup (.str e.hd :: e.kids.map Kid.P)), some (.ref p0), x] ∧ Kp [] h h2 ∧ h2 p0 = some (.lst (((e.kids.take (i + 1)).flatMap Kid.refs).map refP)) :=
            ⟨h1, G.Sub.refl _, some v, rfl, k1, by rw [flat_take ec]; simpa [Kid.refs] using e1⟩
          rcases kid_val (List.mem_of_getElem? ec) with ⟨m, rfl⟩ | ⟨m, rfl⟩
          · simp only [Kid.P]
            dsimp! [show decide (Ty.tuple = Ty.int) = false from rfl]
            exact fin
          · simp only [Kid.P]
            dsimp! [show decide (Ty.tuple = Ty.str) = false from rfl]
            exact fin
        | ex c =>
          obtain ⟨r, er⟩ := Ex.P_tup c
          simp only [Kid.P]
          have hcall : (wC cl k).references_in [c.P] h1 (fun q h2 => zExtend (.ref p0) [q] h2 fun _ h1 => ∃ h2, G.Sub h2 h1 ∧ ∃ (x : Option PV), [some (PV.tup (.str e.hd :: e.kids.map Kid.P)), some (.ref p0), some c.P] = [some (.tup (.str e.hd :: e.kids.map Kid.P)), some (.ref p0), x] ∧ Kp [] h h2 ∧ h2 p0 = some (.lst (((e.kids.take (i + 1)).flatMap Kid.refs).map refP))) := by
            refine ih c (by have := kid_dep (List.mem_of_getElem? ec); omega) (by omega) fun p2 n2 => ?_
            have ne : p0 ≠ p2 := by rintro rfl; rw [e1] at n2; cases n2
            rw [zExt_r, up_ne ne, e1, up_same, zExtP_l]
            refine ⟨?_, _, G.Sub.refl _, some c.P, rfl, (k1.new n2).put0 np0, ?_⟩
            · have b1 := flat_le i hc
              have b2 := refs_len e
              have b3 := pow9 (show e.dep ≤ 9 by omega)
              have b4 := refs_len c
              have b5 := pow9 (show c.dep ≤ 9 by have := kid_dep (List.mem_of_getElem? ec); omega)
              rw [sizeLine_eq, List.length_map, List.length_map]; omega
            · rw [up_same, flat_take ec, List.map_append]; rfl
          rw [er] at hcall ⊢
          dsimp! [show decide (Ty.tuple = Ty.tuple) = true from rfl, e1]
          exact hcall
      · rintro _ h1 ⟨x, rfl, k1, e1⟩
        rw [List.length_map, List.take_length, ← refs_kids hc] at e1
        dsimp! []
        exact new_out k1 np0 e1 (q p0 np0)

/-! ### the rules' names, the edges -/
def nameP : PV → PV
  | .tup (p :: _) => p
  | _ => .non
theorem c_rule_names {k : Nat} (hk : 1 ≤ k) {t : Tb} (hs : t.rs.length ≤ 1000) {h : PH} {Q : QV} (q : ∀ d, h d = none → Q (.ref d) (up h d (.lst ((t.rs.map Row.name).map .str)))) : (wC cl k).rule_names [t.P] h Q := by
  obtain ⟨k, rfl⟩ : ∃ j, k = j + 1 := ⟨k - 1, by omega⟩
  show zFn _ _ (b_rule_names cl (wC cl k)) _ h Q
  unfold b_rule_names Tb.P
  dsimp! []
  refine lcP_V (fun _ => true) nameP (by rw [sizeLine_eq, List.length_map]; omega) (fun x hx R acc h1 => ?_) ?_
  · rw [if_pos rfl] at h1
    obtain ⟨r, hr, rfl⟩ := List.mem_map.mp hx
    unfold Row.P at h1 ⊢
    dsimp! []
    exact h1
  · rw [List.filter_eq_self.mpr (by simp), List.map_map]
    intro d nd
    refine ⟨_, G.Sub.refl _, ?_⟩
    have e : t.rs.map (nameP ∘ Row.P) = (t.rs.map Row.name).map .str := by rw [List.map_map]; rfl
    rw [e]
    exact q d nd
abbrev Ed := List Nat × List Nat × List Int
def edP (x : Ed) : PV := .tup [.str x.1, .str x.2.1, tI x.2.2]
def rowEdges (ns : List (List Nat)) (r : Row) : List Ed := (r.e.refs.filter fun c => decide (c.1 ∈ ns)).map fun c => (r.name, c.1, c.2)
def Tb.edges (t : Tb) : List Ed := t.rs.flatMap (rowEdges (t.rs.map Row.name))

theorem edges_small {t : Tb} (hs : t.rs.length ≤ 8) (hd : ∀ r ∈ t.rs, r.e.dep ≤ 9) (j : Nat) : ((t.rs.take j).flatMap (rowEdges (t.rs.map Row.name))).length + 262144 ≤ sizeLine := by
  have one : ∀ l : List Row, (∀ r ∈ l, r.e.dep ≤ 9) → (l.flatMap (rowEdges (t.rs.map Row.name))).length ≤ l.length * 262144 := by
    intro l
    induction l with
    | nil => intro _; simp
    | cons r l ih =>
      intro h
      have a1 := ih fun x hx => h x (List.mem_cons_of_mem _ hx)
      have a2 : (rowEdges (t.rs.map Row.name) r).length ≤ r.e.refs.length := by unfold rowEdges; rw [List.length_map]; exact List.length_filter_le _ _
      have a3 := refs_len r.e
      have a4 := pow9 (h r List.mem_cons_self)
      rw [List.flatMap_cons, List.length_append, List.length_cons]
      omega
  have a1 := one (t.rs.take j) fun r hr => hd r (List.mem_of_mem_take hr)
  have a2 : (t.rs.take j).length ≤ 8 := by rw [List.length_take]; omega
  rw [sizeLine_eq]
  have a3 : (t.rs.take j).length * 262144 ≤ 8 * 262144 := Nat.mul_le_mul_right _ a2
  omega
theorem c_edges_of {k : Nat} (hk : 11 ≤ k) {t : Tb} (hs : t.rs.length ≤ 8) (hd : ∀ r ∈ t.rs, r.e.dep ≤ 9) (hn : ∀ x ∈ t.rs.map Row.name, okS x = true) (hc : ∀ r ∈ t.rs, ∀ c ∈ r.e.refs, okS c.1 = true) {h : PH} {Q : QV} (q : ∀ h', Kp [] h h' → Q (.tup (t.edges.map edP)) h') : (wC cl k).edges_of [t.P] h Q := by
  obtain ⟨k, rfl⟩ : ∃ j, k = j + 1 := ⟨k - 1, by omega⟩
  show zFn _ _ (b_edges_of cl (wC cl k)) _ h Q
  unfold b_edges_of
  dsimp! []
  refine c_rule_names (by omega) (by omega) fun d nd => ?_
  dsimp! []
  refine ⟨Nat.zero_le _, fun f nf => ?_⟩
  have ne : f ≠ d := by rintro rfl; rw [up_same] at nf; cases nf
  have nf0 : h f = none := by rw [up_ne ne] at nf; exact nf
  rw [zSeq_x]
  unfold Tb.P
  dsimp! []
  refine forW_V (fun i ρ' h' => ∃ x3 x4 x5 x6 x7 x8 : Option PV, ρ' = [some t.P, some (.ref d), some (.ref f), x3, x4, x5, x6, x7, x8] ∧ Kp [] h h' ∧ h' d = some (.lst ((t.rs.map Row.name).map .str)) ∧ h' f = some (.lst (((t.rs.take i).flatMap (rowEdges (t.rs.map Row.name))).map edP)))
    ⟨none, none, none, none, none, none, rfl, (kp_new nd).new nf, by rw [up_ne (Ne.symm ne), up_same], up_same⟩ ?_ ?_
  · rintro i _ h1 p ep ⟨x3, x4, x5, x6, x7, x8, rfl, k1, e1, e2⟩
    rw [List.getElem?_map] at ep
    obtain ⟨r, er, rfl⟩ := Option.map_eq_some_iff.mp ep
    unfold Row.P
    dsimp! []
    refine c_references_in r.e.dep r.e (Nat.le_refl _) (hd r (List.mem_of_getElem? er)) (by have := hd r (List.mem_of_getElem? er); omega) fun g ng => ?_
    have ngd : d ≠ g := by rintro rfl; rw [e1] at ng; cases ng
    have ngf : f ≠ g := by rintro rfl; rw [e2] at ng; cases ng
    rw [zsAnyI_r, up_same, zsAnyO_l]
    refine forW_L (ps := r.e.refs.map refP) (fun j ρ' h2 => ∃ x6 x7 x8 : Option PV, ρ' = [some t.P, some (.ref d), some (.ref f), some (.str r.name), some (.int r.rim), some r.e.P, x6, x7, x8] ∧ Kp [] h h2 ∧ h2 d = some (.lst ((t.rs.map Row.name).map .str)) ∧ h2 g = some (.lst (r.e.refs.map refP)) ∧
      h2 f = some (.lst (((t.rs.take i).flatMap (rowEdges (t.rs.map Row.name)) ++ ((r.e.refs.take j).filter fun c => decide (c.1 ∈ t.rs.map Row.name)).map fun c => (r.name, c.1, c.2)).map edP)))
      ⟨x6, x7, x8, rfl, k1.new ng, by rw [up_ne ngd]; exact e1, up_same, by rw [up_ne ngf, e2]; simp⟩ (fun j ρ' h2 _ ⟨_, _, _, _, _, _, eg, _⟩ => eg) ?_ ?_
    · rintro j _ h2 p ep2 ⟨y6, y7, y8, rfl, k2, d2, g2, f2⟩
      rw [List.getElem?_map] at ep2
      obtain ⟨c, ec, rfl⟩ := Option.map_eq_some_iff.mp ep2
      unfold refP
      dsimp! [d2, f2]
      have mm : decide (PV.str c.1 ∈ (t.rs.map Row.name).map PV.str) = decide (c.1 ∈ t.rs.map Row.name) := by
        rw [decide_eq_decide]
        constructor
        · intro z
          obtain ⟨x, hx, ex⟩ := List.mem_map.mp z
          cases ex
          exact hx
        · exact fun z => List.mem_map.mpr ⟨_, z, rfl⟩
      have st : (r.e.refs.take (j + 1)) = r.e.refs.take j ++ [c] := by rw [List.take_add_one, ec]; rfl
      have o1 := pls_strs (l := [c.1]) (by simpa using hc r (List.mem_of_getElem? er) c (List.mem_of_getElem? ec))
      have o2 := pls_strs hn
      refine ⟨by simpa [PV.pls] using o1.1, by simp [PV.dp], o2.1, by rw [o2.2]; decide, ?_⟩
      rw [mm, st, List.filter_append]
      cases hm : decide (c.1 ∈ t.rs.map Row.name) with
      | false =>
        rw [if_neg (by simp)]
        refine ⟨h2, G.Sub.refl _, _, _, _, rfl, k2, d2, g2, ?_⟩
        rw [f2, List.filter_cons_of_neg (by rw [hm]; decide)]
        simp
      | true =>
        rw [if_pos rfl]
        have nf2 : f ≠ d := ne
        refine ⟨by decide, ?_, _, G.Sub.refl _, _, _, _, rfl, k2.put0 nf0, by rw [up_ne (Ne.symm ne)]; exact d2, by rw [up_ne (Ne.symm ngf)]; exact g2, ?_⟩
        · have b1 := edges_small hs hd i
          have b2 : ((r.e.refs.take j).filter fun c => decide (c.1 ∈ t.rs.map Row.name)).length ≤ j := Nat.le_trans (List.length_filter_le _ _) (by rw [List.length_take]; omega)
          have b3 : j < r.e.refs.length := (List.getElem?_eq_some_iff.mp ec).1
          have b4 := refs_len r.e
          have b5 := pow9 (hd r (List.mem_of_getElem? er))
          rw [List.length_map, List.length_append, List.length_map]
          omega
        · rw [up_same, List.filter_cons_of_pos (by rw [hm]), List.filter_nil]
          simp only [List.map_append, List.append_assoc, List.map_cons, List.map_nil]
          rfl
    · rintro _ h2 ⟨y6, y7, y8, rfl, k2, d2, g2, f2⟩
      rw [List.length_map, List.take_length] at f2
      refine ⟨h2, G.Sub.refl _, _, _, _, _, _, _, rfl, k2, d2, ?_⟩
      rw [f2, List.take_add_one, er]
      simp [rowEdges]
  · rintro _ h1 ⟨x3, x4, x5, x6, x7, x8, rfl, k1, e1, e2⟩
    rw [List.length_map, List.take_length] at e2
    dsimp! [e2]
    exact ⟨_, G.Sub.refl _, q _ k1⟩

abbrev cellP (x : List Nat) (p : List Int) : PV := .tup [.str x, tI p]
theorem nks_ints : ∀ l : List Int, nks (l.map .int) = some (l.map NestedKey.num)
  | [] => rfl
  | x :: l => by simp [nks, nk, nks_ints l]
theorem dep_ints : ∀ l : List Int, NestedKey.depthAll (l.map NestedKey.num) ≤ 0
  | [] => by simp [NestedKey.depthAll]
  | x :: l => by
    have := dep_ints l
    simp only [List.map_cons, NestedKey.depthAll, NestedKey.depth]; omega
theorem key_cell (x : List Nat) (p : List Int) : keyOk true (cellP x p) = true := by
  have e : nks [PV.str x, tI p] = some [.text (tS x), .tup (p.map NestedKey.num)] := by simp [nks, nk, nks_ints]
  have := dep_ints p
  show (match nks [PV.str x, tI p] with | some ks => decide (NestedKey.depthAll ks ≤ 7) | none => false) = true
  rw [e]
  simp only [NestedKey.depthAll, NestedKey.depth]
  exact decide_eq_true (by omega)

/-! ### Walks -/
def wF (es : List Ed) (x : List Nat) (m : Nat) (hr sn : Addr) : List (List Nat × PV) :=
  [(([101, 100, 103, 101, 115] : List Nat), .tup (es.map edP)), (([111, 114, 105, 103, 105, 110] : List Nat), .tup [.str x, tI (List.replicate m 0)]), (([104, 101, 114, 101] : List Nat), .ref hr), (([115, 101, 101, 110] : List Nat), .ref sn)]
theorem c_Walks_init {k : Nat} (hk : 12 ≤ k) {t : Tb} (hs : t.rs.length ≤ 8) (hd : ∀ r ∈ t.rs, r.e.dep ≤ 9) (hn : ∀ x ∈ t.rs.map Row.name, okS x = true) (hc : ∀ r ∈ t.rs, ∀ c ∈ r.e.refs, okS c.1 = true) (ho : t.over.length ≤ 1000) {x : List Nat} {w : Addr} {h : PH} {Q : QV} (hw : h w = some (.ins cl.Walks []))
    (q : ∀ hr sn h', hr ≠ w → sn ≠ w → hr ≠ sn → h hr = none → h sn = none → Kp [w] h h' → h' w = some (.ins cl.Walks (wF t.edges x t.over.length hr sn)) → h' hr = some (.dic true none [(.tup [.str x, tI (List.replicate t.over.length 0)], .tup [])]) → h' sn = some (.dic true none []) → Q .non h') : (wC cl k).Walks_init [.ref w, t.P, .str x] h Q := by
  obtain ⟨k, rfl⟩ : ∃ j, k = j + 1 := ⟨k - 1, by omega⟩
  show zFn _ _ (b_Walks_init cl (wC cl k)) _ h Q
  unfold b_Walks_init
  dsimp! [zSetF_x, zSeq_setF]
  refine c_edges_of (by omega) hs hd hn hc fun h1 k1 => ?_
  dsimp! [zSetF_x, zSeq_setF, zSetFI_r, zSetFO_i]
  have e1 : h1 w = some (.ins cl.Walks []) := k1 w _ (by simp) hw
  rw [e1, zSetFO_i]
  refine ⟨rfl, by decide, by decide, ?_⟩
  have n1 : (([101, 100, 103, 101, 115] : List Nat) = [111, 114, 105, 103, 105, 110]) = False := eq_false (by decide)
  have n2 : (([101, 100, 103, 101, 115] : List Nat) = [104, 101, 114, 101]) = False := eq_false (by decide)
  have n3 : (([111, 114, 105, 103, 105, 110] : List Nat) = [104, 101, 114, 101]) = False := eq_false (by decide)
  have n4 : (([101, 100, 103, 101, 115] : List Nat) = [115, 101, 101, 110]) = False := eq_false (by decide)
  have n5 : (([111, 114, 105, 103, 105, 110] : List Nat) = [115, 101, 101, 110]) = False := eq_false (by decide)
  have n6 : (([104, 101, 114, 101] : List Nat) = [115, 101, 101, 110]) = False := eq_false (by decide)
  have rep : (List.replicate (t.over.length : Int).toNat [PV.int 0]).flatten = (List.replicate t.over.length 0).map PV.int := by
    rw [Int.toNat_natCast]
    generalize t.over.length = m
    induction m with
    | zero => rfl
    | succ m ih => rw [List.replicate_succ, List.flatten_cons, ih, List.replicate_succ]; rfl
  unfold Tb.P
  dsimp! [zMul_t, zSetFO_i, fput, List.length_map, n1, if_false, rep]
  refine ⟨⟨by omega, by omega, by decide⟩, by decide, by decide, ?_⟩
  unfold zDispT
  dsimp! [zFld_x, zFldI_r, zFldO_i]
  refine ⟨.tup [.str x, tI (List.replicate t.over.length 0)], by simp [flook], Nat.zero_le _, ?_, fun hr nhr => ?_⟩
  · exact key_cell x _
  have hrw : hr ≠ w := by rintro rfl; rw [up_same] at nhr; cases nhr
  rw [up_ne (Ne.symm hrw), up_same, zSetFO_i]
  refine ⟨rfl, by simp, ?_⟩
  have back : ∀ {b : Addr}, h1 b = none → h b = none := fun {b} z => by
    cases e : h b with
    | none => rfl
    | some o => have := k1 b o (by simp) e; rw [z] at this; cases this
  have hr1 : h1 hr = none := by rw [up_ne hrw] at nhr; exact nhr
  refine ⟨true, fun sn nsn => ?_⟩
  have snw : sn ≠ w := by rintro rfl; rw [up_same] at nsn; cases nsn
  have snr : sn ≠ hr := by rintro rfl; rw [up_ne snw, up_same] at nsn; cases nsn
  have sn1 : h1 sn = none := by rw [up_ne snw, up_ne snr, up_ne snw] at nsn; exact nsn
  simp only [fput, n1, n2, n3, n4, n5, n6, if_false]
  rw [up_ne (Ne.symm snw), up_same, zSetFO_i]
  refine ⟨rfl, by simp, _, G.Sub.refl _, q hr sn _ hrw snw (Ne.symm snr) (back hr1) (back sn1) (fun b o hb e => ?_) ?_ ?_ ?_⟩
  · have bw : b ≠ w := by simpa using hb
    have b1 := k1 b o (by simp) e
    have bh : b ≠ hr := by rintro rfl; rw [hr1] at b1; cases b1
    have bs : b ≠ sn := by rintro rfl; rw [sn1] at b1; cases b1
    rw [up_ne bw, up_ne bs, up_ne bw, up_ne bh, up_ne bw]
    exact b1
  · rw [up_same]
    simp only [fput, n1, n2, n3, n4, n5, n6, if_false, wF]
  · rw [up_ne hrw, up_ne (Ne.symm snr), up_ne hrw, up_same]
  · rw [up_ne snw, up_same]

/-- a walk: the edges' numbers -/
def walkP (w : List Nat) : PV := .tup (w.map fun n => .int (n : Nat))
theorem c_walk_order {k : Nat} (hk : 1 ≤ k) {w : List Nat} {h : PH} {Q : QV} (q : Q (.tup [.int (w.length : Nat), walkP w]) h) : (wC cl k).walk_order [walkP w] h Q := by
  obtain ⟨k, rfl⟩ : ∃ j, k = j + 1 := ⟨k - 1, by omega⟩
  show zFn _ _ (b_walk_order cl (wC cl k)) _ h Q
  unfold b_walk_order walkP
  dsimp! [List.length_map]
  exact ⟨by decide, _, G.Sub.refl _, q⟩

/-! ### one step of the walks: the entries in order -/
abbrev Ent := (List Nat × List Int) × List Nat
def entP (e : Ent) : PV × PV := (cellP e.1.1 e.1.2, walkP e.2)
/-- an entry's turn over the edges from number m on -/
def goEdges (e : Ent) (seen : List (List Nat × List Int)) : Nat → List Ed → List Ent → List Ent
  | _, [], acc => acc
  | m, (one, other, os) :: r, acc =>
    let tg := (other, atO e.1.2 os)
    goEdges e seen (m + 1) r (if one = e.1.1 ∧ tg ∉ seen ∧ tg ∉ acc.map (·.1) then acc ++ [(tg, e.2 ++ [m])] else acc)
def goAll (es : List Ed) (seen : List (List Nat × List Int)) : List Ent → List Ent → List Ent
  | [], acc => acc
  | e :: r, acc => goAll es seen r (goEdges e seen 0 es acc)

/-! ### walks: the law's list of all of one length, the program's least to each place -/
abbrev Pl := List Nat × List Int
def cands1 (e : Ent) : Nat → List Ed → List Ent
  | _, [] => []
  | m, ed :: r => (if ed.1 = e.1.1 then [((ed.2.1, atO e.1.2 ed.2.2), e.2 ++ [m])] else []) ++ cands1 e (m + 1) r
def addC (seen : List Pl) (acc : List Ent) (c : Ent) : List Ent := if c.1 ∉ seen ∧ c.1 ∉ acc.map (·.1) then acc ++ [c] else acc
theorem goEdges_eq (e : Ent) (seen : List Pl) : ∀ (es : List Ed) (m : Nat) (acc : List Ent), goEdges e seen m es acc = (cands1 e m es).foldl (addC seen) acc
  | [], _, _ => rfl
  | (one, other, os) :: r, m, acc => by
    simp only [goEdges, cands1]
    rw [goEdges_eq e seen r, List.foldl_append]
    by_cases h : one = e.1.1
    · simp only [eq_true h, if_true, List.foldl_cons, List.foldl_nil, addC, true_and]
    · simp [h]
theorem goAll_eq (es : List Ed) (seen : List Pl) : ∀ (here acc : List Ent), goAll es seen here acc = (here.flatMap fun e => cands1 e 0 es).foldl (addC seen) acc
  | [], _ => rfl
  | e :: r, acc => by
    simp only [goAll, List.flatMap_cons, List.foldl_append]
    rw [goAll_eq es seen r, goEdges_eq]
theorem mem_cands1 {e c : Ent} : ∀ {es : List Ed} {m : Nat}, c ∈ cands1 e m es ↔ ∃ i ed, es[i]? = some ed ∧ ed.1 = e.1.1 ∧ c = ((ed.2.1, atO e.1.2 ed.2.2), e.2 ++ [m + i])
  | [], m => by simp [cands1]
  | ed :: r, m => by
    rw [cands1, List.mem_append, mem_cands1 (es := r)]
    constructor
    · rintro (h | ⟨i, d, h1, h2, h3⟩)
      · by_cases x : ed.1 = e.1.1
        · rw [if_pos x] at h
          exact ⟨0, ed, rfl, x, by simpa using h⟩
        · rw [if_neg x] at h; cases h
      · exact ⟨i + 1, d, by simpa using h1, h2, by rw [h3, Nat.add_assoc, Nat.add_comm 1 i]⟩
    · rintro ⟨i, d, h1, h2, h3⟩
      cases i with
      | zero =>
        left
        simp only [List.getElem?_cons_zero, Option.some.injEq] at h1
        subst h1
        rw [if_pos h2, h3]
        simp
      | succ i => exact .inr ⟨i, d, by simpa using h1, h2, by rw [h3, Nat.add_assoc, Nat.add_comm 1 i]⟩
theorem lt_pre {a b : List Nat} (p : List Nat) (h : a < b) : p ++ a < p ++ b := by
  induction p with
  | nil => exact h
  | cons x p ih => exact List.cons_lt_cons_iff.mpr (.inr ⟨rfl, ih⟩)
theorem lt_suf : ∀ {a b : List Nat}, a.length = b.length → a < b → ∀ x y : List Nat, a ++ x < b ++ y
  | [], [], _, h, _, _ => absurd h (List.lt_irrefl _)
  | [], _ :: _, e, _, _, _ => by simp at e
  | _ :: _, [], e, _, _, _ => by simp at e
  | u :: a, v :: b, e, h, x, y => by
    rcases List.cons_lt_cons_iff.mp h with h' | ⟨rfl, h'⟩
    · exact List.cons_lt_cons_iff.mpr (.inl h')
    · show u :: (a ++ x) < u :: (b ++ y)
      have l := lt_suf (a := a) (b := b) (Nat.succ.inj e) h' x y
      exact List.cons_lt_cons_iff.mpr (.inr ⟨rfl, l⟩)
theorem one_lt {m n : Nat} (h : m < n) : ([m] : List Nat) < [n] := List.cons_lt_cons_iff.mpr (.inl h)
theorem le_suf {a b : List Nat} (e : a.length = b.length) (h : a ≤ b) (x : List Nat) : a ++ x ≤ b ++ x := by
  rcases List.le_iff_lt_or_eq.mp h with h | h
  · exact List.le_of_lt (lt_suf e h x x)
  · rw [h]; exact List.le_refl _
abbrev Asc (l : List Ent) : Prop := l.Pairwise fun a b => a.2 < b.2
theorem asc_cands1 (e : Ent) : ∀ (es : List Ed) (m : Nat), Asc (cands1 e m es)
  | [], _ => List.Pairwise.nil
  | ed :: r, m => by
    rw [cands1, Asc, List.pairwise_append]
    refine ⟨?_, asc_cands1 e r (m + 1), fun a ha b hb => ?_⟩
    · split
      · exact List.pairwise_singleton _ _
      · exact List.Pairwise.nil
    · obtain ⟨i, d, _, _, rfl⟩ := mem_cands1.mp hb
      split at ha
      · simp at ha; subst ha
        exact lt_pre _ (one_lt (by omega))
      · cases ha
theorem asc_cands (es : List Ed) (n : Nat) : ∀ {here : List Ent}, (∀ e ∈ here, e.2.length = n) → Asc here → Asc (here.flatMap fun e => cands1 e 0 es)
  | [], _, _ => List.Pairwise.nil
  | e :: r, hl, h => by
    rw [List.flatMap_cons, Asc, List.pairwise_append]
    refine ⟨asc_cands1 e es 0, asc_cands es n (fun x hx => hl x (List.mem_cons_of_mem _ hx)) (List.pairwise_cons.mp h).2, fun a ha b hb => ?_⟩
    obtain ⟨i, d, _, _, rfl⟩ := mem_cands1.mp ha
    obtain ⟨f, hf, hb⟩ := List.mem_flatMap.mp hb
    obtain ⟨j, d', _, _, rfl⟩ := mem_cands1.mp hb
    exact lt_suf (by rw [hl e List.mem_cons_self, hl f (List.mem_cons_of_mem _ hf)]) ((List.pairwise_cons.mp h).1 f hf) _ _
structure FoldOk (seen : List Pl) (cs acc : List Ent) : Prop where
  sub : acc.Sublist cs
  nd : (acc.map (·.1)).Nodup
  new : ∀ c ∈ acc, c.1 ∉ seen
  cov : ∀ c ∈ cs, c.1 ∉ seen → ∃ d ∈ acc, d.1 = c.1 ∧ d.2 ≤ c.2
theorem FoldOk.step {seen : List Pl} {cs acc : List Ent} {c : Ent} (f : FoldOk seen cs acc) (h : Asc (cs ++ [c])) : FoldOk seen (cs ++ [c]) (addC seen acc c) := by
  unfold addC
  by_cases hc : c.1 ∉ seen ∧ c.1 ∉ acc.map (·.1)
  · rw [if_pos hc]
    refine ⟨f.sub.append (List.Sublist.refl _), ?_, fun d hd => ?_, fun d hd hn => ?_⟩
    · rw [List.map_append, List.nodup_append]
      refine ⟨f.nd, by simp, fun a ha b hb => ?_⟩
      simp at hb
      subst hb
      rintro rfl
      exact hc.2 ha
    · rcases List.mem_append.mp hd with hd | hd
      · exact f.new d hd
      · simp at hd; subst hd; exact hc.1
    · rcases List.mem_append.mp hd with hd | hd
      · obtain ⟨x, h1, h2⟩ := f.cov d hd hn
        exact ⟨x, List.mem_append_left _ h1, h2⟩
      · simp at hd; subst hd
        exact ⟨d, List.mem_append_right _ (by simp), rfl, List.le_refl _⟩
  · rw [if_neg hc]
    refine ⟨f.sub.trans (List.sublist_append_left _ _), f.nd, f.new, fun d hd hn => ?_⟩
    rcases List.mem_append.mp hd with hd | hd
    · exact f.cov d hd hn
    · simp at hd; subst hd
      have : d.1 ∈ acc.map (·.1) := Classical.byContradiction fun z => hc ⟨hn, z⟩
      obtain ⟨x, hx, ex⟩ := List.mem_map.mp this
      exact ⟨x, hx, ex, List.le_of_lt ((List.pairwise_append.mp h).2.2 x (f.sub.subset hx) d (by simp))⟩
theorem fold_go (seen : List Pl) : ∀ (cs pre acc : List Ent), Asc (pre ++ cs) → FoldOk seen pre acc → FoldOk seen (pre ++ cs) (cs.foldl (addC seen) acc)
  | [], pre, acc, _, f => by simpa using f
  | c :: cs, pre, acc, h, f => by
    have e : pre ++ c :: cs = (pre ++ [c]) ++ cs := by simp
    rw [e] at h ⊢
    exact fold_go seen cs (pre ++ [c]) _ h (f.step (List.pairwise_append.mp h).1)
theorem fold_ok (seen : List Pl) {cs : List Ent} (h : Asc cs) : FoldOk seen cs (cs.foldl (addC seen) []) := by
  have := fold_go seen cs [] [] (by simpa using h) ⟨List.Sublist.refl _, by simp, by simp, by simp⟩
  simpa using this
/-- where a walk leads -/
def run (es : List Ed) : Pl → List Nat → Option Pl
  | p, [] => some p
  | p, k :: r => match es[k]? with
    | some ed => if ed.1 = p.1 then run es (ed.2.1, atO p.2 ed.2.2) r else none
    | none => none
theorem run_app (es : List Ed) : ∀ (u v : List Nat) (p : Pl), run es p (u ++ v) = (run es p u).bind fun q => run es q v
  | [], v, p => rfl
  | k :: u, v, p => by
    simp only [List.cons_append, run]
    cases es[k]? with
    | none => rfl
    | some ed =>
      simp only []
      split
      · exact run_app es u v _
      · rfl
theorem run_snoc {es : List Ed} {u : List Nat} {k : Nat} {p q : Pl} : run es p (u ++ [k]) = some q ↔ ∃ r ed, run es p u = some r ∧ es[k]? = some ed ∧ ed.1 = r.1 ∧ q = (ed.2.1, atO r.2 ed.2.2) := by
  rw [run_app]
  constructor
  · intro h
    obtain ⟨r, h1, h2⟩ := Option.bind_eq_some_iff.mp h
    simp only [run] at h2
    cases e : es[k]? with
    | none => rw [e] at h2; cases h2
    | some ed =>
      rw [e] at h2
      simp only [] at h2
      by_cases x : ed.1 = r.1
      · rw [if_pos x] at h2
        exact ⟨r, ed, h1, rfl, x, (Option.some.inj h2).symm⟩
      · rw [if_neg x] at h2; cases h2
  · rintro ⟨r, ed, h1, h2, h3, rfl⟩
    rw [h1]
    simp [run, h2, h3]
/-- the places reached by so many edges -/
def Rch (es : List Ed) (o : Pl) (j : Nat) (p : Pl) : Prop := ∃ w : List Nat, w.length = j ∧ run es o w = some p
structure StepOk (es : List Ed) (o : Pl) (i : Nat) (here : List Ent) (seen : List Pl) : Prop where
  run_ : ∀ e ∈ here, run es o e.2 = some e.1 ∧ e.2.length = i
  asc : Asc here
  nd : (here.map (·.1)).Nodup
  new : ∀ e ∈ here, ∀ j, 1 ≤ j → j < i → ¬ Rch es o j e.1
  cov : ∀ w p, w.length = i → run es o w = some p → (∀ j, 1 ≤ j → j < i → ¬ Rch es o j p) → ∃ e ∈ here, e.1 = p ∧ e.2 ≤ w
  seen : ∀ p, p ∈ seen ↔ ∃ j, 1 ≤ j ∧ j ≤ i ∧ Rch es o j p
theorem snoc_of {w : List Nat} {n : Nat} (h : w.length = n + 1) : ∃ u k, w = u ++ [k] ∧ u.length = n := by
  have : w ≠ [] := by rintro rfl; cases h
  exact ⟨w.dropLast, w.getLast this, (List.dropLast_concat_getLast this).symm, by rw [List.length_dropLast]; omega⟩
theorem StepOk.zero (es : List Ed) (o : Pl) : StepOk es o 0 [(o, [])] [] := by
  refine ⟨fun e he => ?_, List.pairwise_singleton _ _, by simp, fun e _ j h1 h2 => absurd h2 (by omega), fun w p hw hr _ => ?_, fun p => ?_⟩
  · simp at he; subst he; exact ⟨rfl, rfl⟩
  · have : w = [] := List.length_eq_zero_iff.mp hw
    subst this
    simp only [run, Option.some.injEq] at hr
    exact ⟨(o, []), by simp, hr, List.le_refl _⟩
  · simp only [List.not_mem_nil, false_iff]
    rintro ⟨j, h1, h2, _⟩
    omega
theorem StepOk.next {es : List Ed} {o : Pl} {i : Nat} {here : List Ent} {seen : List Pl} (s : StepOk es o i here seen) {seen' : List Pl} (hs : ∀ p, p ∈ seen' ↔ p ∈ seen ∨ p ∈ (goAll es seen here []).map (·.1)) : StepOk es o (i + 1) (goAll es seen here []) seen' := by
  rw [goAll_eq] at hs ⊢
  have ac := asc_cands es i (fun e he => (s.run_ e he).2) s.asc
  have f := fold_ok seen ac
  have mc : ∀ {c : Ent}, c ∈ (here.flatMap fun e => cands1 e 0 es) → ∃ e ∈ here, ∃ k ed, es[k]? = some ed ∧ ed.1 = e.1.1 ∧ c = ((ed.2.1, atO e.1.2 ed.2.2), e.2 ++ [k]) := fun {c} hc => by
    obtain ⟨e, he, hc⟩ := List.mem_flatMap.mp hc
    obtain ⟨k, ed, h1, h2, h3⟩ := mem_cands1.mp hc
    exact ⟨e, he, k, ed, h1, h2, by simpa using h3⟩
  have rn : ∀ c ∈ (here.flatMap fun e => cands1 e 0 es).foldl (addC seen) [], run es o c.2 = some c.1 ∧ c.2.length = i + 1 := fun c hc => by
    obtain ⟨e, he, k, ed, h1, h2, rfl⟩ := mc (f.sub.subset hc)
    obtain ⟨r1, r2⟩ := s.run_ e he
    exact ⟨run_snoc.mpr ⟨e.1, ed, r1, h1, h2, rfl⟩, by simp [r2]⟩
  have nw : ∀ c ∈ (here.flatMap fun e => cands1 e 0 es).foldl (addC seen) [], ∀ j, 1 ≤ j → j < i + 1 → ¬ Rch es o j c.1 := fun c hc j h1 h2 h3 => f.new c hc ((s.seen c.1).mpr ⟨j, h1, by omega, h3⟩)
  have cv : ∀ w p, w.length = i + 1 → run es o w = some p → (∀ j, 1 ≤ j → j < i + 1 → ¬ Rch es o j p) → ∃ e ∈ (here.flatMap fun e => cands1 e 0 es).foldl (addC seen) [], e.1 = p ∧ e.2 ≤ w := fun w p hw hr hn => by
    obtain ⟨u, k, rfl, lu⟩ := snoc_of hw
    obtain ⟨q, ed, r1, r2, r3, rfl⟩ := run_snoc.mp hr
    obtain ⟨e, he, rfl, le⟩ := s.cov u q lu r1 fun j h1 h2 ⟨w', l', r'⟩ => hn (j + 1) (by omega) (by omega) ⟨w' ++ [k], by simp [l'], run_snoc.mpr ⟨q, ed, r', r2, r3, rfl⟩⟩
    have hc : ((ed.2.1, atO e.1.2 ed.2.2), e.2 ++ [k]) ∈ (here.flatMap fun e => cands1 e 0 es) := List.mem_flatMap.mpr ⟨e, he, mem_cands1.mpr ⟨k, ed, r2, r3, by simp⟩⟩
    obtain ⟨d, hd, e1, e2⟩ := f.cov _ hc fun z => by
      obtain ⟨j, h1, h2, h3⟩ := (s.seen _).mp z
      exact hn j h1 (by omega) h3
    exact ⟨d, hd, e1, List.le_trans e2 (le_suf (by rw [(s.run_ e he).2, lu]) le [k])⟩
  refine ⟨rn, ac.sublist f.sub, f.nd, nw, cv, fun p => ?_⟩
  rw [hs p, s.seen p]
  constructor
  · rintro (⟨j, h1, h2, h3⟩ | h)
    · exact ⟨j, h1, by omega, h3⟩
    · obtain ⟨c, hc, rfl⟩ := List.mem_map.mp h
      exact ⟨i + 1, by omega, Nat.le_refl _, c.2, (rn c hc).2, (rn c hc).1⟩
  · rintro ⟨j, h1, h2, h3⟩
    by_cases hj : j ≤ i
    · exact .inl ⟨j, h1, hj, h3⟩
    · by_cases hx : ∃ j', 1 ≤ j' ∧ j' ≤ i ∧ Rch es o j' p
      · exact .inl hx
      · right
        have : j = i + 1 := by omega
        subst this
        obtain ⟨w, hw, hr⟩ := h3
        obtain ⟨e, he, e1, _⟩ := cv w p hw hr fun j' a1 a2 a3 => hx ⟨j', a1, by omega, a3⟩
        exact List.mem_map.mpr ⟨e, he, e1⟩
/-- the first walk that comes back -/
def fromS (es : List Ed) (o : Pl) : Nat → List Ent → List Pl → List Nat
  | 0, _, _ => []
  | n + 1, here, seen => match (goAll es seen here []).find? fun e => decide (e.1 = o) with
    | some e => e.2
    | none => fromS es o n (goAll es seen here []) (seen ++ (goAll es seen here []).map (·.1))
structure LeastW (F : List Nat → Prop) (most : Nat) (r : List Nat) : Prop where
  none : r = [] → ∀ w, 1 ≤ w.length → w.length ≤ most → ¬ F w
  some : r ≠ [] → r.length ≤ most ∧ F r ∧ ∀ w, w ≠ [] → F w → r.length < w.length ∨ (r.length = w.length ∧ r ≤ w)
theorem fromS_go {es : List Ed} {o : Pl} : ∀ (n i : Nat) (here : List Ent) (seen : List Pl), StepOk es o i here seen → (∀ j, 1 ≤ j → j ≤ i → ¬ Rch es o j o) → LeastW (fun w => run es o w = some o) (i + n) (fromS es o n here seen)
  | 0, i, here, seen, s, h => ⟨fun _ w h1 h2 h3 => h w.length h1 (by omega) ⟨w, rfl, h3⟩, fun z => absurd rfl z⟩
  | n + 1, i, here, seen, s, h => by
    have s' := s.next (seen' := seen ++ (goAll es seen here []).map (·.1)) fun p => List.mem_append
    rw [fromS]
    cases hf : (goAll es seen here []).find? fun e => decide (e.1 = o) with
    | some e =>
      have he := List.mem_of_find?_eq_some hf
      have eo : e.1 = o := by simpa using List.find?_some hf
      obtain ⟨r1, r2⟩ := s'.run_ e he
      simp only []
      refine ⟨fun z => absurd r2 (by rw [z]; simp), fun _ => ⟨by omega, by rw [r1, eo], fun w w0 hw => ?_⟩⟩
      have wl : 1 ≤ w.length := List.length_pos_iff.mpr w0
      rcases Nat.lt_trichotomy w.length (i + 1) with a | a | a
      · exact absurd ⟨w, rfl, hw⟩ (h w.length wl (by omega))
      · right
        refine ⟨by omega, ?_⟩
        obtain ⟨d, hd, e1, e2⟩ := s'.cov w o a hw fun j h1 h2 => h j h1 (by omega)
        have : d = e := by
          obtain ⟨x, hx, ex⟩ := List.getElem_of_mem hd
          obtain ⟨y, hy, ey⟩ := List.getElem_of_mem he
          have nd := s'.nd
          rw [List.nodup_iff_pairwise_ne, List.pairwise_iff_getElem] at nd
          have eq : ((goAll es seen here []).map (·.1))[x]'(by simpa using hx) = ((goAll es seen here []).map (·.1))[y]'(by simpa using hy) := by
            rw [List.getElem_map, List.getElem_map, ex, ey, e1, eo]
          rcases Nat.lt_trichotomy x y with b | b | b
          · exact absurd eq (nd x y _ _ b)
          · subst b; rw [← ex, ← ey]
          · exact absurd eq.symm (nd y x _ _ b)
        rw [← this]; exact e2
      · left; omega
    | none =>
      simp only []
      have nx : ∀ j, 1 ≤ j → j ≤ i + 1 → ¬ Rch es o j o := fun j h1 h2 h3 => by
        by_cases hj : j ≤ i
        · exact h j h1 hj h3
        · have : j = i + 1 := by omega
          subst this
          obtain ⟨w, hw, hr⟩ := h3
          obtain ⟨d, hd, e1, _⟩ := s'.cov w o hw hr fun j h1 h2 => h j h1 (by omega)
          have := List.find?_eq_none.mp hf d hd
          simp [e1] at this
      have := fromS_go n (i + 1) _ _ s' nx
      rw [show i + (n + 1) = i + 1 + n by omega]
      exact this
theorem fromS_ok (es : List Ed) (o : Pl) (n : Nat) : LeastW (fun w => run es o w = some o) n (fromS es o n [(o, [])] []) := by
  have := fromS_go n 0 _ _ (StepOk.zero es o) fun j h1 h2 => absurd h1 (by omega)
  simpa using this
/-! ### the law's walks -/
def srcE (es : List Ed) (k : Nat) : List Nat := match es[k]? with | some ed => ed.1 | none => []
def dstE (es : List Ed) (k : Nat) : List Nat := match es[k]? with | some ed => ed.2.1 | none => []
def offE (es : List Ed) (k : Nat) : List Int := match es[k]? with | some ed => ed.2.2 | none => []
def longerW (es : List Ed) (ws : List (List Nat)) : List (List Nat) := ws.flatMap fun w => ((List.range es.length).filter fun k => decide (srcE es k = dstE es (w.getLast?.getD 0))).map fun k => w ++ [k]
/-- a walk comes round -/
def isWk (es : List Ed) (m : Nat) (w : List Nat) : Bool := match run es (dstE es (w.getLast?.getD 0), List.replicate m 0) w with
  | some p => p.2.all fun x => decide (x = 0)
  | none => false
def lawR (es : List Ed) (m : Nat) : Nat → List (List Nat) → Option (List Nat)
  | 0, _ => some []
  | n + 1, ws => match ws.find? (isWk es m) with
    | some w => some w
    | none => if 4000 < (longerW es ws).length then none else lawR es m n (longerW es ws)
/-- a round walk from some rule -/
def Round (es : List Ed) (m : Nat) (w : List Nat) : Prop := ∃ x : List Nat, run es (x, List.replicate m 0) w = some (x, List.replicate m 0)
theorem run_dst {es : List Ed} {w : List Nat} {k : Nat} {p q : Pl} (h : run es p (w ++ [k]) = some q) : q.1 = dstE es k := by
  obtain ⟨r, ed, _, h2, _, rfl⟩ := run_snoc.mp h
  simp [dstE, h2]
theorem run_len {es : List Ed} {m : Nat} (hm : ∀ ed ∈ es, ed.2.2.length = m) : ∀ {w : List Nat} {p q : Pl}, p.2.length = m → run es p w = some q → q.2.length = m
  | [], p, q, h, e => by simp only [run, Option.some.injEq] at e; rw [← e]; exact h
  | k :: w, p, q, h, e => by
    simp only [run] at e
    cases hk : es[k]? with
    | none => rw [hk] at e; cases e
    | some ed =>
      rw [hk] at e
      simp only [] at e
      split at e
      · refine run_len hm ?_ e
        simp only [atO, List.length_zipWith]
        rw [h, hm ed (List.mem_of_getElem? hk)]; simp
      · cases e
theorem all0 {m : Nat} {l : List Int} (h : l.length = m) : (l.all fun x => decide (x = 0)) = true ↔ l = List.replicate m 0 := by
  rw [List.eq_replicate_iff, List.all_eq_true]
  simp [h]
theorem isWk_iff {es : List Ed} {m : Nat} (hm : ∀ ed ∈ es, ed.2.2.length = m) {w : List Nat} (hw : w ≠ []) : isWk es m w = true ↔ Round es m w := by
  obtain ⟨u, k, rfl⟩ : ∃ u k, w = u ++ [k] := ⟨w.dropLast, w.getLast hw, (List.dropLast_concat_getLast hw).symm⟩
  unfold isWk
  rw [List.getLast?_append]
  simp only [List.getLast?_singleton, Option.some_or, Option.getD_some]
  constructor
  · intro h
    cases e : run es (dstE es k, List.replicate m 0) (u ++ [k]) with
    | none => rw [e] at h; cases h
    | some p =>
      rw [e] at h
      have h1 := run_dst e
      have h2 := run_len hm (by simp) e
      have h3 := (all0 h2).mp h
      refine ⟨dstE es k, ?_⟩
      rw [e]
      cases p
      simp_all
  · rintro ⟨x, hx⟩
    have h1 := run_dst hx
    simp only [] at h1
    rw [← h1, hx]
    exact (all0 (by simp)).mpr rfl
/-- all walks of so many edges, ascending -/
structure AllW (es : List Ed) (n : Nat) (ws : List (List Nat)) : Prop where
  mem : ∀ w, w ∈ ws ↔ w.length = n ∧ ∃ p q, run es p w = some q
  asc : ws.Pairwise (· < ·)
theorem run_at {es : List Ed} : ∀ {w : List Nat} {p q : Pl}, run es p w = some q → ∀ p', p'.1 = p.1 → ∃ q', run es p' w = some q' ∧ q'.1 = q.1
  | [], p, q, h, p', e => by simp only [run, Option.some.injEq] at h ⊢; exact ⟨p', rfl, by rw [e, h]⟩
  | k :: w, p, q, h, p', e => by
    simp only [run] at h ⊢
    cases hk : es[k]? with
    | none => rw [hk] at h; cases h
    | some ed =>
      rw [hk] at h
      simp only [] at h ⊢
      by_cases x : ed.1 = p.1
      · rw [if_pos x] at h
        rw [if_pos (x.trans e.symm)]
        exact run_at h _ rfl
      · rw [if_neg x] at h; cases h
theorem AllW.one (es : List Ed) : AllW es 1 ((List.range es.length).map fun k => [k]) := by
  refine ⟨fun w => ?_, ?_⟩
  · constructor
    · intro h
      obtain ⟨k, hk, rfl⟩ := List.mem_map.mp h
      have hk' : k < es.length := List.mem_range.mp hk
      refine ⟨rfl, (es[k].1, []), (es[k].2.1, atO [] es[k].2.2), ?_⟩
      simp [run, List.getElem?_eq_getElem hk']
    · rintro ⟨h1, p, q, h2⟩
      obtain ⟨k, rfl⟩ := List.length_eq_one_iff.mp h1
      refine List.mem_map.mpr ⟨k, List.mem_range.mpr ?_, rfl⟩
      simp only [run] at h2
      cases hk : es[k]? with
      | none => rw [hk] at h2; cases h2
      | some ed => exact (List.getElem?_eq_some_iff.mp hk).1
  · rw [List.pairwise_map]
    exact (List.pairwise_lt_range (n := es.length)).imp fun h => one_lt h
theorem AllW.next {es : List Ed} {n : Nat} {ws : List (List Nat)} (a : AllW es (n + 1) ws) : AllW es (n + 2) (longerW es ws) := by
  have key : ∀ {w : List Nat} {k : Nat}, w ≠ [] → (∃ p q, run es p w = some q) → (k < es.length ∧ srcE es k = dstE es (w.getLast?.getD 0) ↔ ∃ p q, run es p (w ++ [k]) = some q) := fun {w k} hw ⟨p, q, h⟩ => by
    obtain ⟨u, j, rfl⟩ : ∃ u k, w = u ++ [k] := ⟨w.dropLast, w.getLast hw, (List.dropLast_concat_getLast hw).symm⟩
    rw [List.getLast?_append]
    simp only [List.getLast?_singleton, Option.some_or, Option.getD_some]
    have hq := run_dst h
    constructor
    · rintro ⟨h1, h2⟩
      refine ⟨p, _, run_snoc.mpr ⟨q, es[k], h, List.getElem?_eq_getElem h1, ?_, rfl⟩⟩
      rw [hq, ← h2]
      simp [srcE, List.getElem?_eq_getElem h1]
    · rintro ⟨p', q', h'⟩
      obtain ⟨r, ed, r1, r2, r3, _⟩ := run_snoc.mp h'
      refine ⟨(List.getElem?_eq_some_iff.mp r2).1, ?_⟩
      rw [← run_dst r1, ← r3]
      simp [srcE, r2]
  refine ⟨fun w => ?_, ?_⟩
  · constructor
    · intro h
      obtain ⟨u, hu, h⟩ := List.mem_flatMap.mp h
      obtain ⟨k, hk, rfl⟩ := List.mem_map.mp h
      obtain ⟨h1, h2⟩ := List.mem_filter.mp hk
      obtain ⟨l1, l2⟩ := (a.mem u).mp hu
      exact ⟨by simp [l1], (key (by rintro rfl; cases l1) l2).mp ⟨List.mem_range.mp h1, by simpa using h2⟩⟩
    · rintro ⟨h1, h2⟩
      obtain ⟨u, k, rfl, lu⟩ := snoc_of h1
      obtain ⟨p, q, h2⟩ := h2
      obtain ⟨r, ed, r1, _⟩ := run_snoc.mp h2
      obtain ⟨k1, k2⟩ := (key (k := k) (by rintro rfl; cases lu) ⟨p, r, r1⟩).mpr ⟨p, q, h2⟩
      exact List.mem_flatMap.mpr ⟨u, (a.mem u).mpr ⟨lu, p, r, r1⟩, List.mem_map.mpr ⟨k, List.mem_filter.mpr ⟨List.mem_range.mpr k1, by simpa using k2⟩, rfl⟩⟩
  · have ln : ∀ w ∈ ws, w.length = n + 1 := fun w hw => ((a.mem w).mp hw).1
    have as := a.asc
    unfold longerW
    clear a
    induction ws with
    | nil => exact List.Pairwise.nil
    | cons w ws ih =>
      rw [List.flatMap_cons, List.pairwise_append]
      refine ⟨?_, ih (fun x hx => ln x (List.mem_cons_of_mem _ hx)) (List.pairwise_cons.mp as).2, fun x hx y hy => ?_⟩
      · rw [List.pairwise_map]
        exact ((List.pairwise_lt_range (n := es.length)).filter _).imp fun h => lt_pre w (one_lt h)
      · obtain ⟨k, _, rfl⟩ := List.mem_map.mp hx
        obtain ⟨v, hv, hy⟩ := List.mem_flatMap.mp hy
        obtain ⟨j, _, rfl⟩ := List.mem_map.mp hy
        exact lt_suf (by rw [ln w List.mem_cons_self, ln v (List.mem_cons_of_mem _ hv)]) ((List.pairwise_cons.mp as).1 v hv) _ _
theorem find_least {f : List Nat → Bool} : ∀ {ws : List (List Nat)} {w : List Nat}, ws.Pairwise (· < ·) → ws.find? f = some w → ∀ v ∈ ws, f v = true → w ≤ v
  | [], _, _, h, _, hv, _ => by cases hv
  | x :: ws, w, p, h, v, hv, fv => by
    rw [List.find?_cons] at h
    cases hx : f x with
    | true =>
      rw [hx] at h
      simp only [Option.some.injEq] at h
      subst h
      rcases List.mem_cons.mp hv with rfl | hv
      · exact List.le_refl _
      · exact List.le_of_lt ((List.pairwise_cons.mp p).1 v hv)
    | false =>
      rw [hx] at h
      rcases List.mem_cons.mp hv with rfl | hv
      · rw [hx] at fv; cases fv
      · exact find_least (List.pairwise_cons.mp p).2 h v hv fv
theorem lawR_go {es : List Ed} {m : Nat} (hm : ∀ ed ∈ es, ed.2.2.length = m) : ∀ (n i : Nat) (ws : List (List Nat)) (due : List Nat), AllW es (i + 1) ws → (∀ w, 1 ≤ w.length → w.length ≤ i → ¬ Round es m w) → lawR es m n ws = some due → LeastW (Round es m) (i + n) due
  | 0, i, ws, due, a, h, e => by
    simp only [lawR, Option.some.injEq] at e
    subst e
    exact ⟨fun _ w h1 h2 => h w h1 (by omega), fun z => absurd rfl z⟩
  | n + 1, i, ws, due, a, h, e => by
    rw [lawR] at e
    have nn : ∀ {w : List Nat}, w.length = i + 1 → w ≠ [] := fun l z => by rw [z] at l; cases l
    cases hf : ws.find? (isWk es m) with
    | some w =>
      rw [hf] at e
      simp only [Option.some.injEq] at e
      subst e
      have hw := List.mem_of_find?_eq_some hf
      have fw := List.find?_some hf
      obtain ⟨lw, _⟩ := (a.mem w).mp hw
      refine ⟨fun z => absurd z (nn lw), fun _ => ⟨by omega, (isWk_iff hm (nn lw)).mp fw, fun v v0 hv => ?_⟩⟩
      have vl : 1 ≤ v.length := List.length_pos_iff.mpr v0
      rcases Nat.lt_trichotomy v.length (i + 1) with b | b | b
      · exact absurd hv (h v vl (by omega))
      · refine .inr ⟨by omega, find_least a.asc hf v ((a.mem v).mpr ⟨b, ?_⟩) ((isWk_iff hm (nn b)).mpr hv)⟩
        obtain ⟨x, hx⟩ := hv
        exact ⟨_, _, hx⟩
      · left; omega
    | none =>
      rw [hf] at e
      simp only [] at e
      split at e
      · cases e
      · rw [show i + (n + 1) = i + 1 + n by omega]
        refine lawR_go hm n (i + 1) _ due a.next (fun w h1 h2 hr => ?_) e
        by_cases hl : w.length ≤ i
        · exact h w h1 hl hr
        · have lw : w.length = i + 1 := by omega
          obtain ⟨x, hx⟩ := hr
          have := List.find?_eq_none.mp hf w ((a.mem w).mpr ⟨lw, _, _, hx⟩)
          exact this ((isWk_iff hm (nn lw)).mpr ⟨x, hx⟩)
theorem lawR_ok {es : List Ed} {m : Nat} (hm : ∀ ed ∈ es, ed.2.2.length = m) {n : Nat} {due : List Nat} (h : lawR es m n ((List.range es.length).map fun k => [k]) = some due) : LeastW (Round es m) n due := by
  have := lawR_go hm n 0 _ due (AllW.one es) (fun w h1 h2 => absurd h1 (by omega)) h
  simpa using this
theorem run_src {es : List Ed} {w : List Nat} {p q : Pl} (hw : w ≠ []) (h : run es p w = some q) : ∃ ed ∈ es, ed.1 = p.1 := by
  cases w with
  | nil => exact absurd rfl hw
  | cons k w =>
    simp only [run] at h
    cases hk : es[k]? with
    | none => rw [hk] at h; cases h
    | some ed =>
      rw [hk] at h
      simp only [] at h
      split at h
      · rename_i x; exact ⟨ed, List.mem_of_getElem? hk, x⟩
      · cases h
abbrev fromN (es : List Ed) (m n : Nat) (x : List Nat) : List Nat := fromS es (x, List.replicate m 0) n [((x, List.replicate m 0), [])] []
/-- what the law comes to is the least of what the program comes to from each rule -/
theorem bfs_ok {es : List Ed} {m n : Nat} {names : List (List Nat)} {due : List Nat} (hn : ∀ ed ∈ es, ed.1 ∈ names) (h : LeastW (Round es m) n due) :
    (due = [] → ∀ x ∈ names, fromN es m n x = []) ∧ (due ≠ [] → (∃ x ∈ names, fromN es m n x = due) ∧ ∀ x ∈ names, fromN es m n x ≠ [] → due.length < (fromN es m n x).length ∨ (due.length = (fromN es m n x).length ∧ due ≤ fromN es m n x)) := by
  refine ⟨fun e x hx => Classical.byContradiction fun z => ?_, fun e => ⟨?_, fun x hx z => ?_⟩⟩
  · obtain ⟨h1, h2, _⟩ := (fromS_ok es (x, List.replicate m 0) n).some z
    exact h.none e _ (List.length_pos_iff.mpr z) h1 ⟨x, h2⟩
  · obtain ⟨h1, ⟨x, hx⟩, h3⟩ := h.some e
    obtain ⟨ed, he, ex⟩ := run_src e hx
    refine ⟨x, by have := hn ed he; rw [ex] at this; exact this, ?_⟩
    have f : LeastW _ n (fromN es m n x) := fromS_ok es (x, List.replicate m 0) n
    have z : fromN es m n x ≠ [] := fun z => f.none z due (List.length_pos_iff.mpr e) h1 hx
    obtain ⟨f1, f2, f3⟩ := f.some z
    have a := f3 due e hx
    have b := h3 _ z ⟨x, f2⟩
    rcases a with a | ⟨a1, a2⟩
    · rcases b with b | ⟨b1, _⟩ <;> omega
    · rcases b with b | ⟨_, b2⟩
      · omega
      · exact List.le_antisymm a2 b2
  · obtain ⟨f1, f2, _⟩ := (fromS_ok es (x, List.replicate m 0) n).some z
    exact (h.some e).2.2 _ z ⟨x, f2⟩
/-! ### tables without round walks -/
/-- each edge makes a list of numbers less -/
def Dec (es : List Ed) (m : Nat) : Prop := ∃ φ : Pl → List Int, ∀ ed ∈ es, ∀ t : List Int, t.length = m → φ (ed.2.1, atO t ed.2.2) < φ (ed.1, t)
theorem dec_run {es : List Ed} {m : Nat} (hm : ∀ ed ∈ es, ed.2.2.length = m) {φ : Pl → List Int} (hφ : ∀ ed ∈ es, ∀ t : List Int, t.length = m → φ (ed.2.1, atO t ed.2.2) < φ (ed.1, t)) : ∀ {w : List Nat} {p q : Pl}, w ≠ [] → p.2.length = m → run es p w = some q → φ q < φ p
  | [], _, _, h, _, _ => absurd rfl h
  | k :: w, p, q, _, hl, h => by
    simp only [run] at h
    cases hk : es[k]? with
    | none => rw [hk] at h; cases h
    | some ed =>
      rw [hk] at h
      simp only [] at h
      split at h
      · rename_i x
        have he := List.mem_of_getElem? hk
        have s := hφ ed he p.2 hl
        rw [x] at s
        by_cases hw : w = []
        · subst hw
          simp only [run, Option.some.injEq] at h
          rw [← h]; exact s
        · refine List.lt_trans (dec_run hm hφ hw ?_ h) s
          simp only [atO, List.length_zipWith, hl, hm ed he]; simp
      · cases h
theorem Dec.none {es : List Ed} {m : Nat} (hm : ∀ ed ∈ es, ed.2.2.length = m) (d : Dec es m) {w : List Nat} (hw : w ≠ []) : ¬ Round es m w := fun ⟨x, hx⟩ => by
  obtain ⟨φ, hφ⟩ := d
  exact List.lt_irrefl _ (dec_run hm hφ hw (by simp) hx)
theorem Dec.from_ {es : List Ed} {m n : Nat} (hm : ∀ ed ∈ es, ed.2.2.length = m) (d : Dec es m) (x : List Nat) : fromN es m n x = [] := Classical.byContradiction fun z => by
  obtain ⟨_, f2, _⟩ := (fromS_ok es (x, List.replicate m 0) n).some z
  exact d.none hm z ⟨x, f2⟩
theorem slo_add : ∀ (row t os : List Int), t.length = row.length → os.length = row.length → slo row (atO t os) = slo row t + slo row os
  | [], _, _, _, _ => by simp [slo, atO]
  | r :: row, [], _, h, _ => by simp at h
  | r :: row, _ :: _, [], _, h => by simp at h
  | r :: row, a :: t, b :: os, h1, h2 => by
    have := slo_add row t os (by simpa using h1) (by simpa using h2)
    simp only [slo, atO, List.zipWith_cons_cons, List.sum_cons] at this ⊢
    rw [this, Int.mul_add]; omega
theorem dec_row {es : List Ed} {row : List Int} {nums : List Nat → Int} (hm : ∀ ed ∈ es, ed.2.2.length = row.length) (h : ∀ ed ∈ es, slo row ed.2.2 + nums ed.2.1 - nums ed.1 ≤ -1) : Dec es row.length := by
  refine ⟨fun p => [slo row p.2 + nums p.1], fun ed he t ht => List.cons_lt_cons_iff.mpr (.inl ?_)⟩
  have := h ed he
  simp only [slo_add row t ed.2.2 ht (hm ed he)]
  omega

/-! ### one step of the walks -/
abbrev keyP (p : Pl) : PV := cellP p.1 p.2
theorem ints_inj : ∀ {l m : List Int}, l.map PV.int = m.map PV.int → l = m
  | [], [], _ => rfl
  | [], _ :: _, h => by simp at h
  | _ :: _, [], h => by simp at h
  | x :: l, y :: m, h => by
    simp only [List.map_cons, List.cons.injEq, PV.int.injEq] at h
    rw [h.1, ints_inj h.2]
theorem keyP_inj {p q : Pl} (h : keyP p = keyP q) : p = q := by
  obtain ⟨a, b⟩ := p
  obtain ⟨c, d⟩ := q
  simp only [keyP, cellP, PV.tup.injEq, List.cons.injEq, PV.str.injEq, and_true] at h
  rw [h.1, ints_inj h.2]
/-- the places of a dict -/
theorem has_pl {kvs : List (PV × PV)} {ks : List Pl} (e : kvs.map Prod.fst = ks.map keyP) (p : Pl) : (dget kvs (keyP p)).isSome = decide (p ∈ ks) := by
  cases h : dget kvs (keyP p) with
  | none =>
    have z := dget_none.mp h
    rw [e] at z
    have : p ∉ ks := fun y => z (List.mem_map.mpr ⟨p, y, rfl⟩)
    simp [this]
  | some v =>
    have z : keyP p ∈ kvs.map Prod.fst := Classical.byContradiction fun z => by rw [dget_none.mpr z] at h; cases h
    rw [e] at z
    obtain ⟨q, hq, eq⟩ := List.mem_map.mp z
    rw [keyP_inj eq] at hq
    simp [hq]
theorem keys_ent (l : List Ent) : (l.map entP).map Prod.fst = (l.map (·.1)).map keyP := by rw [List.map_map, List.map_map]; rfl
theorem put_ent {acc : List Ent} {c : Ent} (h : c.1 ∉ acc.map (·.1)) : dput (acc.map entP) (keyP c.1) (walkP c.2) = (acc ++ [c]).map entP := by
  rw [dput_new, List.map_append]
  · rfl
  · rw [keys_ent]
    intro z
    obtain ⟨q, hq, eq⟩ := List.mem_map.mp z
    exact h (keyP_inj eq ▸ hq)
theorem cands1_app (e : Ent) : ∀ (l r : List Ed) (m : Nat), cands1 e m (l ++ r) = cands1 e m l ++ cands1 e (m + l.length) r
  | [], r, m => by simp [cands1]
  | ed :: l, r, m => by
    rw [List.cons_append, cands1, cands1, cands1_app e l r (m + 1), List.append_assoc, List.length_cons, Nat.add_assoc, Nat.add_comm 1]
theorem cands1_take {e : Ent} {es : List Ed} {j : Nat} {ed : Ed} (h : es[j]? = some ed) : cands1 e 0 (es.take (j + 1)) = cands1 e 0 (es.take j) ++ (if ed.1 = e.1.1 then [((ed.2.1, atO e.1.2 ed.2.2), e.2 ++ [j])] else []) := by
  have hj := (List.getElem?_eq_some_iff.mp h).1
  rw [List.take_add_one, h, cands1_app]
  simp only [Option.toList_some, cands1, List.length_take, List.append_nil]
  rw [Nat.zero_add, Nat.min_eq_left (Nat.le_of_lt hj)]
theorem addC_len (seen : List Pl) (acc : List Ent) (c : Ent) : (addC seen acc c).length ≤ acc.length + 1 := by
  unfold addC
  split <;> simp
theorem fold_len (seen : List Pl) : ∀ (cs acc : List Ent), (cs.foldl (addC seen) acc).length ≤ acc.length + cs.length
  | [], acc => by simp
  | c :: cs, acc => by
    have a := fold_len seen cs (addC seen acc c)
    have b := addC_len seen acc c
    rw [List.foldl_cons, List.length_cons]
    omega
theorem cands1_len (e : Ent) : ∀ (es : List Ed) (m : Nat), (cands1 e m es).length ≤ es.length
  | [], _ => by simp [cands1]
  | ed :: es, m => by
    have := cands1_len e es (m + 1)
    rw [cands1, List.length_append, List.length_cons]
    split <;> simp <;> omega
theorem cands_len (es : List Ed) : ∀ here : List Ent, (here.flatMap fun e => cands1 e 0 es).length ≤ here.length * es.length
  | [] => by simp
  | e :: here => by
    have a := cands_len es here
    have b := cands1_len e es 0
    rw [List.flatMap_cons, List.length_append, List.length_cons, Nat.add_mul]
    omega
section
variable {es : List Ed} {x : List Nat} {m : Nat} {hr sn : Addr}
theorem wF_edges : flook (wF es x m hr sn) (([101, 100, 103, 101, 115] : List Nat)) = some (.tup (es.map edP)) := by simp [wF, flook]
theorem wF_origin : flook (wF es x m hr sn) (([111, 114, 105, 103, 105, 110] : List Nat)) = some (keyP (x, List.replicate m 0)) := by simp [wF, flook]
theorem wF_here : flook (wF es x m hr sn) (([104, 101, 114, 101] : List Nat)) = some (.ref hr) := by simp [wF, flook]
theorem wF_seen : flook (wF es x m hr sn) (([115, 101, 101, 110] : List Nat)) = some (.ref sn) := by simp [wF, flook]
end
theorem c_Walks_longer {k : Nat} (hk : 2 ≤ k) {es : List Ed} {x : List Nat} {m : Nat} {w hr sn : Addr} {here : List Ent} {seen : List Pl} {sv : List (PV × PV)} {h : PH} {Q : QV}
    (hw : h w = some (.ins cl.Walks (wF es x m hr sn))) (hh : h hr = some (.dic true none (here.map entP))) (hs : h sn = some (.dic true none sv)) (esv : sv.map Prod.fst = seen.map keyP) (hrs : hr ≠ sn)
    (hp : ∀ e ∈ here, e.1.2.length ≤ 1000 ∧ e.2.length ≤ 1000) (hb : here.length * es.length ≤ 8000000)
    (q : ∀ f, h f = none → Q (.ref f) (up h f (.dic true none ((goAll es seen here []).map entP)))) : (wC cl k).Walks_longer [.ref w] h Q := by
  obtain ⟨k, rfl⟩ : ∃ j, k = j + 1 := ⟨k - 1, by omega⟩
  show zFn _ _ (b_Walks_longer cl (wC cl k)) _ h Q
  unfold b_Walks_longer
  dsimp! [zDn_x]
  refine ⟨true, fun f nf => ?_⟩
  have fw : w ≠ f := by rintro rfl; rw [hw] at nf; cases nf
  have fr : hr ≠ f := by rintro rfl; rw [hh] at nf; cases nf
  have fs : sn ≠ f := by rintro rfl; rw [hs] at nf; cases nf
  have wr : w ≠ hr := by rintro rfl; rw [hh] at hw; cases hw
  rw [zSeq_x, zLock_x]
  refine ⟨hr, true, here.map entP, by rw [up_ne fr]; exact hh, fun lk => ?_⟩
  obtain ⟨g, eg⟩ : ∃ g, g = up (up h f (.dic true none [])) hr (.dic true (some lk) (here.map entP)) := ⟨_, rfl⟩
  have gw : g w = some (.ins cl.Walks (wF es x m hr sn)) := by rw [eg, up_ne wr, up_ne fw]; exact hw
  have gr : g hr = some (.dic true (some lk) (here.map entP)) := by rw [eg, up_same]
  have gs : g sn = some (.dic true none sv) := by rw [eg, up_ne (Ne.symm hrs), up_ne fs]; exact hs
  have gf : g f = some (.dic true none []) := by rw [eg, up_ne (Ne.symm fr), up_same]
  have gb : ∀ A, up (up g f (.dic true none A)) hr (.dic true none (here.map entP)) = up h f (.dic true none A) := fun A => by
    funext b
    by_cases b1 : b = hr
    · subst b1; rw [up_same, up_ne fr]; exact hh.symm
    · rw [up_ne b1]
      by_cases b2 : b = f
      · subst b2; rw [up_same, up_same]
      · rw [up_ne b2, up_ne b2, eg, up_ne b1, up_ne b2]
  have g0 : up g f (.dic true none []) = g := by
    funext b
    by_cases b2 : b = f
    · subst b2; rw [up_same, gf]
    · rw [up_ne b2]
  rw [← eg]
  clear eg
  let A : Nat → List Ent := fun i => ((here.take i).flatMap fun e => cands1 e 0 es).foldl (addC seen) []
  dsimp! [zsItems_x, zFld_x, zFldI_r, gw, zFldO_i]
  refine ⟨_, wF_here, ?_⟩
  dsimp! [zsFI_r, gr, zsFO_d]
  refine forW_F (fun i ρ' h' => ∃ x2 x3 x4 x5 x6 x7 x8 : Option PV, ρ' = [some (.ref w), some (.ref f), x2, x3, x4, x5, x6, x7, x8] ∧ h' = up g f (.dic true none ((A i).map entP)))
    ⟨none, none, none, none, none, none, none, rfl, g0.symm⟩ (fun i ρ' h' _ ⟨_, _, _, _, _, _, _, _, e⟩ => by rw [e, up_ne fr]; exact gr) ?_ ?_
  · rintro i _ _ kv ek ⟨x2, x3, x4, x5, x6, x7, x8, rfl, rfl⟩
    rw [List.getElem?_map] at ek
    obtain ⟨e, ee, rfl⟩ := Option.map_eq_some_iff.mp ek
    have he := hp e (List.mem_of_getElem? ee)
    unfold pairP entP
    dsimp! [zsEnum_x, zFld_x, zFldI_r, up_ne fw, gw, zFldO_i]
    refine ⟨_, wF_edges, ?_⟩
    dsimp! [zsEnumI_t]
    have stp : A (i + 1) = (cands1 e 0 es).foldl (addC seen) (A i) := by
      show ((here.take (i + 1)).flatMap fun e => cands1 e 0 es).foldl (addC seen) [] = _
      rw [List.take_add_one, ee, List.flatMap_append, List.foldl_append]
      simp
      rfl
    have lA : (A i).length + es.length ≤ 8000000 := by
      have a := fold_len seen ((here.take i).flatMap fun e => cands1 e 0 es) []
      have b := cands_len es (here.take i)
      have hi := (List.getElem?_eq_some_iff.mp ee).1
      have c : (here.take i).length * es.length + es.length ≤ here.length * es.length := by
        have : ((here.take i).length + 1) * es.length ≤ here.length * es.length := Nat.mul_le_mul_right _ (by rw [List.length_take]; omega)
        rw [Nat.add_mul] at this
        omega
      have d : (A i).length ≤ ((here.take i).flatMap fun e => cands1 e 0 es).length := by simpa using a
      omega
    generalize A i = acc at stp lA ⊢
    rw [stp]
    refine forW_Et (ps := es.map edP) (fun j ρ' h' => ∃ x4 x5 x6 x7 x8 : Option PV, ρ' = [some (.ref w), some (.ref f), some (keyP e.1), some (walkP e.2), x4, x5, x6, x7, x8] ∧ h' = up g f (.dic true none (((cands1 e 0 (es.take j)).foldl (addC seen) acc).map entP)))
      ⟨x4, x5, x6, x7, x8, rfl, rfl⟩ ?_ ?_
    · rintro j _ _ p ep ⟨x4, x5, x6, x7, x8, rfl, rfl⟩
      rw [List.getElem?_map] at ep
      obtain ⟨⟨one, other, os⟩, ed, rfl⟩ := Option.map_eq_some_iff.mp ep
      have hj := (List.getElem?_eq_some_iff.mp ed).1
      rw [cands1_take ed, List.foldl_append]
      have l2 := fold_len seen (cands1 e 0 (es.take j)) acc
      have l3 := cands1_len e (es.take j) 0
      have l4 : (es.take j).length ≤ es.length := by rw [List.length_take]; omega
      generalize (cands1 e 0 (es.take j)).foldl (addC seen) acc = ac2 at l2 ⊢
      unfold edP
      dsimp! []
      refine c_shifted (by omega) he.1 ?_
      dsimp! []
      have fin : ∀ h' : PH, h' = up g f (.dic true none ((addC seen ac2 ((other, atO e.1.2 os), e.2 ++ [j])).map entP)) → one = e.1.1 → ∃ h2, G.Sub h2 h' ∧ ∃ x4 x5 x6 x7 x8 : Option PV, [some (PV.ref w), some (.ref f), some (keyP e.1), some (walkP e.2), some (.int (j : Nat)), some (.str one), some (.str other), some (tI os), some (keyP (other, atO e.1.2 os))] = [some (.ref w), some (.ref f), some (keyP e.1), some (walkP e.2), x4, x5, x6, x7, x8] ∧ h2 = up g f (.dic true none (((if one = e.1.1 then [((other, atO e.1.2 os), e.2 ++ [j])] else []).foldl (addC seen) ac2).map entP)) := fun h' eh ho => ⟨h', G.Sub.refl _, _, _, _, _, _, rfl, by rw [if_pos ho]; exact eh⟩
      refine ⟨by decide, ?_⟩
      by_cases ho : one = e.1.1
      · rw [if_pos (by simpa using ho)]
        dsimp! [zFld_x, zFldI_r, up_ne fw, gw, zFldO_i]
        refine ⟨_, wF_seen, ?_⟩
        have key : keyOk true (PV.tup [PV.str other, tI (atO e.1.2 os)]) = true := key_cell other _
        have has1 : (dget sv (PV.tup [PV.str other, tI (atO e.1.2 os)])).isSome = decide ((other, atO e.1.2 os) ∈ seen) := has_pl esv (other, atO e.1.2 os)
        have has2 : (dget (ac2.map entP) (PV.tup [PV.str other, tI (atO e.1.2 os)])).isSome = decide ((other, atO e.1.2 os) ∈ ac2.map (·.1)) := has_pl (keys_ent ac2) (other, atO e.1.2 os)
        dsimp! [up_ne fs, gs, key, has1]
        by_cases h1 : (other, atO e.1.2 os) ∈ seen
        · rw [if_neg (by simp [h1])]
          exact fin _ (by unfold addC; rw [if_neg (fun z => z.1 h1)]) ho
        · rw [if_pos (by simp [h1])]
          dsimp! [key, has2]
          by_cases h2 : (other, atO e.1.2 os) ∈ ac2.map (·.1)
          · rw [if_neg (by simp [h2])]
            exact fin _ (by unfold addC; rw [if_neg (fun z => z.2 h2)]) ho
          · rw [if_pos (by simp [h2])]
            refine ⟨by decide, ?_⟩
            unfold walkP
            dsimp! [List.length_map, key]
            refine ⟨by rw [sizeLine_eq]; omega, by rw [sizeLine_eq]; omega, ?_⟩
            have e3 : dput (ac2.map entP) (PV.tup [PV.str other, tI (atO e.1.2 os)]) (.tup (e.2.map (fun n : Nat => PV.int (n : Nat)) ++ [.int (j : Nat)])) = (ac2 ++ [((other, atO e.1.2 os), e.2 ++ [j])]).map entP := by
              have := put_ent (acc := ac2) (c := ((other, atO e.1.2 os), e.2 ++ [j])) h2
              rw [← this]
              unfold walkP
              rw [List.map_append]
              rfl
            rw [e3]
            refine fin _ ?_ ho
            unfold addC
            rw [if_pos ⟨h1, h2⟩]
      · rw [if_neg (by simpa using ho)]
        dsimp! []
        exact ⟨_, G.Sub.refl _, _, _, _, _, _, rfl, by rw [if_neg ho]; rfl⟩
    · rintro _ _ ⟨x4, x5, x6, x7, x8, rfl, rfl⟩
      rw [List.length_map, List.take_length]
      exact ⟨_, G.Sub.refl _, _, _, _, _, _, _, _, rfl, rfl⟩
  · rintro _ _ ⟨x2, x3, x4, x5, x6, x7, x8, rfl, rfl⟩
    rw [List.length_map]
    have e1 : A here.length = goAll es seen here [] := by
      show ((here.take here.length).flatMap fun e => cands1 e 0 es).foldl (addC seen) [] = _
      rw [List.take_length, goAll_eq]
    rw [e1]
    refine ⟨by rw [up_ne fr]; exact gr, ?_⟩
    rw [gb]
    dsimp! []
    exact ⟨_, G.Sub.refl _, q f nf⟩

/-! ### Walks.step -/
theorem goAll_new {es : List Ed} {i : Nat} {here : List Ent} {seen : List Pl} (hl : ∀ e ∈ here, e.2.length = i) (ha : Asc here) : ((goAll es seen here []).map (·.1)).Nodup ∧ ∀ c ∈ goAll es seen here [], c.1 ∉ seen := by
  rw [goAll_eq]
  have f := fold_ok seen (asc_cands es i hl ha)
  exact ⟨f.nd, f.new⟩
theorem get_ent (l : List Ent) (o : Pl) : dget (l.map entP) (keyP o) = (l.find? fun e => decide (e.1 = o)).map fun e => walkP e.2 := by
  induction l with
  | nil => rfl
  | cons e l ih =>
    have k : ((entP e).1 = keyP o) ↔ e.1 = o := ⟨fun z => keyP_inj z, fun z => by rw [← z]; rfl⟩
    simp only [dget, List.map_cons, List.find?_cons] at ih ⊢
    by_cases h : e.1 = o
    · simp [h, k.mpr h, entP]
    · have h2 : ¬ (entP e).1 = keyP o := fun z => h (k.mp z)
      simp only [decide_eq_false h, decide_eq_false h2]
      exact ih
section
variable {es : List Ed} {x : List Nat} {m : Nat} {hr sn f : Addr}
theorem wF_longer : flook (wF es x m hr sn) (([108, 111, 110, 103, 101, 114] : List Nat)) = none := by simp [wF, flook]
theorem wF_step : flook (wF es x m hr sn) (([115, 116, 101, 112] : List Nat)) = none := by simp [wF, flook]
theorem wF_put : fput (([104, 101, 114, 101] : List Nat)) (.ref f) (wF es x m hr sn) = wF es x m f sn := by simp [wF, fput]
end
def trueP (p : Pl) : PV × PV := (keyP p, .bl true)
theorem put_true {sv : List (PV × PV)} {ks : List Pl} (e : sv.map Prod.fst = ks.map keyP) {p : Pl} (h : p ∉ ks) : dput sv (keyP p) (.bl true) = sv ++ [trueP p] := by
  rw [dput_new]
  · rfl
  · rw [e]
    intro z
    obtain ⟨q, hq, eq⟩ := List.mem_map.mp z
    exact h (keyP_inj eq ▸ hq)
theorem c_Walks_step {k : Nat} (hk : 3 ≤ k) {es : List Ed} {x : List Nat} {m i : Nat} {w hr sn : Addr} {here : List Ent} {seen : List Pl} {sv : List (PV × PV)} {h : PH} {Q : QV}
    (hw : h w = some (.ins cl.Walks (wF es x m hr sn))) (hh : h hr = some (.dic true none (here.map entP))) (hs : h sn = some (.dic true none sv)) (esv : sv.map Prod.fst = seen.map keyP) (hrs : hr ≠ sn)
    (hp : ∀ e ∈ here, e.1.2.length ≤ 1000 ∧ e.2.length ≤ 1000) (hb : here.length * es.length ≤ 8000000) (hv : seen.length ≤ 8000000) (hl : ∀ e ∈ here, e.2.length = i) (ha : Asc here)
    (q : ∀ f sv' h', h f = none → h' w = some (.ins cl.Walks (wF es x m f sn)) → h' f = some (.dic true none ((goAll es seen here []).map entP)) → h' sn = some (.dic true none sv') → sv'.map Prod.fst = (seen ++ (goAll es seen here []).map (·.1)).map keyP → f ≠ sn →
      Kp [w, sn] h h' → Q (((goAll es seen here []).find? fun e => decide (e.1 = (x, List.replicate m 0))).elim (.tup []) fun e => walkP e.2) h') : (wC cl k).Walks_step [.ref w] h Q := by
  obtain ⟨k, rfl⟩ : ∃ j, k = j + 1 := ⟨k - 1, by omega⟩
  show zFn _ _ (b_Walks_step cl (wC cl k)) _ h Q
  unfold b_Walks_step
  dsimp! [zSeq_setF, zMeth_x, zMethI_r, hw, zMethO_i]
  refine ⟨wF_longer, ?_⟩
  refine c_Walks_longer (by omega) hw hh hs esv hrs hp hb fun f nf => ?_
  have fw : w ≠ f := by rintro rfl; rw [hw] at nf; cases nf
  have fs : sn ≠ f := by rintro rfl; rw [hs] at nf; cases nf
  have ws : w ≠ sn := by rintro rfl; rw [hs] at hw; cases hw
  obtain ⟨nd, nw⟩ := goAll_new (es := es) (seen := seen) hl ha
  have ln : (goAll es seen here []).length ≤ 8000000 := by
    rw [goAll_eq]
    have a := fold_len seen (here.flatMap fun e => cands1 e 0 es) []
    have b := cands_len es here
    have c : ([] : List Ent).length = 0 := rfl
    omega
  generalize goAll es seen here [] = N at nd nw q ln ⊢
  dsimp! [zSetFI_r, up_ne fw, hw, zSetFO_i]
  refine ⟨by simp [wF], ?_⟩
  rw [wF_put, zSeq_x, zLock_x]
  refine ⟨f, true, N.map entP, by rw [up_ne (Ne.symm fw), up_same], fun lk => ?_⟩
  obtain ⟨g, eg⟩ : ∃ g, g = up (up (up h f (.dic true none (N.map entP))) w (.ins cl.Walks (wF es x m f sn))) f (.dic true (some lk) (N.map entP)) := ⟨_, rfl⟩
  have gw : g w = some (.ins cl.Walks (wF es x m f sn)) := by rw [eg, up_ne fw, up_same]
  have gf : g f = some (.dic true (some lk) (N.map entP)) := by rw [eg, up_same]
  have gs : g sn = some (.dic true none sv) := by rw [eg, up_ne fs, up_ne (Ne.symm ws), up_ne fs]; exact hs
  have go : ∀ b, b ≠ w → b ≠ f → g b = h b := fun b b1 b2 => by rw [eg, up_ne b2, up_ne b1, up_ne b2]
  rw [← eg]
  clear eg
  dsimp! [zsKeyT_x, zFld_x, zFldI_r, gw, zFldO_i]
  refine ⟨_, wF_here, ?_⟩
  dsimp! [zsKeyTI_r, gf, zsKeyTO_d]
  have ks : ∀ i, (sv ++ ((N.take i).map (·.1)).map trueP).map Prod.fst = (seen ++ (N.take i).map (·.1)).map keyP := fun i => by
    rw [List.map_append, List.map_append, esv, List.map_map]
    rfl
  refine forW_F (fun i ρ' h' => ∃ x1 : Option PV, ρ' = [some (.ref w), x1] ∧ h' = up g sn (.dic true none (sv ++ ((N.take i).map (·.1)).map trueP)))
    ⟨none, rfl, ?_⟩ (fun i ρ' h' _ ⟨_, _, e⟩ => by rw [e, up_ne (Ne.symm fs)]; exact gf) ?_ ?_
  · funext b
    by_cases hb : b = sn
    · subst hb; rw [up_same, gs]; simp
    · rw [up_ne hb]
  · rintro i _ _ kv ek ⟨x1, rfl, rfl⟩
    rw [List.getElem?_map] at ek
    obtain ⟨e, ee, rfl⟩ := Option.map_eq_some_iff.mp ek
    dsimp! [zFld_x, zFldI_r, up_ne ws, gw, zFldO_i]
    refine ⟨_, wF_seen, ?_⟩
    have hi := (List.getElem?_eq_some_iff.mp ee).1
    have key : keyOk true (entP e).1 = true := key_cell e.1.1 e.1.2
    have lsv : sv.length = seen.length := by simpa using congrArg List.length esv
    have ni : e.1 ∉ seen ++ (N.take i).map (·.1) := fun z => by
      rcases List.mem_append.mp z with z | z
      · exact nw e (List.mem_of_getElem? ee) z
      · have e2 : N.map (·.1) = (N.take i).map (·.1) ++ (N.drop i).map (·.1) := by rw [← List.map_append, List.take_append_drop]
        rw [e2, List.nodup_append] at nd
        refine nd.2.2 _ z _ (List.mem_map.mpr ⟨e, ?_, rfl⟩) rfl
        rw [List.drop_eq_getElem_cons hi]
        rw [List.getElem?_eq_getElem hi] at ee
        rw [Option.some.inj ee]
        exact List.mem_cons_self
    dsimp! [key]
    refine ⟨by rw [sizeLine_eq, List.length_append, List.length_map, List.length_map, List.length_take]; omega, ?_⟩
    refine ⟨_, G.Sub.refl _, _, rfl, ?_⟩
    rw [show (entP e).1 = keyP e.1 from rfl, put_true (ks i) ni, List.take_add_one, ee]
    simp
  · rintro _ _ ⟨x1, rfl, rfl⟩
    refine ⟨by rw [up_ne (Ne.symm fs)]; exact gf, ?_⟩
    rw [List.length_map, List.take_length]
    obtain ⟨sv', e'⟩ : ∃ sv', sv' = sv ++ (N.map (·.1)).map trueP := ⟨_, rfl⟩
    have k2 := ks N.length
    rw [List.take_length, ← e'] at k2
    rw [← e']
    obtain ⟨g2, eg2⟩ : ∃ g2, g2 = up (up g sn (.dic true none sv')) f (.dic true none (N.map entP)) := ⟨_, rfl⟩
    have w2 : g2 w = some (.ins cl.Walks (wF es x m f sn)) := by rw [eg2, up_ne fw, up_ne ws]; exact gw
    have f2 : g2 f = some (.dic true none (N.map entP)) := by rw [eg2, up_same]
    have s2 : g2 sn = some (.dic true none sv') := by rw [eg2, up_ne fs, up_same]
    have o2 : Kp [w, sn] h g2 := fun b o nb eb => by
      have n1 : b ≠ w := fun z => nb (by simp [z])
      have n2 : b ≠ sn := fun z => nb (by simp [z])
      have n3 : b ≠ f := by rintro rfl; rw [nf] at eb; cases eb
      rw [eg2, up_ne n3, up_ne n2, go b n1 n3]
      exact eb
    rw [← eg2]
    clear eg2
    dsimp! [zFld_x, zFldI_r, w2, zFldO_i]
    refine ⟨_, wF_here, ?_⟩
    dsimp! [f2, zFld_x, zFldI_r, w2, zFldO_i]
    refine ⟨_, wF_origin, by decide, ?_⟩
    rw [zDget_2, f2, zDgetO_d]
    refine ⟨key_cell _ _, ?_⟩
    rw [get_ent]
    refine ⟨_, G.Sub.refl _, ?_⟩
    have := q f sv' g2 nf w2 f2 s2 k2 (Ne.symm fs) o2
    cases hf : N.find? fun e => decide (e.1 = (x, List.replicate m 0)) with
    | none => rw [hf] at this; exact this
    | some e => rw [hf] at this; exact this

/-! ### shortest_from -/
theorem zNe_tt {a b : List PV} {h : PH} {Q : QV} : zNot zEq (.tup a) (.tup b) h Q = (PV.pls a = true ∧ (PV.tup b).pl = true ∧ PV.dps a ≤ 63 ∧ (PV.tup b).dp ≤ 64 ∧ Q (.bl (!decide (PV.tup a = .tup b))) h) := rfl
theorem walk_pl (w : List Nat) : PV.pls (w.map fun n : Nat => PV.int (n : Nat)) = true ∧ PV.dps (w.map fun n : Nat => PV.int (n : Nat)) = 0 := by
  induction w with
  | nil => exact ⟨rfl, rfl⟩
  | cons x l ih => simp [PV.pls, PV.pl, PV.dps, PV.dp, ih.1, ih.2]
theorem walkP_ne {w : List Nat} (h : w ≠ []) : decide (walkP w = .tup []) = false := by
  cases w with
  | nil => exact absurd rfl h
  | cons x w => simp [walkP]
theorem goAll_len (es : List Ed) (seen : List Pl) (here : List Ent) : (goAll es seen here []).length ≤ here.length * es.length := by
  rw [goAll_eq]
  have a := fold_len seen (here.flatMap fun e => cands1 e 0 es) []
  have b := cands_len es here
  have c : ([] : List Ent).length = 0 := rfl
  omega
theorem pow_small {a i : Nat} (h : a ≤ 51) (hi : i ≤ 4) : a ^ i ≤ 6765201 := Nat.le_trans (Nat.pow_le_pow_left h i) (Nat.le_trans (Nat.pow_le_pow_right (by omega) hi) (by decide))
theorem c_shortest_from {k : Nat} (hk : 14 ≤ k) {t : Tb} (hs : t.rs.length ≤ 8) (hd : ∀ r ∈ t.rs, r.e.dep ≤ 9) (hn : ∀ x ∈ t.rs.map Row.name, okS x = true) (hc : ∀ r ∈ t.rs, ∀ c ∈ r.e.refs, okS c.1 = true) (ho : t.over.length ≤ 1000)
    (hm : ∀ ed ∈ t.edges, ed.2.2.length = t.over.length) (he : t.edges.length ≤ 51) {n : Nat} (hn4 : n ≤ 4) {x : List Nat} {h : PH} {Q : QV} (q : ∀ h', Kp [] h h' → Q (walkP (fromN t.edges t.over.length n x)) h') : (wC cl k).shortest_from [t.P, .str x, .int n] h Q := by
  obtain ⟨k, rfl⟩ : ∃ j, k = j + 1 := ⟨k - 1, by omega⟩
  show zFn _ _ (b_shortest_from cl (wC cl k)) _ h Q
  unfold b_shortest_from
  dsimp! [zMake_x]
  intro w nw
  refine c_Walks_init (by omega) hs hd hn hc ho up_same fun hr sn h1 r1 s1 rs nhr nsn k1 e1 e2 e3 => ?_
  have kk : Kp [] h h1 := fun b o _ eb => k1 b o (by simp; rintro rfl; rw [nw] at eb; cases eb) (by rw [up_ne (by rintro rfl; rw [nw] at eb; cases eb)]; exact eb)
  refine ⟨rfl, ?_⟩
  rw [zSeq_x]
  dsimp! []
  refine ⟨by omega, by omega, ?_⟩
  generalize t.edges = es at hm he q e1
  generalize t.over.length = m at hm q e1 e2 ho
  have p51 : ∀ i, i ≤ 4 → 51 ^ i ≤ 6765201 := fun i hi => pow_small (Nat.le_refl 51) hi
  refine forW_R (fun i ρ' h' => ∃ (hr sn : Addr) (here : List Ent) (seen : List Pl) (sv : List (PV × PV)) (x4 x5 : Option PV), ρ' = [some t.P, some (.str x), some (.int n), some (.ref w), x4, x5] ∧ h' w = some (.ins cl.Walks (wF es x m hr sn)) ∧ h' hr = some (.dic true none (here.map entP)) ∧ h' sn = some (.dic true none sv) ∧
    sv.map Prod.fst = seen.map keyP ∧ hr ≠ sn ∧ StepOk es (x, List.replicate m 0) i here seen ∧ here.length ≤ 51 ^ i ∧ seen.length ≤ i * 51 ^ i ∧ fromS es (x, List.replicate m 0) (n - i) here seen = fromN es m n x ∧ h sn = none ∧ Kp [] h h')
    ⟨hr, sn, [((x, List.replicate m 0), [])], [], [], none, none, rfl, e1, e2, e3, rfl, rs, StepOk.zero es _, by simp, by simp, rfl, by rw [up_ne s1] at nsn; exact nsn, kk⟩ ?_ ?_
  · rintro i _ h' hi ⟨hr, sn, here, seen, sv, x4, x5, rfl, e1, e2, e3, e4, e5, st, l1, l2, fr, ns, kk⟩
    have hi' : i < n := by omega
    have p1 := p51 (i + 1) (by omega)
    have hb : here.length * es.length ≤ 51 ^ (i + 1) := by
      rw [Nat.pow_succ]
      exact Nat.mul_le_mul l1 he
    have hv : seen.length ≤ 3 * 132651 := Nat.le_trans l2 (Nat.mul_le_mul (by omega) (Nat.le_trans (Nat.pow_le_pow_right (by omega) (show i ≤ 3 by omega)) (by decide)))
    have pl : ∀ e ∈ here, e.1.2.length ≤ 1000 ∧ e.2.length ≤ 1000 := fun e hx => by
      obtain ⟨r1, r2⟩ := st.run_ e hx
      have r3 := run_len hm (p := (x, List.replicate m 0)) (by simp) r1
      exact ⟨by omega, by omega⟩
    dsimp! [zMeth_x, zMethI_r, e1, zMethO_i]
    refine ⟨wF_step, ?_⟩
    refine c_Walks_step (i := i) (by omega) e1 e2 e3 e4 e5 pl (by omega) (by omega) (fun e hx => (st.run_ e hx).2) st.asc fun f sv' h2 nf w2 f2 s2 k2 fsn o2 => ?_
    obtain ⟨d, hd⟩ : ∃ d, n - i = d + 1 := ⟨n - i - 1, by omega⟩
    rw [hd, fromS] at fr
    have ko : Kp [] h h2 := fun b o nb eb => o2 b o (by
      have b1 : b ≠ w := by rintro rfl; rw [nw] at eb; cases eb
      have b2 : b ≠ sn := by rintro rfl; rw [ns] at eb; cases eb
      simp [b1, b2]) (kk b o nb eb)
    have st2 := st.next (seen' := seen ++ (goAll es seen here []).map (·.1)) fun p => List.mem_append
    have ln := goAll_len es seen here
    cases hf : (goAll es seen here []).find? fun e => decide (e.1 = (x, List.replicate m 0)) with
    | none =>
      rw [hf] at fr
      simp only [Option.elim] at fr ⊢
      dsimp! [zNe_tt]
      refine ⟨Nat.zero_le _, rfl, rfl, by decide, by decide, ?_⟩
      rw [if_neg (by simp)]
      refine ⟨h2, G.Sub.refl _, f, sn, _, _, sv', _, _, rfl, w2, f2, s2, k2, fsn, st2, Nat.le_trans ln hb, ?_, ?_, ns, ko⟩
      · rw [List.length_append, List.length_map, Nat.add_mul, Nat.one_mul]
        have : i * 51 ^ i ≤ i * 51 ^ (i + 1) := Nat.mul_le_mul_left _ (Nat.pow_le_pow_right (by omega) (by omega))
        exact Nat.add_le_add (Nat.le_trans l2 this) (Nat.le_trans ln hb)
      · rw [show n - (i + 1) = d by omega]; exact fr
    | some e =>
      rw [hf] at fr
      have hx := List.mem_of_find?_eq_some hf
      have ne : e.2 ≠ [] := fun z => by have := (st2.run_ e hx).2; rw [z] at this; cases this
      simp only [Option.elim] at fr ⊢
      have wp := walk_pl e.2
      have wne := walkP_ne ne
      unfold walkP at wne ⊢
      dsimp! [zNe_tt]
      refine ⟨Nat.zero_le _, wp.1, rfl, by rw [wp.2]; decide, by decide, ?_⟩
      rw [wne]
      dsimp! []
      rw [← fr] at q
      exact ⟨_, G.Sub.refl _, q h2 ko⟩
  · rintro _ h' ⟨hr, sn, here, seen, sv, x4, x5, rfl, e1, e2, e3, e4, e5, st, l1, l2, fr, ns, kk⟩
    rw [show n - (n : Int).toNat = 0 by omega, fromS] at fr
    dsimp! []
    refine ⟨Nat.zero_le _, _, G.Sub.refl _, ?_⟩
    have := q h' kk
    rw [← fr] at this
    exact this

/-! ### shortest_walk -/
def wlt (v w : List Nat) : Prop := v.length < w.length ∨ (v.length = w.length ∧ v < w)
instance (v w : List Nat) : Decidable (wlt v w) := by unfold wlt; infer_instance
def kw (w : List Nat) : PV := .tup [.int (w.length : Nat), walkP w]
theorem lts_walk : ∀ v w : List Nat, PV.lts? (v.map fun n : Nat => PV.int (n : Nat)) (w.map fun n : Nat => PV.int (n : Nat)) = some (decide (v < w))
  | [], [] => by simp [PV.lts?]
  | [], y :: w => by simp [PV.lts?]
  | x :: v, [] => by simp [PV.lts?]
  | x :: v, y :: w => by
    simp only [List.map_cons, PV.lts?]
    by_cases e : x = y
    · subst e
      rw [if_pos rfl, lts_walk v w]
      congr 1
      rw [decide_eq_decide, List.cons_lt_cons_iff]
      exact ⟨fun h => .inr ⟨rfl, h⟩, fun h => h.elim (fun z => absurd z (Nat.lt_irrefl x)) fun z => z.2⟩
    · rw [if_neg (by rw [PV.int.injEq]; omega)]
      simp only [PV.lt?, Option.some.injEq]
      rw [decide_eq_decide, List.cons_lt_cons_iff]
      constructor
      · intro h; left; omega
      · rintro (h | ⟨h, _⟩)
        · omega
        · exact absurd h e
theorem walkP_inj {v w : List Nat} (h : walkP v = walkP w) : v = w := by
  simp only [walkP, PV.tup.injEq] at h
  have : v.map (fun n : Nat => (n : Int)) = w.map (fun n : Nat => (n : Int)) := ints_inj (by rw [List.map_map, List.map_map]; exact h)
  exact (List.map_inj_right (f := fun n : Nat => (n : Int)) (fun x y e => by have e' : (x : Int) = y := e; omega)).mp this
theorem lt_kw (v w : List Nat) : PV.lt? (kw v) (kw w) = some (decide (wlt v w)) := by
  simp only [kw, PV.lt?, PV.lts?]
  by_cases e : v.length = w.length
  · rw [if_pos (by rw [e])]
    by_cases e2 : v = w
    · subst e2
      rw [if_pos rfl]
      have : ¬ wlt v v := fun z => z.elim (fun z => absurd z (Nat.lt_irrefl _)) fun z => absurd z.2 (List.lt_irrefl _)
      simp [this]
    · rw [if_neg (fun z => e2 (walkP_inj z))]
      show PV.lts? _ _ = _
      rw [lts_walk]
      congr 1
      rw [decide_eq_decide, wlt]
      constructor
      · exact fun h => .inr ⟨e, h⟩
      · rintro (h | h)
        · omega
        · exact h.2
  · rw [if_neg (by rw [PV.int.injEq]; omega)]
    congr 1
    rw [decide_eq_decide, wlt]
    constructor
    · intro h; left; omega
    · rintro (h | h)
      · omega
      · exact absurd h.1 e
theorem kw_ok (ws : List (List Nat)) : sortOk (ws.map kw) = true := by
  have h1 : PV.pls (ws.map kw) = true := by
    induction ws with
    | nil => rfl
    | cons w ws ih => simp [PV.pls, ih, kw, PV.pl, walkP, (walk_pl w).1]
  have h2 : PV.dps (ws.map kw) ≤ 4 := by
    clear h1
    induction ws with
    | nil => simp [PV.dps]
    | cons w ws ih =>
      have e : (kw w).dp ≤ 4 := by simp [kw, PV.dp, PV.dps, walkP, (walk_pl w).2]
      rw [List.map_cons, PV.dps]
      omega
  unfold sortOk
  simp only [Bool.and_eq_true, Bool.or_eq_true, decide_eq_true_eq, List.all_eq_true, h1, hdAll]
  refine ⟨⟨⟨trivial, by omega⟩, fun x hx y hy => ?_⟩, ?_⟩
  · obtain ⟨v, _, rfl⟩ := List.mem_map.mp hx
    obtain ⟨w, _, rfl⟩ := List.mem_map.mp hy
    rw [lt_kw]; rfl
  · exact .inl (.inl (.inr fun x hx => by obtain ⟨s, _, rfl⟩ := List.mem_map.mp hx; rfl))
structure ShW (es : List Ed) (m n : Nat) (names : List (List Nat)) (r : List Nat) : Prop where
  none : r = [] → ∀ x ∈ names, fromN es m n x = []
  some : r ≠ [] → (∃ x ∈ names, fromN es m n x = r) ∧ ∀ x ∈ names, fromN es m n x ≠ [] → ¬ wlt (fromN es m n x) r
theorem ShW.uniq {es : List Ed} {m n : Nat} {names : List (List Nat)} {r due : List Nat} (s : ShW es m n names r)
    (h : (due = [] → ∀ x ∈ names, fromN es m n x = []) ∧ (due ≠ [] → (∃ x ∈ names, fromN es m n x = due) ∧ ∀ x ∈ names, fromN es m n x ≠ [] → due.length < (fromN es m n x).length ∨ (due.length = (fromN es m n x).length ∧ due ≤ fromN es m n x))) : r = due := by
  by_cases e : due = []
  · subst e
    refine Classical.byContradiction fun z => ?_
    obtain ⟨⟨x, hx, ex⟩, _⟩ := s.some z
    exact z (ex ▸ h.1 rfl x hx)
  · obtain ⟨⟨x, hx, ex⟩, h2⟩ := h.2 e
    have z : r ≠ [] := fun z => e (ex ▸ s.none z x hx)
    obtain ⟨⟨y, hy, ey⟩, s2⟩ := s.some z
    have a := s2 x hx (by rw [ex]; exact e)
    have b := h2 y hy (by rw [ey]; exact z)
    rw [ex] at a
    rw [ey] at b
    rcases b with b | ⟨b1, b2⟩
    · exact absurd (.inl b) a
    · refine List.le_antisymm ?_ b2
      exact List.not_lt.mp fun c => a (.inr ⟨b1, c⟩)
theorem filt_walk (f : List Nat → List Nat) (l : List (List Nat)) : ((l.map fun x => walkP (f x)).filter fun p => !decide (p = .tup [])) = ((l.map f).filter fun w => !decide (w = [])).map walkP := by
  induction l with
  | nil => rfl
  | cons x l ih =>
    rw [List.map_cons, List.map_cons]
    by_cases e : f x = []
    · rw [List.filter_cons_of_neg (by rw [e]; decide), List.filter_cons_of_neg (by rw [e]; decide), ih]
    · rw [List.filter_cons_of_pos (by rw [walkP_ne e]; decide), List.filter_cons_of_pos (by simp [e]), List.map_cons, ih]
theorem c_shortest_walk {k : Nat} (hk : 16 ≤ k) {t : Tb} (hs : t.rs.length ≤ 8) (hd : ∀ r ∈ t.rs, r.e.dep ≤ 9) (hn : ∀ x ∈ t.rs.map Row.name, okS x = true) (hc : ∀ r ∈ t.rs, ∀ c ∈ r.e.refs, okS c.1 = true) (ho : t.over.length ≤ 1000)
    (hm : ∀ ed ∈ t.edges, ed.2.2.length = t.over.length) (he : t.edges.length ≤ 51) {n : Nat} (hn4 : n ≤ 4) {h : PH} {Q : QV} (q : ∀ r h', Kp [] h h' → ShW t.edges t.over.length n (t.rs.map Row.name) r → Q (walkP r) h') : (wC cl k).shortest_walk [t.P, .int n] h Q := by
  obtain ⟨k, rfl⟩ : ∃ j, k = j + 1 := ⟨k - 1, by omega⟩
  show zFn _ _ (b_shortest_walk cl (wC cl k)) _ h Q
  unfold b_shortest_walk
  dsimp! []
  refine c_rule_names (by omega) (by omega) fun d nd => ?_
  rw [zsAnyI_r, up_same, zsAnyO_l]
  refine lcW_L (ps := (t.rs.map Row.name).map .str) (by rw [sizeLine_eq, List.length_map, List.length_map]; omega) (fun i acc h' => acc = ((t.rs.map Row.name).take i).map (fun x => walkP (fromN t.edges t.over.length n x)) ∧ Kp [] (up h d (.lst ((t.rs.map Row.name).map .str))) h')
    ⟨rfl, Kp.refl _ _⟩ (fun i acc h' ⟨e, _⟩ => by rw [e, List.length_map, List.length_take]; omega) (fun i acc h' _ ⟨_, k1⟩ => k1 d _ (by simp) up_same) ?_ ?_
  · rintro i _ h1 p ep ⟨rfl, k1⟩
    rw [List.getElem?_map] at ep
    obtain ⟨x, ex, rfl⟩ := Option.map_eq_some_iff.mp ep
    dsimp! []
    refine c_shortest_from (by omega) hs hd hn hc ho hm he hn4 fun h2 k2 => ?_
    refine ⟨h2, G.Sub.refl _, ?_, k1.trans k2⟩
    rw [List.take_add_one, ex]
    simp
  rintro _ h1 ⟨rfl, k1⟩ a na
  rw [List.length_map, List.take_length]
  generalize hN : t.rs.map Row.name = names at *
  have k2 : Kp [] h (up h1 a (.lst (names.map fun x => walkP (fromN t.edges t.over.length n x)))) := ((kp_new nd).trans k1).new na
  dsimp! [zSortK_x]
  obtain ⟨ws, ews⟩ : ∃ ws, ws = (names.map (fromN t.edges t.over.length n)).filter fun w => !decide (w = []) := ⟨_, rfl⟩
  refine lcP_L (ps := names.map fun x => walkP (fromN t.edges t.over.length n x)) (fun p => !decide (p = .tup [])) (fun p => p) ?_ up_same (fun p hp R acc r => ?_) ?_
  · have : names.length ≤ 8 := by rw [← hN, List.length_map]; exact hs
    rw [sizeLine_eq, List.length_map]; omega
  · obtain ⟨x, _, rfl⟩ := List.mem_map.mp hp
    generalize fromN t.edges t.over.length n x = w at r ⊢
    have wp := walk_pl w
    unfold walkP at r ⊢
    dsimp! [zNe_tt]
    refine ⟨Nat.zero_le _, wp.1, rfl, by rw [wp.2]; decide, by decide, ?_⟩
    exact r
  have ef : ((names.map fun x => walkP (fromN t.edges t.over.length n x)).filter fun p => !decide (p = .tup [])).map (fun p => p) = ws.map walkP := by
    rw [ews, List.map_id'' (fun _ => rfl)]
    exact filt_walk _ _
  rw [ef]
  intro c nc
  dsimp! [zSortK_x, zSortKI_r]
  refine ⟨ws.map kw, ?_, by rw [List.length_map, List.length_map], kw_ok ws, fun i p q' ep eq h' hh => ?_, fun e out ne so st => ?_⟩
  · have : ∀ l : List (List Nat), PV.pls (l.map walkP) = true := fun l => by
      induction l with
      | nil => rfl
      | cons w l ih => simp [PV.pls, ih, PV.pl, walkP, (walk_pl w).1]
    exact this ws
  · rw [List.getElem?_map] at ep eq
    obtain ⟨w, ew, rfl⟩ := Option.map_eq_some_iff.mp ep
    rw [ew] at eq
    obtain rfl : kw w = q' := by simpa using eq
    exact c_walk_order (by omega) ⟨rfl, G.Sub.refl _⟩
  have k3 := (k2.new nc (o := .lst (ws.map walkP))).new ne (o := .lst (out.map Prod.snd))
  have mem : ∀ y, y ∈ out ↔ ∃ w ∈ ws, y = (kw w, walkP w) := fun y => by
    rw [st.perm.mem_iff, List.zip_map', List.mem_map]
    exact ⟨fun ⟨w, hw, e⟩ => ⟨w, hw, e.symm⟩, fun ⟨w, hw, e⟩ => ⟨w, hw, e.symm⟩⟩
  have mws : ∀ w, w ∈ ws ↔ (∃ x ∈ names, fromN t.edges t.over.length n x = w) ∧ w ≠ [] := fun w => by
    rw [ews, List.mem_filter, List.mem_map]; simp
  dsimp! []
  cases out with
  | nil =>
    dsimp! []
    refine ⟨Nat.zero_le _, _, G.Sub.refl _, q [] _ k3 ⟨fun _ x hx => Classical.byContradiction fun z => ?_, fun z => absurd rfl z⟩⟩
    have := (mem (kw (fromN t.edges t.over.length n x), walkP (fromN t.edges t.over.length n x))).mpr ⟨_, (mws _).mpr ⟨⟨x, hx, rfl⟩, z⟩, rfl⟩
    cases this
  | cons y out =>
    obtain ⟨w, hw, rfl⟩ := (mem y).mp List.mem_cons_self
    dsimp! []
    refine ⟨_, G.Sub.refl _, q w _ k3 ⟨fun z => absurd z ((mws w).mp hw).2, fun _ => ⟨((mws w).mp hw).1, fun x hx z c => ?_⟩⟩⟩
    have mx := (mem (kw (fromN t.edges t.over.length n x), walkP (fromN t.edges t.over.length n x))).mpr ⟨_, (mws _).mpr ⟨⟨x, hx, rfl⟩, z⟩, rfl⟩
    have lo : PV.o (kw (fromN t.edges t.over.length n x)) (kw w) = true := by rw [PV.o_of (lt_kw _ _)]; exact decide_eq_true c
    rcases List.mem_cons.mp mx with e' | mx
    · have : fromN t.edges t.over.length n x = w := walkP_inj (congrArg Prod.snd e')
      rw [this, PV.swo.refl] at lo
      cases lo
    · have : PV.o (kw (fromN t.edges t.over.length n x)) (kw w) = false := SrtO.srtd_head so _ mx
      rw [lo] at this
      cases this

/-! ### the law's own edges -/
def edB (ns : List (List Nat)) : PV → Bool
  | .tup [_, x, _] => decide (x ∈ ns.map PV.str)
  | _ => false
def edF (nm : List Nat) : PV → PV
  | .tup [_, x, os] => .tup [.str nm, x, os]
  | _ => .non
theorem str_mem {x : List Nat} {ns : List (List Nat)} : decide (PV.str x ∈ ns.map PV.str) = decide (x ∈ ns) := by
  rw [decide_eq_decide]
  constructor
  · intro z
    obtain ⟨y, hy, ey⟩ := List.mem_map.mp z
    cases ey
    exact hy
  · exact fun z => List.mem_map.mpr ⟨_, z, rfl⟩
theorem ed_filt (nm : List Nat) (ns : List (List Nat)) : ∀ l : List (List Nat × List Int), ((l.map refP).filter (edB ns)).map (edF nm) = ((l.filter fun c => decide (c.1 ∈ ns)).map fun c => (nm, c.1, c.2)).map edP
  | [] => rfl
  | c :: l => by
    have e : edB ns (refP c) = decide (c.1 ∈ ns) := str_mem
    rw [List.map_cons]
    by_cases h : c.1 ∈ ns
    · rw [List.filter_cons_of_pos (by rw [e]; exact decide_eq_true h), List.filter_cons_of_pos (by exact decide_eq_true h), List.map_cons, List.map_cons, List.map_cons, ed_filt nm ns l]
      rfl
    · rw [List.filter_cons_of_neg (by rw [e]; simpa using h), List.filter_cons_of_neg (by simpa using h), ed_filt nm ns l]
theorem c_own_edges {k : Nat} (hk : 12 ≤ k) {t : Tb} (hs : t.rs.length ≤ 8) (hd : ∀ r ∈ t.rs, r.e.dep ≤ 9) (hn : ∀ x ∈ t.rs.map Row.name, okS x = true) (hc : ∀ r ∈ t.rs, ∀ c ∈ r.e.refs, okS c.1 = true) {h : PH} {Q : QV}
    (q : ∀ f h', h f = none → Kp [] h h' → h' f = some (.lst (t.edges.map edP)) → Q (.ref f) h') : (wC cl k)._law_own_edges [t.P] h Q := by
  obtain ⟨k, rfl⟩ : ∃ j, k = j + 1 := ⟨k - 1, by omega⟩
  show zFn _ _ (b__law_own_edges cl (wC cl k)) _ h Q
  unfold b__law_own_edges Tb.P
  dsimp! []
  refine lcP_V (fun _ => true) nameP (by rw [sizeLine_eq, List.length_map]; omega) (fun x hx R acc h1 => ?_) ?_
  · rw [if_pos rfl] at h1
    obtain ⟨r, hr, rfl⟩ := List.mem_map.mp hx
    unfold Row.P at h1 ⊢
    dsimp! []
    exact h1
  rw [List.filter_eq_self.mpr (by simp), List.map_map]
  intro d nd
  have e : t.rs.map (nameP ∘ Row.P) = (t.rs.map Row.name).map .str := by rw [List.map_map]; rfl
  rw [e]
  dsimp! []
  refine ⟨Nat.zero_le _, fun f nf => ?_⟩
  have ne : f ≠ d := by rintro rfl; rw [up_same] at nf; cases nf
  have nf0 : h f = none := by rw [up_ne ne] at nf; exact nf
  rw [zSeq_x]
  dsimp! []
  refine forW_V (fun i ρ' h' => ∃ (f : Addr) (x3 x4 x5 x6 x7 x8 x9 : Option PV), ρ' = [some t.P, some (.ref d), some (.ref f), x3, x4, x5, x6, x7, x8, x9] ∧ h f = none ∧ Kp [] h h' ∧ h' d = some (.lst ((t.rs.map Row.name).map .str)) ∧ h' f = some (.lst (((t.rs.take i).flatMap (rowEdges (t.rs.map Row.name))).map edP)))
    ⟨f, none, none, none, none, none, none, none, rfl, nf0, (kp_new nd).new nf, by rw [up_ne (Ne.symm ne), up_same], up_same⟩ ?_ ?_
  · rintro i _ h1 p ep ⟨f, x3, x4, x5, x6, x7, x8, x9, rfl, nf0, k1, e1, e2⟩
    rw [List.getElem?_map] at ep
    obtain ⟨r, er, rfl⟩ := Option.map_eq_some_iff.mp ep
    have hr := List.mem_of_getElem? er
    unfold Row.P
    dsimp! []
    refine c_refs r.e.dep r.e (Nat.le_refl _) (hd r hr) (by have := hd r hr; omega) fun g ng => ?_
    have ngd : d ≠ g := by rintro rfl; rw [e1] at ng; cases ng
    have ngf : f ≠ g := by rintro rfl; rw [e2] at ng; cases ng
    rw [zsAnyI_r, up_same, zsAnyO_l]
    have lr : r.e.refs.length ≤ 262144 := Nat.le_trans (refs_len r.e) (pow9 (hd r hr))
    refine lcP_L (ps := r.e.refs.map refP) (edB (t.rs.map Row.name)) (edF r.name) (by rw [sizeLine_eq, List.length_map]; omega) up_same (fun x hx R acc h2 => ?_) ?_
    · obtain ⟨c, hcm, rfl⟩ := List.mem_map.mp hx
      have o1 := pls_strs (l := [c.1]) (by simpa using hc r hr c hcm)
      have o2 := pls_strs hn
      have eB : edB (t.rs.map Row.name) (refP c) = decide (PV.str c.1 ∈ (t.rs.map Row.name).map PV.str) := rfl
      have eF : edF r.name (refP c) = .tup [.str r.name, .str c.1, tI c.2] := rfl
      simp only [eB, eF] at h2
      unfold refP at h2 ⊢
      dsimp! [up_ne ngd, e1]
      refine ⟨by simpa [PV.pls] using o1.1, by simp [PV.dp], o2.1, by rw [o2.2]; decide, ?_⟩
      cases hm : decide (PV.str c.1 ∈ (t.rs.map Row.name).map PV.str) with
      | true =>
        simp only [hm, if_true] at h2
        rw [if_pos rfl]
        exact ⟨by decide, h2⟩
      | false =>
        simp only [hm, Bool.false_eq_true, if_false] at h2
        rw [if_neg (by simp)]
        exact h2
    · rw [ed_filt]
      intro D nD
      have nDf : f ≠ D := by rintro rfl; rw [up_ne ngf, e2] at nD; cases nD
      have nDd : d ≠ D := by rintro rfl; rw [up_ne ngd, e1] at nD; cases nD
      dsimp! [up_ne nDf, up_ne ngf, e2]
      have b1 := edges_small hs hd i
      have b2 : (r.e.refs.filter fun c => decide (c.1 ∈ t.rs.map Row.name)).length ≤ r.e.refs.length := List.length_filter_le _ _
      refine ⟨by rw [List.length_map, List.length_map, List.length_map]; omega, fun p np => ?_⟩
      have k2 := (k1.new ng (o := .lst (r.e.refs.map refP))).new nD (o := .lst (((r.e.refs.filter fun c => decide (c.1 ∈ t.rs.map Row.name)).map fun c => (r.name, c.1, c.2)).map edP))
      have npd : d ≠ p := by rintro rfl; rw [up_ne nDd, up_ne ngd, e1] at np; cases np
      refine ⟨_, G.Sub.refl _, p, _, _, _, _, _, _, _, rfl, kp_fresh k2 np, k2.new np, by rw [up_ne npd, up_ne nDd, up_ne ngd]; exact e1, ?_⟩
      rw [up_same, List.take_add_one, er, ← List.map_append]
      simp [rowEdges]
  · rintro _ h1 ⟨f, x3, x4, x5, x6, x7, x8, x9, rfl, nf0, k1, e1, e2⟩
    rw [List.length_map, List.take_length] at e2
    dsimp! []
    exact ⟨_, G.Sub.refl _, q f h1 nf0 k1 e2⟩

/-! ### the law's is_walk -/
theorem atW {w : List Nat} {i : Nat} (h : i < w.length) : atI (w.map fun n : Nat => PV.int (n : Nat)) (i : Int) = some (.int (w[i] : Nat)) := by
  rw [atN, List.getElem?_map, List.getElem?_eq_getElem h]; rfl
theorem atLast {w : List Nat} (h : w ≠ []) : atI (w.map fun n : Nat => PV.int (n : Nat)) (-1) = some (.int ((w.getLast h : Nat) : Int)) := by
  conv => lhs; rw [← List.dropLast_concat_getLast h, List.map_append]
  exact L2.atI_last _ _
theorem atE {es : List Ed} {i : Nat} (h : i < es.length) : atI (es.map edP) (i : Int) = some (edP es[i]) := by
  rw [atN, List.getElem?_map, List.getElem?_eq_getElem h]; rfl
/-- the edge ahead of the one at k, round -/
def prevW (w : List Nat) (k : Nat) : Nat := if k = 0 then w.getLast?.getD 0 else w.getD (k - 1) 0
theorem prev_at {w : List Nat} (h : w ≠ []) {k : Nat} (hk : k < w.length) : atI (w.map fun n : Nat => PV.int (n : Nat)) ((k : Int) - 1) = some (.int ((prevW w k : Nat) : Int)) := by
  unfold prevW
  by_cases e : k = 0
  · subst e
    rw [if_pos rfl, List.getLast?_eq_some_getLast h]
    exact atLast h
  · rw [if_neg e, show (k : Int) - 1 = ((k - 1 : Nat) : Int) by omega, atW (show k - 1 < w.length by omega), List.getD_eq_getElem?_getD, List.getElem?_eq_getElem (show k - 1 < w.length by omega)]
    rfl
theorem prev_lt {w : List Nat} {n : Nat} (hw : ∀ x ∈ w, x < n) (h : w ≠ []) {k : Nat} (hk : k < w.length) : prevW w k < n := by
  unfold prevW
  by_cases e : k = 0
  · rw [if_pos e, List.getLast?_eq_some_getLast h]
    exact hw _ (List.getLast_mem h)
  · rw [if_neg e, List.getD_eq_getElem?_getD, List.getElem?_eq_getElem (show k - 1 < w.length by omega)]
    exact hw _ (List.getElem_mem _)
theorem dstE_at {es : List Ed} {i : Nat} (h : i < es.length) : dstE es i = es[i].2.1 := by unfold dstE; rw [List.getElem?_eq_getElem h]
theorem rep_tI (n : Nat) : (List.replicate (n : Int).toNat [PV.int 0]).flatten = (List.replicate n 0).map PV.int := by
  rw [Int.toNat_natCast]
  induction n with
  | zero => rfl
  | succ m ih => rw [List.replicate_succ, List.flatten_cons, ih, List.replicate_succ]; rfl
def neB : PV → PV
  | .int i => .bl (!decide (i = 0))
  | _ => .non
theorem c_is_walk {k : Nat} (hk : 3 ≤ k) {es : List Ed} {m : Nat} (hm : ∀ ed ∈ es, ed.2.2.length = m) (hm2 : m ≤ 1000) {w : List Nat} (h0 : w ≠ []) (hl : w.length ≤ 1000) (hw : ∀ x ∈ w, x < es.length) {f : Addr} {h : PH} {Q : QV} (hf : h f = some (.lst (es.map edP))) (q : Q (.bl (isWk es m w)) h) :
    (wC cl k)._law_is_walk [.ref f, walkP w] h Q := by
  obtain ⟨k, rfl⟩ : ∃ j, k = j + 1 := ⟨k - 1, by omega⟩
  show zFn _ _ (b__law_is_walk cl (wC cl k)) _ h Q
  unfold b__law_is_walk walkP
  have wp := walk_pl w
  have hlw : 0 < w.length := List.length_pos_iff.mpr h0
  have hes : 0 < es.length := by have := hw _ (List.getElem_mem hlw); omega
  dsimp! []
  rw [zSeq_x]
  dsimp! []
  rw [if_neg (by simp)]
  refine ⟨Nat.zero_le _, wp.1, rfl, by rw [wp.2]; decide, by decide, ?_⟩
  have wne := walkP_ne h0
  unfold walkP at wne
  rw [wne]
  dsimp! []
  rw [zSeq_x]
  dsimp! []
  refine lcP_V (fun _ => true) (fun _ => PV.bl true) (by rw [sizeLine_eq, List.length_map]; omega) (fun x hx R acc r => ?_) ?_
  · obtain ⟨n, hn, rfl⟩ := List.mem_map.mp hx
    have hn' := hw n hn
    dsimp! []
    refine c_is_int (by omega) ?_
    dsimp! [hf, List.length_map]
    have e1 : decide ((0 : Int) ≤ (n : Int)) = true := decide_eq_true (by omega)
    have e2 : decide ((n : Int) < (es.length : Int)) = true := decide_eq_true (by omega)
    rw [e1, e2]
    simpa using r
  intro D nD
  have ea : ((w.map fun n : Nat => PV.int (n : Nat)).filter fun _ => true).map (fun _ => PV.bl true) = List.replicate w.length (.bl true) := by
    rw [List.filter_eq_self.mpr (by simp), List.map_map]
    exact List.map_const' ..
  rw [ea]
  dsimp! [bls_rep, all_rep]
  have nDf : f ≠ D := by rintro rfl; rw [hf] at nD; cases nD
  have hf2 : up h D (.lst (List.replicate w.length (.bl true))) f = some (.lst (es.map edP)) := by rw [up_ne nDf]; exact hf
  have k1 : Kp [] h (up h D (.lst (List.replicate w.length (.bl true)))) := kp_new nD
  generalize up h D (.lst (List.replicate w.length (.bl true))) = h1 at hf2 k1 ⊢
  dsimp! [hf2, atE (i := 0) hes]
  have e0 : atI (es.map edP) 0 = some (edP es[0]) := atE (i := 0) hes
  have l0 := hm es[0] (List.getElem_mem hes)
  rw [e0, if_neg (by simp)]
  refine ⟨by decide, _, rfl, ?_⟩
  unfold edP
  dsimp! [List.length_map, l0]
  refine ⟨⟨by omega, by omega, by decide⟩, ?_⟩
  rw [rep_tI, zSeq_x]
  dsimp! [List.length_map]
  refine ⟨by omega, by omega, ?_⟩
  refine forW_R (fun i ρ' h' => ∃ (p : Pl) (x3 : Option PV), ρ' = [some (.ref f), some (walkP w), some (tI p.2), x3, none] ∧ h1 = h' ∧ run es (dstE es (w.getLast?.getD 0), List.replicate m 0) (w.take i) = some p ∧ (i < w.length → p.1 = dstE es (prevW w i)))
    ⟨(dstE es (w.getLast?.getD 0), List.replicate m 0), none, rfl, rfl, rfl, fun _ => by simp [prevW]⟩ ?_ ?_
  · rintro i _ _ hi ⟨p, x3, rfl, rfl, hr, hp⟩
    have hi' : i < w.length := by omega
    have hwi := hw _ (List.getElem_mem hi')
    have hpv := prev_lt hw h0 hi'
    have t1 : w.take (i + 1) = w.take i ++ [w[i]] := by rw [List.take_add_one, List.getElem?_eq_getElem hi']; rfl
    have a1 := atW hi'
    have a2 := prev_at h0 hi'
    have lp := run_len hm (by simp) hr
    have lo := hm es[w[i]] (List.getElem_mem hwi)
    unfold walkP
    dsimp! []
    rw [zSeq_x]
    dsimp! [Int.zero_add, a1, a2, hf2, atE hwi, atE hpv, edP]
    by_cases e : es[w[i]].1 = es[prevW w i].2.1
    · dsimp! [e]
      dsimp! [a1, hf2, atE hwi, edP]
      refine c_at_offsets (by omega) (by omega) (by omega) ?_
      refine ⟨h1, G.Sub.refl _, (es[w[i]].2.1, atO p.2 es[w[i]].2.2), _, rfl, rfl, ?_, fun hi2 => ?_⟩
      · rw [t1]
        exact run_snoc.mpr ⟨p, es[w[i]], hr, List.getElem?_eq_getElem hwi, by rw [e, hp hi', dstE_at hpv], rfl⟩
      · unfold prevW
        rw [if_neg (by omega), Nat.add_sub_cancel, List.getD_eq_getElem?_getD, List.getElem?_eq_getElem hi', Option.getD_some, dstE_at hwi]
    · dsimp! [e]
      have : isWk es m w = false := by
        unfold isWk
        cases hx : run es (dstE es (w.getLast?.getD 0), List.replicate m 0) w with
        | none => rfl
        | some y =>
          exfalso
          have hx2 : run es (dstE es (w.getLast?.getD 0), List.replicate m 0) (w.take (i + 1) ++ w.drop (i + 1)) = some y := by rw [List.take_append_drop]; exact hx
          rw [t1, run_app] at hx2
          obtain ⟨z, hz, _⟩ := Option.bind_eq_some_iff.mp hx2
          obtain ⟨r, ed, r1, r2, r3, _⟩ := run_snoc.mp hz
          rw [hr] at r1
          cases r1
          rw [List.getElem?_eq_getElem hwi] at r2
          cases r2
          exact e (r3.trans ((hp hi').trans (dstE_at hpv)))
      rw [this] at q
      exact ⟨h, sub_of_kp k1, q⟩
  · rintro _ _ ⟨p, x3, rfl, rfl, hr, hp⟩
    rw [show (w.length : Int).toNat = w.length by omega, List.take_length] at hr
    have lp := run_len hm (by simp) hr
    dsimp! []
    refine lcP_V (ps := p.2.map .int) (fun _ => true) neB (by rw [sizeLine_eq, List.length_map]; omega) (fun x hx R acc r => ?_) ?_
    · obtain ⟨n, hn, rfl⟩ := List.mem_map.mp hx
      dsimp! []
      simpa [neB] using r
    · intro D nD
      have e2 : ((p.2.map PV.int).filter fun _ => true).map neB = p.2.map fun i => .bl (!decide (i = 0)) := by
        rw [List.filter_eq_self.mpr (by simp), List.map_map]; rfl
      rw [e2]
      dsimp! [bls_map]
      have : isWk es m w = !((p.2.map fun i => !decide (i = 0)).any id) := by
        unfold isWk
        rw [hr]
        show (p.2.all fun x => decide (x = 0)) = _
        rw [List.any_map]
        induction p.2 with
        | nil => rfl
        | cons x l ih => rw [List.all_cons, List.any_cons, ih]; simp
      rw [this] at q
      exact ⟨h, (sub_of_kp k1).trans (back_self nD), q⟩

/-! ### the law's round_walks -/
def rwP : Option (List Nat) → PV
  | some w => walkP w
  | none => .non
def lnB (es : List Ed) (w : List Nat) : PV → Bool
  | .int i => decide (srcE es i.toNat = dstE es (w.getLast?.getD 0))
  | _ => false
def lnF (w : List Nat) : PV → PV
  | .int i => walkP (w ++ [i.toNat])
  | _ => .non
def oneF : PV → PV
  | .int i => walkP [i.toNat]
  | _ => .non
theorem srcE_at {es : List Ed} {i : Nat} (h : i < es.length) : srcE es i = es[i].1 := by unfold srcE; rw [List.getElem?_eq_getElem h]
theorem range_fm (b : Nat → Bool) (f : Nat → List Nat) (B : PV → Bool) (F : PV → PV) (hB : ∀ i : Nat, B (.int i) = b i) (hF : ∀ i : Nat, F (.int i) = walkP (f i)) : ∀ l : List Nat, ((l.map fun i : Nat => PV.int ((0 : Int) + i)).filter B).map F = ((l.filter b).map f).map walkP
  | [] => rfl
  | i :: l => by
    have ih := range_fm b f B F hB hF l
    rw [List.map_cons, Int.zero_add]
    cases hb : b i with
    | true => rw [List.filter_cons_of_pos (by rw [hB, hb]), List.filter_cons_of_pos hb, List.map_cons, List.map_cons, List.map_cons, ih, hF]
    | false => rw [List.filter_cons_of_neg (by rw [hB, hb]; decide), List.filter_cons_of_neg (by rw [hb]; decide), ih]
theorem longer_len (es : List Ed) (ws : List (List Nat)) : (longerW es ws).length ≤ ws.length * es.length := by
  unfold longerW
  induction ws with
  | nil => simp
  | cons w ws ih =>
    have : ((List.range es.length).filter fun k => decide (srcE es k = dstE es (w.getLast?.getD 0))).length ≤ es.length := Nat.le_trans (List.length_filter_le _ _) (by simp)
    rw [List.flatMap_cons, List.length_append, List.length_map, List.length_cons, Nat.add_mul]
    omega
theorem c_round_walks {k : Nat} (hk : 4 ≤ k) {es : List Ed} {m : Nat} (hm : ∀ ed ∈ es, ed.2.2.length = m) (hm2 : m ≤ 1000) (he : es.length ≤ 51) {n : Nat} (hn : n ≤ 100) {f : Addr} {h : PH} {Q : QV} (hf : h f = some (.lst (es.map edP)))
    (q : Q (rwP (lawR es m n ((List.range es.length).map fun k => [k]))) h) : (wC cl k)._law_round_walks [.ref f, .int n] h Q := by
  obtain ⟨k, rfl⟩ : ∃ j, k = j + 1 := ⟨k - 1, by omega⟩
  show zFn _ _ (b__law_round_walks cl (wC cl k)) _ h Q
  unfold b__law_round_walks
  dsimp! [hf, List.length_map]
  refine ⟨by omega, by omega, ?_⟩
  refine lcP_R (fun _ => true) oneF (by rw [sizeLine_eq]; omega) (fun i hi R acc r => ?_) ?_
  · rw [if_pos rfl, Int.zero_add] at r
    dsimp! [Int.zero_add]
    exact ⟨by decide, r⟩
  intro a0 na0
  rw [Int.toNat_natCast, range_fm (fun _ => true) (fun i => [i]) _ _ (fun _ => rfl) (fun _ => rfl), List.filter_eq_self.mpr (by simp)]
  obtain ⟨w0, ew0⟩ : ∃ w0, w0 = (List.range es.length).map fun k => [k] := ⟨_, rfl⟩
  rw [← ew0] at q ⊢
  have wl0 : w0.length ≤ 4000 := by rw [ew0, List.length_map, List.length_range]; omega
  have ww0 : ∀ w ∈ w0, w.length = 1 ∧ ∀ x ∈ w, x < es.length := fun w hw => by
    rw [ew0] at hw
    obtain ⟨x, hx, rfl⟩ := List.mem_map.mp hw
    exact ⟨rfl, fun y hy => by simp at hy; subst hy; exact List.mem_range.mp hx⟩
  rw [zSeq_x]
  dsimp! []
  refine ⟨by omega, ?_⟩
  refine forW_R (fun i ρ' h' => ∃ (a : Addr) (ws : List (List Nat)) (x3 x4 x5 : Option PV), ρ' = [some (.ref f), some (.int n), some (.ref a), x3, x4, x5, none] ∧ h' a = some (.lst (ws.map walkP)) ∧ Kp [] h h' ∧ ws.length ≤ 4000 ∧ (∀ w ∈ ws, w.length = i + 1 ∧ ∀ x ∈ w, x < es.length) ∧ lawR es m (n - i) ws = lawR es m n w0)
    ⟨a0, w0, none, none, none, rfl, up_same, kp_new na0, wl0, ww0, rfl⟩ ?_ ?_
  · rintro i _ h1 hi ⟨a, ws, x3, x4, x5, rfl, ea, k1, lw, ow, lr⟩
    have hi' : i < n := by omega
    obtain ⟨d, hd⟩ : ∃ d, n - i = d + 1 := ⟨n - i - 1, by omega⟩
    rw [hd, lawR] at lr
    have wne : ∀ w ∈ ws, w ≠ [] := fun w hw z => by have := (ow w hw).1; rw [z] at this; cases this
    have f1 : h1 f = some (.lst (es.map edP)) := k1 f _ (by simp) hf
    dsimp! []
    rw [zSeq_x]
    dsimp! [ea]
    refine forW_L (ps := ws.map walkP) (fun j ρ' h' => ∃ x4 : Option PV, ρ' = [some (.ref f), some (.int n), some (.ref a), some (.int (1 + i)), x4, x5, none] ∧ h1 = h' ∧ (ws.take j).find? (isWk es m) = none) ⟨x4, rfl, rfl, rfl⟩ (fun j ρ' h' _ ⟨_, _, e, _⟩ => by rw [← e]; exact ea) ?_ ?_
    · rintro j _ _ p ep ⟨x4, rfl, rfl, nj⟩
      rw [List.getElem?_map] at ep
      obtain ⟨w, ew, rfl⟩ := Option.map_eq_some_iff.mp ep
      have hw := List.mem_of_getElem? ew
      dsimp! []
      refine c_is_walk (by omega) hm hm2 (wne w hw) (by have := (ow w hw).1; omega) (ow w hw).2 f1 ?_
      dsimp! []
      cases hb : isWk es m w with
      | true =>
        rw [if_pos rfl]
        have : ws.find? (isWk es m) = some w := by
          conv => lhs; rw [← List.take_append_drop j ws]
          have hj := (List.getElem?_eq_some_iff.mp ew).1
          rw [List.find?_append, nj, List.drop_eq_getElem_cons hj]
          rw [List.getElem?_eq_getElem hj] at ew
          rw [Option.some.inj ew]
          simp [hb]
        rw [this] at lr
        simp only [] at lr
        rw [← lr] at q
        exact ⟨h, sub_of_kp k1, q⟩
      | false =>
        rw [if_neg (by simp)]
        exact ⟨_, G.Sub.refl _, _, rfl, rfl, by rw [List.take_add_one, ew, List.find?_append, nj]; simp [hb]⟩
    · rintro _ _ ⟨x4, rfl, rfl, nj⟩
      rw [List.length_map, List.take_length] at nj
      rw [nj] at lr
      simp only [] at lr
      dsimp! []
      refine ⟨Nat.zero_le _, fun b nb => ?_⟩
      have nba : a ≠ b := by rintro rfl; rw [ea] at nb; cases nb
      rw [zSeq_x]
      dsimp! [up_ne nba, ea]
      refine forW_L (ps := ws.map walkP) (fun j ρ' h' => ∃ (b : Addr) (x4 x6 : Option PV), ρ' = [some (.ref f), some (.int n), some (.ref a), some (.int (1 + i)), x4, some (.ref b), x6] ∧ x6 = none ∧ Kp [] h1 h' ∧ h' b = some (.lst ((longerW es (ws.take j)).map walkP))) ⟨b, x4, none, rfl, rfl, kp_new nb, up_same⟩ (fun j ρ' h' _ ⟨_, _, _, _, _, k2, _⟩ => k2 a _ (by simp) ea) ?_ ?_
      · rintro j _ h2 p ep ⟨b, x4, _, rfl, rfl, k2, eb⟩
        rw [List.getElem?_map] at ep
        obtain ⟨w, ew, rfl⟩ := Option.map_eq_some_iff.mp ep
        have hw := List.mem_of_getElem? ew
        have f2 : h2 f = some (.lst (es.map edP)) := k2 f _ (by simp) f1
        have hlast : w.getLast?.getD 0 = w.getLast (wne w hw) := by rw [List.getLast?_eq_some_getLast (wne w hw)]; rfl
        have llt : w.getLast (wne w hw) < es.length := (ow w hw).2 _ (List.getLast_mem (wne w hw))
        have al := atLast (wne w hw)
        dsimp! [f2, List.length_map]
        refine ⟨by omega, by omega, ?_⟩
        refine lcP_R (lnB es w) (lnF w) (by rw [sizeLine_eq]; omega) (fun x hx R acc r => ?_) ?_
        · have hx' : x < es.length := by omega
          rw [Int.zero_add] at r
          simp only [lnB, lnF, Int.toNat_natCast, hlast, srcE_at hx', dstE_at llt] at r
          unfold walkP
          dsimp! [Int.zero_add, f2, atE hx', al, atE llt, edP]
          split
          · rename_i z
            rw [if_pos z] at r
            have : walkP (w ++ [x]) = .tup ((w.map fun n : Nat => PV.int (n : Nat)) ++ [.int (x : Nat)]) := by unfold walkP; rw [List.map_append]; rfl
            rw [this] at r
            have := (ow w hw).1
            exact ⟨by decide, by rw [sizeLine_eq, List.length_map]; omega, r⟩
          · rename_i z
            rw [if_neg z] at r
            exact r
        · intro D nD
          rw [Int.toNat_natCast, range_fm (fun k => decide (srcE es k = dstE es (w.getLast?.getD 0))) (fun k => w ++ [k]) _ _ (fun _ => rfl) (fun _ => rfl)]
          have nDb : b ≠ D := by rintro rfl; rw [eb] at nD; cases nD
          dsimp! [up_ne nDb, eb]
          have st : longerW es (ws.take (j + 1)) = longerW es (ws.take j) ++ ((List.range es.length).filter fun k => decide (srcE es k = dstE es (w.getLast?.getD 0))).map fun k => w ++ [k] := by
            unfold longerW
            rw [List.take_add_one, ew, List.flatMap_append]
            simp
          have l1 := longer_len es (ws.take j)
          have l2 : (ws.take j).length * es.length ≤ 4000 * 51 := Nat.mul_le_mul (by rw [List.length_take]; omega) he
          have l3 : ((List.range es.length).filter fun k => decide (srcE es k = dstE es (w.getLast?.getD 0))).length ≤ es.length := Nat.le_trans (List.length_filter_le _ _) (by simp)
          refine ⟨by rw [sizeLine_eq, List.length_map, List.length_map, List.length_map]; omega, fun p np => ?_⟩
          refine ⟨_, G.Sub.refl _, p, _, none, rfl, rfl, (k2.new nD).new np, ?_⟩
          rw [up_same, st, List.map_append]
      · rintro _ h2 ⟨b, x4, _, rfl, rfl, k2, eb⟩
        rw [List.length_map, List.take_length] at eb
        dsimp! [eb, List.length_map]
        have ld : decide ((4000 : Int) < ((longerW es ws).length : Int)) = decide (4000 < (longerW es ws).length) := by rw [decide_eq_decide]; omega
        rw [ld]
        by_cases hbig : 4000 < (longerW es ws).length
        · rw [if_pos hbig] at lr
          rw [if_pos (by simpa using hbig)]
          rw [← lr] at q
          exact ⟨h, sub_of_kp (k1.trans k2), q⟩
        · rw [if_neg hbig] at lr
          rw [if_neg (by simpa using hbig)]
          refine ⟨_, G.Sub.refl _, b, longerW es ws, _, _, _, rfl, eb, k1.trans k2, by omega, fun w hw => ?_, by rw [show n - (i + 1) = d by omega]; exact lr⟩
          obtain ⟨u, hu, hw⟩ := List.mem_flatMap.mp hw
          obtain ⟨x, hx, rfl⟩ := List.mem_map.mp hw
          have hx' := List.mem_range.mp (List.mem_filter.mp hx).1
          obtain ⟨o1, o2⟩ := ow u hu
          refine ⟨by simp [o1], fun y hy => ?_⟩
          rcases List.mem_append.mp hy with hy | hy
          · exact o2 y hy
          · simp at hy; subst hy; exact hx'
  · rintro _ h1 ⟨a, ws, x3, x4, x5, rfl, ea, k1, lw, ow, lr⟩
    rw [show n - ((n : Int) + 1 - 1).toNat = 0 by omega, lawR] at lr
    dsimp! []
    rw [← lr] at q
    exact ⟨Nat.zero_le _, h, sub_of_kp k1, q⟩

/-! ### shows_walk -/
theorem c_is_integer {k : Nat} (hk : 1 ≤ k) {i : Int} {h : PH} {Q : QV} (q : Q (.bl true) h) : (wC cl k).is_integer [.int i] h Q := by
  obtain ⟨k, rfl⟩ : ∃ j, k = j + 1 := ⟨k - 1, by omega⟩
  show zFn _ _ (b_is_integer cl (wC cl k)) _ h Q
  unfold b_is_integer
  dsimp! []
  simp only [show decide (Ty.int = Ty.int) = true from rfl, show decide (Ty.int = Ty.bool) = false from rfl, Bool.not_false, if_true]
  exact ⟨_, G.Sub.refl _, q⟩
theorem c_is_count {k : Nat} (hk : 2 ≤ k) {i : Int} (h0 : 0 ≤ i) {h : PH} {Q : QV} (q : Q (.bl true) h) : (wC cl k).is_count [.int i] h Q := by
  obtain ⟨k, rfl⟩ : ∃ j, k = j + 1 := ⟨k - 1, by omega⟩
  show zFn _ _ (b_is_count cl (wC cl k)) _ h Q
  unfold b_is_count
  dsimp! []
  refine c_is_integer (by omega) ?_
  dsimp! [h0]
  exact ⟨_, G.Sub.refl _, q⟩
theorem run_pre {es : List Ed} {o q : Pl} {w : List Nat} (h : run es o w = some q) {i : Nat} (hi : i < w.length) : ∃ p, run es o (w.take i) = some p ∧ ∃ ed, es[w[i]]? = some ed ∧ ed.1 = p.1 ∧ run es o (w.take (i + 1)) = some (ed.2.1, atO p.2 ed.2.2) := by
  have t1 : w.take (i + 1) = w.take i ++ [w[i]] := by rw [List.take_add_one, List.getElem?_eq_getElem hi]; rfl
  have hx2 : run es o (w.take (i + 1) ++ w.drop (i + 1)) = some q := by rw [List.take_append_drop]; exact h
  rw [t1, run_app] at hx2
  obtain ⟨z, hz, _⟩ := Option.bind_eq_some_iff.mp hx2
  obtain ⟨r, ed, r1, r2, r3, r4⟩ := run_snoc.mp hz
  refine ⟨r, r1, ed, r2, r3, ?_⟩
  rw [t1, hz, r4]
theorem c_sums_along {k : Nat} (hk : 2 ≤ k) {t : Tb} (ho : t.over.length ≤ 1000) {es : List Ed} (hm : ∀ ed ∈ es, ed.2.2.length = t.over.length) {w : List Nat} (hl : w.length ≤ 1000) {x : List Nat} {p : Pl} (hr : run es (x, List.replicate t.over.length 0) w = some p) {h : PH} {Q : QV}
    (q : ∀ s h' L, Kp [] h h' → h' s = some (.lst (L ++ [tI p.2])) → Q (.ref s) h') : (wC cl k).sums_along [t.P, .tup (es.map edP), walkP w] h Q := by
  obtain ⟨k, rfl⟩ : ∃ j, k = j + 1 := ⟨k - 1, by omega⟩
  show zFn _ _ (b_sums_along cl (wC cl k)) _ h Q
  unfold b_sums_along Tb.P walkP
  dsimp! [List.length_map]
  refine ⟨by decide, ⟨by omega, by omega, by decide⟩, by decide, fun s ns => ?_⟩
  rw [rep_tI, zSeq_x]
  dsimp! []
  refine forW_V (fun i ρ' h' => ∃ (L : List PV) (p : Pl) (x4 : Option PV), ρ' = [some t.P, some (.tup (es.map edP)), some (walkP w), some (.ref s), x4, none, none] ∧ run es (x, List.replicate t.over.length 0) (w.take i) = some p ∧ Kp [] h h' ∧ L.length = i ∧ h' s = some (.lst (L ++ [tI p.2])))
    ⟨[], (x, List.replicate t.over.length 0), none, rfl, rfl, kp_new ns, rfl, up_same⟩ ?_ ?_
  · rintro i _ h1 y ey ⟨L, p1, x4, rfl, r1, k1, lL, e1⟩
    rw [List.getElem?_map] at ey
    obtain ⟨n, en, rfl⟩ := Option.map_eq_some_iff.mp ey
    have hi := (List.getElem?_eq_some_iff.mp en).1
    rw [List.getElem?_eq_getElem hi] at en
    obtain rfl := Option.some.inj en
    obtain ⟨p2, r2, ed, g1, g2, g3⟩ := run_pre hr hi
    rw [r1] at r2
    cases r2
    obtain ⟨hn, en⟩ := List.getElem?_eq_some_iff.mp g1
    have lp := run_len hm (by simp) r1
    have lo := hm ed (List.mem_of_getElem? g1)
    have al : atI (L ++ [tI p1.2]) (-1) = some (tI p1.2) := L2.atI_last _ _
    dsimp! [e1, al, atE hn, en, edP, zsZip_x, zsZipI_t]
    refine lcP_V (fun _ => true) addP ?_ (fun z hz R acc r => ?_) ?_
    · rw [zip_ints, List.length_zipWith, sizeLine_eq]; omega
    · rw [if_pos rfl] at r
      obtain ⟨a, b, rfl⟩ := zip_int_of hz
      dsimp! []
      exact r
    · rw [List.filter_eq_self.mpr (by simp), zip_add]
      intro D nD
      have nDs : s ≠ D := by rintro rfl; rw [e1] at nD; cases nD
      dsimp! [up_ne nDs, e1]
      refine ⟨by rw [sizeLine_eq, List.length_append]; simp; omega, _, G.Sub.refl _, L ++ [tI p1.2], _, _, rfl, g3, (k1.new nD).put0 ns, by simp [lL], up_same⟩
  · rintro _ h1 ⟨L, p1, x4, rfl, r1, k1, lL, e1⟩
    rw [List.length_map, List.take_length, hr] at r1
    cases r1
    dsimp! []
    exact ⟨_, G.Sub.refl _, q s h1 L k1 e1⟩
theorem zip_wr (w : List Nat) (v : List Nat) : zipP (w.map fun n : Nat => PV.int (n : Nat)) (v.map fun n : Nat => PV.int (n : Nat)) = (w.zip v).map fun a => PV.tup [.int (a.1 : Nat), .int (a.2 : Nat)] := by
  unfold zipP
  rw [List.zipWith_map, ← List.map_uncurry_zip_eq_zipWith]
  rfl
theorem c_shows_walk {k : Nat} (hk : 13 ≤ k) {t : Tb} (hs : t.rs.length ≤ 8) (hd : ∀ r ∈ t.rs, r.e.dep ≤ 9) (hn : ∀ x ∈ t.rs.map Row.name, okS x = true) (hc : ∀ r ∈ t.rs, ∀ c ∈ r.e.refs, okS c.1 = true) (ho : t.over.length ≤ 1000)
    (hm : ∀ ed ∈ t.edges, ed.2.2.length = t.over.length) {w : List Nat} (h0 : w ≠ []) (hl : w.length ≤ 1000) (hr : Round t.edges t.over.length w) {h : PH} {Q : QV} (q : ∀ h', Kp [] h h' → Q (.bl true) h') : (wC cl k).shows_walk [t.P, walkP w] h Q := by
  obtain ⟨k, rfl⟩ : ∃ j, k = j + 1 := ⟨k - 1, by omega⟩
  show zFn _ _ (b_shows_walk cl (wC cl k)) _ h Q
  unfold b_shows_walk
  obtain ⟨x, hr⟩ := hr
  dsimp! []
  refine c_edges_of (by omega) hs hd hn hc fun h1 k1 => ?_
  have wp := walk_pl w
  have wne := walkP_ne h0
  have hlw : 0 < w.length := List.length_pos_iff.mpr h0
  generalize t.edges = es at hm hr ⊢
  have inside : ∀ i, (hi : i < w.length) → w[i] < es.length := fun i hi => by
    obtain ⟨p, _, ed, g1, _⟩ := run_pre hr hi
    exact (List.getElem?_eq_some_iff.mp g1).1
  unfold walkP at wne ⊢
  rw [zSeq_x]
  dsimp! []
  rw [zSeq_x]
  dsimp! []
  rw [if_neg (by simp)]
  refine ⟨Nat.zero_le _, wp.1, rfl, by rw [wp.2]; decide, by decide, ?_⟩
  rw [wne]
  dsimp! []
  refine lcP_V (fun _ => true) (fun _ => PV.bl true) (by rw [sizeLine_eq, List.length_map]; omega) (fun x hx R acc r => ?_) ?_
  · obtain ⟨n, hn, rfl⟩ := List.mem_map.mp hx
    obtain ⟨i, hi, ei⟩ := List.getElem_of_mem hn
    have hn' := inside i hi
    rw [ei] at hn'
    dsimp! []
    refine c_is_count (by omega) (by omega) ?_
    dsimp! [List.length_map]
    have e2 : decide ((n : Int) < (es.length : Int)) = true := decide_eq_true (by omega)
    rw [e2]
    simpa using r
  intro D nD
  have ea : ((w.map fun n : Nat => PV.int (n : Nat)).filter fun _ => true).map (fun _ => PV.bl true) = List.replicate w.length (.bl true) := by
    rw [List.filter_eq_self.mpr (by simp), List.map_map]
    exact List.map_const' ..
  rw [ea]
  dsimp! [bls_rep, all_rep]
  rw [if_neg (by simp)]
  have k2 : Kp [] h (up h1 D (.lst (List.replicate w.length (.bl true)))) := k1.new nD
  generalize up h1 D (.lst (List.replicate w.length (.bl true))) = h2 at k2 ⊢
  rw [zSeq_x]
  dsimp! [zsZip_x, cut_from (show (0 : Int) ≤ 1 by omega), cut_to (show (0 : Int) ≤ 1 by omega), show (1 : Int).toNat = 1 from rfl]
  rw [← List.map_drop, ← List.map_take, ← List.map_append]
  refine ⟨by rw [sizeLine_eq, List.length_map, List.length_map, List.length_drop, List.length_take]; omega, ?_⟩
  rw [zsZipI_t, zip_wr]
  have lz : (w.drop 1 ++ w.take 1).length = w.length := by rw [List.length_append, List.length_drop, List.length_take]; omega
  refine forW_V (fun i ρ' h' => ∃ x3 x4 : Option PV, ρ' = [some t.P, some (walkP w), some (.tup (es.map edP)), x3, x4, none] ∧ h2 = h') ⟨none, none, rfl, rfl⟩ ?_ ?_
  · rintro i _ _ y ey ⟨x3, x4, rfl, rfl⟩
    rw [List.getElem?_map] at ey
    obtain ⟨⟨a, b⟩, eab, rfl⟩ := Option.map_eq_some_iff.mp ey
    rw [List.getElem?_zip_eq_some] at eab
    obtain ⟨ea', eb'⟩ := eab
    have hi := (List.getElem?_eq_some_iff.mp ea').1
    rw [List.getElem?_eq_getElem hi] at ea'
    obtain rfl := Option.some.inj ea'
    obtain ⟨p, r1, ed, g1, g2, g3⟩ := run_pre hr hi
    obtain ⟨ha, ea2⟩ := List.getElem?_eq_some_iff.mp g1
    have key : ∃ hb : b < es.length, es[b].1 = ed.2.1 := by
      by_cases hlast : i + 1 < w.length
      · have : (w.drop 1 ++ w.take 1)[i]? = some w[i + 1] := by
          rw [List.getElem?_append_left (by rw [List.length_drop]; omega), List.getElem?_drop, Nat.add_comm 1 i, List.getElem?_eq_getElem hlast]
        rw [this] at eb'
        obtain rfl := Option.some.inj eb'
        obtain ⟨p', r1', ed', g1', g2', _⟩ := run_pre hr hlast
        rw [g3] at r1'
        cases r1'
        obtain ⟨hb, eb2⟩ := List.getElem?_eq_some_iff.mp g1'
        exact ⟨hb, by rw [eb2]; exact g2'⟩
      · have hi2 : i = w.length - 1 := by omega
        have : (w.drop 1 ++ w.take 1)[i]? = some w[0] := by
          rw [List.getElem?_append_right (by rw [List.length_drop]; omega), List.length_drop, hi2, Nat.sub_self, List.getElem?_take_of_lt (by omega), List.getElem?_eq_getElem hlw]
        rw [this] at eb'
        obtain rfl := Option.some.inj eb'
        obtain ⟨p', r1', ed', g1', g2', _⟩ := run_pre hr hlw
        simp only [List.take_zero, run, Option.some.injEq] at r1'
        obtain ⟨hb, eb2⟩ := List.getElem?_eq_some_iff.mp g1'
        rw [show i + 1 = w.length by omega, List.take_length, hr] at g3
        refine ⟨hb, ?_⟩
        rw [eb2, g2', ← r1']
        have := Option.some.inj g3
        rw [Prod.mk.injEq] at this
        exact this.1
    obtain ⟨hb, eb2⟩ := key
    dsimp! [atE ha, atE hb, ea2, edP, eb2]
    rw [if_neg (by simp)]
    exact ⟨_, G.Sub.refl _, _, _, rfl, rfl⟩
  · rintro _ _ ⟨x3, x4, rfl, rfl⟩
    dsimp! []
    refine c_sums_along (by omega) ho hm hl hr fun s h3 L k3 e3 => ?_
    have al : atI (L ++ [tI (List.replicate t.over.length 0)]) (-1) = some (tI (List.replicate t.over.length 0)) := L2.atI_last _ _
    dsimp! [e3, al, ints_map]
    have : ((List.replicate t.over.length (0 : Int)).any fun x => x != 0) = false := by
      rw [List.any_eq_false]
      intro x hx
      rw [List.eq_of_mem_replicate hx]; simp
    rw [this]
    exact ⟨_, G.Sub.refl _, q _ (k2.trans k3)⟩

/-! ### tables for walks -/
def refM (m : Nat) (x : List Nat) (os : List Int) : Prop := okS x = true ∧ os.length = m
structure TW (t : Tb) : Prop where
  n : t.rs.length ≤ 8
  dep : ∀ r ∈ t.rs, r.e.dep ≤ 9
  nm : ∀ x ∈ t.rs.map Row.name, okS x = true
  al : ∀ r ∈ t.rs, r.e.Al (refM t.over.length)
  ov : t.over.length ≤ 1000
  few : t.edges.length ≤ 51
theorem al_refs {F : List Nat → List Int → Prop} : ∀ {e : Ex}, e.Al F → ∀ c ∈ e.refs, F c.1 c.2
  | .num _, _, c, h => by cases h
  | .ctr _, _, c, h => by cases h
  | .cell x os, a, c, h => by simp [Ex.refs] at h; subst h; exact a
  | .neg e, a, c, h => al_refs (e := e) a c h
  | .scl _ e, a, c, h => al_refs (e := e) a.2 c h
  | .bin _ e f, a, c, h => by
    rcases List.mem_append.mp h with h | h
    · exact al_refs (e := e) a.1 c h
    · exact al_refs (e := f) a.2 c h
  | .pick _ p q r s, a, c, h => by
    simp only [Ex.refs, List.mem_append] at h
    rcases h with h | h | h | h
    · exact al_refs (e := p) a.1 c h
    · exact al_refs (e := q) a.2.1 c h
    · exact al_refs (e := r) a.2.2.1 c h
    · exact al_refs (e := s) a.2.2.2 c h
theorem mem_edges {t : Tb} {ed : Ed} (h : ed ∈ t.edges) : ∃ r ∈ t.rs, ed.1 = r.name ∧ (ed.2.1, ed.2.2) ∈ r.e.refs ∧ ed.2.1 ∈ t.rs.map Row.name := by
  obtain ⟨r, hr, h⟩ := List.mem_flatMap.mp h
  obtain ⟨c, hc, rfl⟩ := List.mem_map.mp h
  obtain ⟨c1, c2⟩ := List.mem_filter.mp hc
  exact ⟨r, hr, rfl, c1, by simpa using c2⟩
theorem TW.off {t : Tb} (w : TW t) : ∀ ed ∈ t.edges, ed.2.2.length = t.over.length := fun ed h => by
  obtain ⟨r, hr, _, h2, _⟩ := mem_edges h
  exact (al_refs (w.al r hr) _ h2).2
theorem TW.ref {t : Tb} (w : TW t) : ∀ r ∈ t.rs, ∀ c ∈ r.e.refs, okS c.1 = true := fun r hr c hc => (al_refs (w.al r hr) c hc).1
theorem TW.src {t : Tb} : ∀ ed ∈ t.edges, ed.1 ∈ t.rs.map Row.name := fun ed h => by
  obtain ⟨r, hr, e, _⟩ := mem_edges h
  rw [e]; exact List.mem_map.mpr ⟨r, hr, rfl⟩
theorem edges_le {t : Tb} {b : Nat} (h : ∀ r ∈ t.rs, r.e.refs.length ≤ b) : t.edges.length ≤ t.rs.length * b := by
  unfold Tb.edges
  generalize t.rs.map Row.name = N
  revert h
  induction t.rs with
  | nil => intro _; simp
  | cons r l ih =>
    intro h
    have a1 := ih fun x hx => h x (List.mem_cons_of_mem _ hx)
    have a2 : (rowEdges N r).length ≤ r.e.refs.length := by unfold rowEdges; rw [List.length_map]; exact List.length_filter_le _ _
    have a3 := h r List.mem_cons_self
    rw [List.flatMap_cons, List.length_append, List.length_cons, Nat.add_mul]
    omega
/-- 0 - x -/
def sub0 : PV → PV
  | .int i => .int (0 - i)
  | _ => .non
theorem sub0_map (os : List Int) : ((os.map PV.int).filter fun _ => true).map sub0 = (os.map fun i => 0 - i).map .int := by
  rw [List.filter_eq_self.mpr (by simp), List.map_map, List.map_map]; rfl

/-! ### star_table -/
def goodC (m : Nat) (cs : List (List Nat × List Int)) : Prop := cs.length ≤ 5 ∧ ∀ c ∈ cs, refM m c.1 c.2
theorem c_star_table {k : Nat} (hk : 6 ≤ k) {a s : Addr} {ns : List Int} {h : PH} {Q : QV} (d : DS a ns s h) (q : ∀ (t : Tb) h', TW t → DS a ns s h' → Kp [s] h h' → Q t.P h') : (wC cl k)._law_star_table [.ref s] h Q := by
  obtain ⟨k, rfl⟩ : ∃ j, k = j + 1 := ⟨k - 1, by omega⟩
  show zFn _ _ (b__law_star_table cl (wC cl k)) _ h Q
  unfold b__law_star_table
  have kz : ∀ z, keyOk false (.str z) = true := fun _ => rfl
  dsimp! []
  refine c_words (many := 3) (by omega) d (by omega) fun ws wl h1 lw _ okw d1 f1 nwl => ?_
  obtain ⟨so, nm, enm, pm⟩ := sort_strs okw
  have okn : ∀ x ∈ nm, okS x = true := fun x hx => okw x (pm.mem_iff.mp hx)
  have ln : nm.length = 3 := by rw [pm.length_eq, lw]
  dsimp! [so]
  intro n nn
  rw [enm]
  have h0 : 0 < nm.length := by omega
  have e0 : atI (nm.map PV.str) 0 = some (.str nm[0]) := by
    rw [show (0 : Int) = ((0 : Nat) : Int) from rfl, atN, List.getElem?_map, List.getElem?_eq_getElem h0]; rfl
  have l0 : nm[0].length ≤ 1000 := by
    have := okn _ (List.getElem_mem h0)
    unfold okS at this
    simp only [Bool.and_eq_true, decide_eq_true_eq] at this
    exact this.1
  dsimp! [e0]
  refine ⟨by rw [sizeLine_eq]; omega, by rw [sizeLine_eq]; omega, by decide, ?_⟩
  have n1 := d1.new nwl (o := .lst (ws.map .str))
  have k2 : Kp [s] h (up (up h1 wl (.lst (ws.map .str))) n (.lst (nm.map .str))) := (f1.kp.new nwl).new nn
  have d2 := n1.new nn (o := .lst (nm.map .str))
  have en2 : up (up h1 wl (.lst (ws.map .str))) n (.lst (nm.map .str)) n = some (.lst (nm.map .str)) := up_same
  have nns := n1.ne nn
  generalize up (up h1 wl (.lst (ws.map .str))) n (.lst (nm.map .str)) = h2 at k2 d2 en2 ⊢
  refine c_draw (by omega) d2 (by omega) (by omega) fun v h3 v0 v1 d3 f3 => ?_
  have en3 : h3 n = some (.lst (nm.map .str)) := (f3 n (by simpa using nns)).trans en2
  have k3 := k2.trans f3.kp
  clear k2 d2 en2 f3 n1 nn
  dsimp! [zDn_x]
  obtain ⟨ov, lov, eov⟩ : ∃ ov : List (List Nat), (ov.length = 1 ∨ ov.length = 2) ∧ cut [PV.str (nm[0] ++ [95, 105]), PV.str (nm[0] ++ [95, 106])] none (some (1 + v)) = ov.map .str := by
    rcases (show v = 0 ∨ v = 1 by omega) with rfl | rfl
    · exact ⟨[nm[0] ++ [95, 105]], .inl rfl, rfl⟩
    · exact ⟨[nm[0] ++ [95, 105], nm[0] ++ [95, 106]], .inr rfl, rfl⟩
  rw [eov, List.length_map]
  refine ⟨false, fun r nr => ?_⟩
  have nrn : n ≠ r := by rintro rfl; rw [en3] at nr; cases nr
  have nrs : r ≠ s := d3.ne nr
  have nra : r ≠ a := d3.nea nr
  have nrh : h r = none := by
    cases e : h r with
    | none => rfl
    | some o => have := k3 r o (by simpa using nrs) e; rw [nr] at this; cases this
  refine zSeq_key (fun ρ' h' => ∃ (kvs : List (PV × PV)) (loc : List Nat → Addr) (x5 : Option PV), ρ' = [some (.ref s), some (.ref n), some (.tup (ov.map .str)), some (.int (ov.length : Nat)), some (.ref r), x5, none, none, none, none, none, none, none, none, none] ∧
    (∀ x ∈ nm, dget kvs (.str x) = some (.ref (loc x)) ∧ h' (loc x) = some (.lst []) ∧ h3 (loc x) = none ∧ loc x ≠ r) ∧ h' r = some (.dic false none kvs) ∧ h' n = some (.lst (nm.map .str)) ∧ DS a ns s h' ∧ Kp [s] h h') ?_ fun X kx => ?_
  rotate_left
  · dsimp! [up_ne nrn, en3]
    refine forW_L (ps := nm.map .str) (fun i ρ' h' => ∃ (kvs : List (PV × PV)) (loc : List Nat → Addr) (x5 : Option PV), ρ' = [some (.ref s), some (.ref n), some (.tup (ov.map .str)), some (.int (ov.length : Nat)), some (.ref r), x5, none, none, none, none, none, none, none, none, none] ∧
      (∀ x ∈ nm.take i, dget kvs (.str x) = some (.ref (loc x)) ∧ h' (loc x) = some (.lst []) ∧ h3 (loc x) = none ∧ loc x ≠ r) ∧ kvs.length ≤ i ∧ h' r = some (.dic false none kvs) ∧ h' n = some (.lst (nm.map .str)) ∧ DS a ns s h' ∧ Kp [s] h h' ∧ Kp [] h3 h')
      ⟨[], fun _ => r, none, rfl, by simp, Nat.le_refl _, up_same, by rw [up_ne nrn]; exact en3, d3.new nr, k3.new nr, kp_new nr⟩ (fun i ρ' h' _ ⟨_, _, _, _, _, _, _, e, _⟩ => e) ?_ ?_
    · rintro i _ h4 p ep ⟨kvs, loc, x5, rfl, al, lk, er, en, d4, k4, kk⟩
      rw [List.getElem?_map] at ep
      obtain ⟨x, ex, rfl⟩ := Option.map_eq_some_iff.mp ep
      have hi := (List.getElem?_eq_some_iff.mp ex).1
      dsimp! []
      refine ⟨Nat.zero_le _, fun l nl => ?_⟩
      have nlr : r ≠ l := by rintro rfl; rw [er] at nl; cases nl
      have nln : n ≠ l := by rintro rfl; rw [en] at nl; cases nl
      have nl3 : h3 l = none := by
        cases e : h3 l with
        | none => rfl
        | some o => have := kk l o (by simp) e; rw [nl] at this; cases this
      dsimp! [up_ne nlr, er, kz]
      have ln2 := len_dput kvs (.str x) (.ref l)
      refine ⟨by rw [sizeLine_eq]; omega, _, G.Sub.refl _, dput kvs (.str x) (.ref l), fun y => if y = x then l else loc y, _, rfl, fun y hy => ?_, by omega, up_same, by rw [up_ne nrn, up_ne nln]; exact en, (d4.new nl).put nra nrs, (k4.new nl).put0 nrh, (kk.new nl).put0 nr⟩
      by_cases e : y = x
      · subst e
        simp only [if_true]
        exact ⟨by rw [dget_dput, if_pos rfl], by rw [up_ne (Ne.symm nlr), up_same], nl3, Ne.symm nlr⟩
      · simp only [e, if_false]
        rw [List.take_add_one, ex] at hy
        rcases List.mem_append.mp hy with hy | hy
        · obtain ⟨z1, z2, z3, z4⟩ := al y hy
          refine ⟨by rw [dget_dput, if_neg (by simpa using e)]; exact z1, ?_, z3, z4⟩
          rw [up_ne z4, up_ne (by rintro z; rw [z] at z2; rw [nl] at z2; cases z2)]
          exact z2
        · simp at hy; exact absurd hy e
    · rintro _ h4 ⟨kvs, loc, x5, rfl, al, lk, er, en, d4, k4, kk⟩
      rw [List.length_map, List.take_length] at al
      exact kx _ _ ⟨kvs, loc, x5, rfl, al, er, en, d4, k4⟩
  rintro _ h4 ⟨kvs, loc, x5, rfl, al, er, en, d4, k4⟩
  have lov2 : ov.length ≤ 2 := by omega
  have nln : ∀ x ∈ nm, loc x ≠ n := fun x hx z => by have := (al x hx).2.2.1; rw [z, en3] at this; cases this
  have nls : ∀ x ∈ nm, loc x ≠ s := fun x hx => d3.ne (al x hx).2.2.1
  have nla : ∀ x ∈ nm, loc x ≠ a := fun x hx => d3.nea (al x hx).2.2.1
  have nlr : ∀ x ∈ nm, loc x ≠ r := fun x hx => (al x hx).2.2.2
  have gk : ∀ x ∈ nm, dget kvs (.str x) = some (.ref (loc x)) := fun x hx => (al x hx).1
  have nlh : ∀ x ∈ nm, h (loc x) = none := fun x hx => by
    cases e : h (loc x) with
    | none => rfl
    | some o => have := k3 _ o (by simpa using nls x hx) e; rw [(al x hx).2.2.1] at this; cases this
  have al0 : ∀ x ∈ nm, ∃ cs, h4 (loc x) = some (.lst (cs.map refP)) ∧ goodC ov.length cs := fun x hx => ⟨[], (al x hx).2.1, Nat.zero_le _, by simp⟩
  clear al
  refine zSeq_key (fun ρ' h' => ∃ x5 x6 x7 x8 x9 x10 : Option PV, ρ' = [some (.ref s), some (.ref n), some (.tup (ov.map .str)), some (.int (ov.length : Nat)), some (.ref r), x5, x6, x7, x8, x9, x10, none, none, none, none] ∧
    (∀ x ∈ nm, ∃ cs, h' (loc x) = some (.lst (cs.map refP)) ∧ goodC ov.length cs) ∧ h' r = some (.dic false none kvs) ∧ h' n = some (.lst (nm.map .str)) ∧ DS a ns s h' ∧ Kp [s] h h') ?_ fun X kx => ?_
  rotate_left
  · dsimp! []
    refine c_draw (by omega) d4 (by omega) (by omega) fun v h5 v0 v1 d5 f5 => ?_
    have o5 : ∀ b, b ≠ s → h5 b = h4 b := fun b nb => f5 b (by simpa using nb)
    dsimp! []
    refine ⟨by omega, by omega, ?_⟩
    refine forW_R (fun i ρ' h' => ∃ x5 x6 x7 x8 x9 x10 : Option PV, ρ' = [some (.ref s), some (.ref n), some (.tup (ov.map .str)), some (.int (ov.length : Nat)), some (.ref r), x5, x6, x7, x8, x9, x10, none, none, none, none] ∧
      (∀ x ∈ nm, ∃ cs, h' (loc x) = some (.lst (cs.map refP)) ∧ goodC ov.length cs) ∧ h' r = some (.dic false none kvs) ∧ h' n = some (.lst (nm.map .str)) ∧ DS a ns s h' ∧ Kp [s] h h')
      ⟨x5, none, none, none, none, none, rfl, fun x hx => by obtain ⟨cs, c1, c2⟩ := al0 x hx; exact ⟨cs, (o5 _ (nls x hx)).trans c1, c2⟩, (o5 _ nrs).trans er, (o5 _ nns).trans en, d5, k4.trans f5.kp⟩ ?_ ?_
    rotate_left
    · rintro _ h6 ⟨x5, x6, x7, x8, x9, x10, rfl, al6, er6, en6, d6, k6⟩
      exact kx _ _ ⟨_, _, _, _, _, _, rfl, al6, er6, en6, d6, k6⟩
    rintro i _ h6 hi ⟨x5, x6, x7, x8, x9, x10, rfl, al6, er6, en6, d6, k6⟩
    clear kx al0 er en d4 k4 f5 o5 d5
    dsimp! []
    refine c_draw (by omega) d6 (by omega) (by omega) fun u h7 u0 u1 d7 f7 => ?_
    have o7 : ∀ b, b ≠ s → h7 b = h6 b := fun b nb => f7 b (by simpa using nb)
    dsimp! []
    refine ⟨by omega, by omega, ?_⟩
    refine lcW_R (by rw [sizeLine_eq]; omega) (fun j acc h' => ∃ w : List (List Nat), acc = w.map .str ∧ w.length = j ∧ (∀ x ∈ w, x ∈ nm) ∧ DS a ns s h' ∧ G.Fr [s] h6 h') ⟨[], rfl, rfl, by simp, d7, f7⟩ (fun j acc h' ⟨w, e, l, _⟩ => by rw [e, List.length_map, l]; exact Nat.le_refl _) ?_ ?_
    · rintro j _ h8 hj ⟨w, rfl, lw, ow, d8, f8⟩
      dsimp! []
      refine c_one_of (by omega) d8 ((f8 n (by simpa using nns)).trans en6) (by intro z; have := congrArg List.length z; rw [List.length_map, ln] at this; cases this) (by rw [List.length_map]; omega) nns fun y h9 hy d9 f9 => ?_
      obtain ⟨x, hx, rfl⟩ := List.mem_map.mp hy
      refine ⟨h9, G.Sub.refl _, w ++ [x], by simp, by simp [lw], fun z hz => ?_, d9, f8.trans f9⟩
      rcases List.mem_append.mp hz with hz | hz
      · exact ow z hz
      · simp at hz; subst hz; exact hx
    rintro _ h8 ⟨w, rfl, lw, ow, d8, f8⟩ wl nwl
    have o8 : ∀ b, b ≠ s → h8 b = h6 b := fun b nb => f8 b (by simpa using nb)
    have nlw : ∀ x ∈ nm, loc x ≠ wl := fun x hx z => by obtain ⟨cs, c1, _⟩ := al6 x hx; rw [← o8 _ (nls x hx), z, nwl] at c1; cases c1
    have nrw : r ≠ wl := by rintro rfl; rw [o8 _ nrs, er6] at nwl; cases nwl
    have nnw : n ≠ wl := by rintro rfl; rw [o8 _ nns, en6] at nwl; cases nwl
    have nws : wl ≠ s := d8.ne nwl
    have k8 : Kp [s] h (up h8 wl (.lst (w.map .str))) := (k6.trans f8.kp).new nwl
    have nwh : h wl = none := by
      cases e : h wl with
      | none => rfl
      | some o => have := (k6.trans f8.kp) wl o (by simpa using nws) e; rw [nwl] at this; cases this
    dsimp! [List.length_map]
    refine ⟨by decide, ⟨by omega, by omega, by decide⟩, by omega, by omega, ?_⟩
    rw [rep_tI]
    refine forW_R (fun j ρ' h' => ∃ (tot : List Int) (x9 x10 : Option PV), ρ' = [some (.ref s), some (.ref n), some (.tup (ov.map .str)), some (.int (ov.length : Nat)), some (.ref r), x5, some (.int (0 + i)), some (.ref wl), some (tI tot), x9, x10, none, none, none, none] ∧ tot.length = ov.length ∧
      (∀ x ∈ nm, ∃ cs, h' (loc x) = some (.lst (cs.map refP)) ∧ goodC ov.length cs) ∧ h' r = some (.dic false none kvs) ∧ h' n = some (.lst (nm.map .str)) ∧ h' wl = some (.lst (w.map .str)) ∧ DS a ns s h' ∧ Kp [s] h h')
      ⟨List.replicate ov.length 0, x9, x10, rfl, by simp, fun x hx => by obtain ⟨cs, c1, c2⟩ := al6 x hx; exact ⟨cs, by rw [up_ne (nlw x hx), o8 _ (nls x hx)]; exact c1, c2⟩, by rw [up_ne nrw, o8 _ nrs]; exact er6, by rw [up_ne nnw, o8 _ nns]; exact en6, up_same, d8.new nwl, k8⟩ ?_ ?_
    rotate_left
    · rintro _ h9 ⟨tot, x9, x10, rfl, lt, al9, er9, en9, ew9, d9, k9⟩
      exact ⟨h9, G.Sub.refl _, _, _, _, _, _, _, rfl, al9, er9, en9, d9, k9⟩
    rintro j _ h9 hj ⟨tot, x9, x10, rfl, lt, al9, er9, en9, ew9, d9, k9⟩
    clear al6 er6 en6 d6 k6 f7 o7 d7 d8 f8 o8 k8 nwl
    have hj' : j < w.length := by omega
    dsimp! []
    refine c_offsets (by omega) d9 (by omega) (by omega) (by omega) fun os h10 lo _ d10 f10 => ?_
    have o10 : ∀ b, b ≠ s → h10 b = h9 b := fun b nb => f10 b (by simpa using nb)
    have al10 : ∀ x ∈ nm, ∃ cs, h10 (loc x) = some (.lst (cs.map refP)) ∧ goodC ov.length cs := fun x hx => by obtain ⟨cs, c1, c2⟩ := al9 x hx; exact ⟨cs, (o10 _ (nls x hx)).trans c1, c2⟩
    have er10 := (o10 _ nrs).trans er9
    have en10 := (o10 _ nns).trans en9
    have ew10 := (o10 _ nws).trans ew9
    have k10 := k9.trans f10.kp
    clear al9 er9 en9 ew9 d9 k9 f10 o10
    refine zSeq_key (fun ρ' h' => ∃ os : List Int, os.length = ov.length ∧ ρ' = [some (.ref s), some (.ref n), some (.tup (ov.map .str)), some (.int (ov.length : Nat)), some (.ref r), x5, some (.int (0 + i)), some (.ref wl), some (tI tot), some (.int (0 + j)), some (tI os), none, none, none, none] ∧ Kp [] h10 h') ?_ fun X kx => ?_
    rotate_left
    · dsimp! [ew10, List.length_map]
      by_cases hl : (0 : Int) + (j : Int) = (w.length : Int) - 1
      · dsimp! [hl]
        refine lcP_V (ps := tot.map .int) (fun _ => true) sub0 (by rw [sizeLine_eq, List.length_map]; omega) (fun x hx R acc rr => ?_) ?_
        · rw [if_pos rfl] at rr
          obtain ⟨y, _, rfl⟩ := List.mem_map.mp hx
          dsimp! []
          exact rr
        · rw [sub0_map]
          intro D nD
          dsimp! []
          exact kx _ _ ⟨tot.map fun i => 0 - i, by simp [lt], by rw [← hl], kp_new nD⟩
      · dsimp! [hl]
        exact kx _ _ ⟨os, lo, rfl, Kp.refl _ _⟩
    rintro _ h11 ⟨os2, lo2, rfl, k11⟩
    have al11 : ∀ x ∈ nm, ∃ cs, h11 (loc x) = some (.lst (cs.map refP)) ∧ goodC ov.length cs := fun x hx => by obtain ⟨cs, c1, c2⟩ := al10 x hx; exact ⟨cs, k11 _ _ (by simp) c1, c2⟩
    have er11 := k11 _ _ (by simp) er10
    have en11 := k11 _ _ (by simp) en10
    have ew11 := k11 _ _ (by simp) ew10
    have d11 : DS a ns s h11 := by
      obtain ⟨z1, z2, z3, z4, z5, z6⟩ := d10
      exact ⟨z1, k11 _ _ (by simp) z2, z3, z4, z5, k11 _ _ (by simp) z6⟩
    have kk11 : Kp [s] h h11 := k10.trans fun b o _ e => k11 b o (by simp) e
    clear al10 er10 en10 ew10 d10 k10 k11
    dsimp! []
    refine c_at_offsets (by omega) (by rw [lt, lo2]) (by omega) ?_
    have ltt : (atO tot os2).length = ov.length := by rw [atO_len (by rw [lt, lo2]), lt]
    have aw : atI (w.map PV.str) (j : Int) = some (.str w[j]) := by rw [atN, List.getElem?_map, List.getElem?_eq_getElem hj']; rfl
    have hx := ow _ (List.getElem_mem hj')
    obtain ⟨cs, c1, c2⟩ := al11 _ hx
    have gx := gk _ hx
    dsimp! [Int.zero_add, ew11, aw, er11, kz, gx, c1, List.length_map]
    by_cases hc : (cs.length : Int) < 5
    · have hm : ((j : Int) + 1) % (w.length : Int) = (((j + 1) % w.length : Nat) : Int) := by rw [Int.natCast_emod, Int.natCast_add]; rfl
      have hm2 : (j + 1) % w.length < w.length := Nat.mod_lt _ (by omega)
      have aw2 : atI (w.map PV.str) (((j : Int) + 1) % (w.length : Int)) = some (.str (w[(j + 1) % w.length])) := by rw [hm, atN, List.getElem?_map, List.getElem?_eq_getElem hm2]; rfl
      dsimp! [hc, Int.zero_add, ew11, aw, er11, kz, gx, c1, aw2, List.length_map]
      refine ⟨by omega, by decide, by rw [sizeLine_eq]; omega, _, G.Sub.refl _, atO tot os2, _, _, rfl, ltt, fun y hy => ?_, by rw [up_ne (Ne.symm (nlr _ hx))]; exact er11, by rw [up_ne (Ne.symm (nln _ hx))]; exact en11, by rw [up_ne (Ne.symm (nlw _ hx))]; exact ew11, d11.put (nla _ hx) (nls _ hx), kk11.put0 (nlh _ hx)⟩
      by_cases e : loc y = loc w[j]
      · refine ⟨cs ++ [(w[(j + 1) % w.length], os2)], by rw [e, up_same, List.map_append]; rfl, by rw [List.length_append]; simp; omega, fun c hc' => ?_⟩
        rcases List.mem_append.mp hc' with hc' | hc'
        · exact c2.2 c hc'
        · simp at hc'
          subst hc'
          exact ⟨okn _ (ow _ (List.getElem_mem hm2)), lo2⟩
      · obtain ⟨cs', c1', c2'⟩ := al11 y hy
        exact ⟨cs', by rw [up_ne e]; exact c1', c2'⟩
    · dsimp! [hc]
      exact ⟨_, G.Sub.refl _, atO tot os2, _, _, rfl, ltt, al11, er11, en11, ew11, d11, kk11⟩
  rintro _ h5 ⟨x5, x6, x7, x8, x9, x10, rfl, al5, er5, en5, d5, k5⟩
  clear al0 er en d4 k4
  dsimp! []
  refine ⟨Nat.zero_le _, fun rl nrl => ?_⟩
  have rlr : r ≠ rl := by rintro rfl; rw [er5] at nrl; cases nrl
  have rln : n ≠ rl := by rintro rfl; rw [en5] at nrl; cases nrl
  have rll : ∀ x ∈ nm, loc x ≠ rl := fun x hx z => by obtain ⟨cs, c1, _⟩ := al5 x hx; rw [z, nrl] at c1; cases c1
  have rls : rl ≠ s := d5.ne nrl
  have rla : rl ≠ a := d5.nea nrl
  have rlh : h rl = none := by
    cases e : h rl with
    | none => rfl
    | some o => have := k5 rl o (by simpa using rls) e; rw [nrl] at this; cases this
  rw [zSeq_x]
  dsimp! [up_ne rln, en5]
  refine forW_L (ps := nm.map .str) (fun i ρ' h' => ∃ (rs : List Row) (x5 x12 x13 : Option PV), ρ' = [some (.ref s), some (.ref n), some (.tup (ov.map .str)), some (.int (ov.length : Nat)), some (.ref r), x5, x6, x7, x8, x9, x10, some (.ref rl), x12, x13, none] ∧ rs.map Row.name = nm.take i ∧ (∀ r ∈ rs, r.e.dep ≤ 5 ∧ r.e.Al (refM ov.length) ∧ r.e.refs.length ≤ 5) ∧
    h' rl = some (.lst (rs.map Row.P)) ∧ (∀ x ∈ nm, ∃ cs, h' (loc x) = some (.lst (cs.map refP)) ∧ goodC ov.length cs) ∧ h' r = some (.dic false none kvs) ∧ h' n = some (.lst (nm.map .str)) ∧ DS a ns s h' ∧ Kp [s] h h')
    ⟨[], x5, none, none, rfl, rfl, by simp, up_same, fun x hx => by obtain ⟨cs, c1, c2⟩ := al5 x hx; exact ⟨cs, by rw [up_ne (rll x hx)]; exact c1, c2⟩, by rw [up_ne rlr]; exact er5, by rw [up_ne rln]; exact en5, d5.new nrl, k5.new nrl⟩ (fun i ρ' h' _ ⟨_, _, _, _, _, _, _, _, _, _, e, _⟩ => e) ?_ ?_
  · rintro i _ h6 p ep ⟨rs, x5, x12, x13, rfl, rn, ro, e6, al6, er6, en6, d6, k6⟩
    rw [List.getElem?_map] at ep
    obtain ⟨x, ex, rfl⟩ := Option.map_eq_some_iff.mp ep
    have hx := List.mem_of_getElem? ex
    have hi := (List.getElem?_eq_some_iff.mp ex).1
    obtain ⟨cs, c1, c2⟩ := al6 x hx
    dsimp! []
    refine ⟨by decide, ?_⟩
    rw [zSeq_x]
    dsimp! [er6, kz, gk x hx, c1]
    refine forW_L (ps := cs.map refP) (fun j ρ' h' => ∃ (e : Ex) (x13 : Option PV), ρ' = [some (.ref s), some (.ref n), some (.tup (ov.map .str)), some (.int (ov.length : Nat)), some (.ref r), some (.str x), x6, x7, x8, x9, x10, some (.ref rl), some e.P, x13, none] ∧ e.dep ≤ j ∧ e.Al (refM ov.length) ∧ e.refs.length ≤ j ∧ DS a ns s h' ∧ Kp [s] h6 h')
      ⟨.num 1, x13, rfl, Nat.le_refl _, ⟨by decide, by decide⟩, Nat.zero_le _, d6, Kp.refl _ _⟩ (fun j ρ' h' _ ⟨_, _, _, _, _, _, _, kk⟩ => kk _ _ (by simpa using nls x hx) c1) ?_ ?_
    · rintro j _ h7 p ep2 ⟨e, x13, rfl, e1, e2, e3, d7, k7⟩
      rw [List.getElem?_map] at ep2
      obtain ⟨c, ec, rfl⟩ := Option.map_eq_some_iff.mp ep2
      have hc := c2.2 c (List.mem_of_getElem? ec)
      dsimp! []
      refine ⟨by decide, fun l nl => ?_⟩
      refine c_draw (by omega) (d7.new nl) (by omega) (by omega) fun v h8 v0 v1 d8 f8 => ?_
      have el : h8 l = some (.lst [.str (([112, 108, 117, 115] : List Nat)), .str (([108, 101, 97, 115, 116] : List Nat))]) := (f8 l (by simpa using d7.ne nl)).trans up_same
      have out : ∀ o : Op2, ∃ h2, G.Sub h2 h8 ∧ ∃ (e' : Ex) (x13 : Option PV), [some (.ref s), some (.ref n), some (.tup (ov.map .str)), some (.int (ov.length : Nat)), some (.ref r), some (.str x), x6, x7, x8, x9, x10, some (.ref rl), some (PV.tup [.str o.cs, e.P, refP c]), some (refP c), none] = [some (.ref s), some (.ref n), some (.tup (ov.map .str)), some (.int (ov.length : Nat)), some (.ref r), some (.str x), x6, x7, x8, x9, x10, some (.ref rl), some e'.P, x13, none] ∧ e'.dep ≤ j + 1 ∧ e'.Al (refM ov.length) ∧ e'.refs.length ≤ j + 1 ∧ DS a ns s h2 ∧ Kp [s] h6 h2 := fun o =>
        ⟨h8, G.Sub.refl _, .bin o e (.cell c.1 c.2), _, rfl, by simp only [Ex.dep]; omega, ⟨e2, hc⟩, by simp only [Ex.refs, List.length_append, List.length_cons, List.length_nil]; omega, d8, (k7.new nl).trans f8.kp⟩
      rcases (show v = 0 ∨ v = 1 by omega) with rfl | rfl
      · dsimp! [el]
        exact ⟨by decide, out .plus⟩
      · dsimp! [el]
        exact ⟨by decide, out .least⟩
    · rintro _ h7 ⟨e, x13, rfl, e1, e2, e3, d7, k7⟩
      rw [List.length_map] at e1 e3
      have e7 := k7 _ _ (by simpa using rls) e6
      have lr : rs.length ≤ 3 := by have := congrArg List.length rn; rw [List.length_map, List.length_take] at this; omega
      dsimp! [e7]
      have c5 := c2.1
      refine ⟨by decide, by rw [sizeLine_eq, List.length_map]; omega, _, G.Sub.refl _, rs ++ [⟨x, 0, e⟩], _, _, _, rfl, by rw [List.map_append, rn, List.take_add_one, ex]; rfl, fun r' hr' => ?_, by rw [up_same, List.map_append]; rfl, fun y hy => ?_, by rw [up_ne rlr]; exact k7 _ _ (by simpa using nrs) er6, by rw [up_ne rln]; exact k7 _ _ (by simpa using nns) en6, d7.put rla rls, (k6.trans k7).put0 rlh⟩
      · rcases List.mem_append.mp hr' with hr' | hr'
        · exact ro r' hr'
        · simp at hr'
          subst hr'
          exact ⟨by show e.dep ≤ 5; omega, e2, by show e.refs.length ≤ 5; omega⟩
      · obtain ⟨cs', c1', c2'⟩ := al6 y hy
        exact ⟨cs', by rw [up_ne (rll y hy)]; exact k7 _ _ (by simpa using nls y hy) c1', c2'⟩
  · rintro _ h6 ⟨rs, x5, x12, x13, rfl, rn, ro, e6, al6, er6, en6, d6, k6⟩
    rw [List.length_map, List.take_length] at rn
    dsimp! [e6]
    have lr : rs.length = 3 := by rw [← ln, ← rn, List.length_map]
    refine ⟨Nat.zero_le _, Nat.zero_le _, by decide, _, G.Sub.refl _, q ⟨ov, [], rs⟩ h6 ⟨by show rs.length ≤ 8; omega, fun r hr => by have := (ro r hr).1; omega, fun x hx => okn x (by have hx' : x ∈ rs.map Row.name := hx; rw [rn] at hx'; exact hx'), fun r hr => (ro r hr).2.1, by show ov.length ≤ 1000; omega, ?_⟩ d6 k6⟩
    have := edges_le (t := ⟨ov, [], rs⟩) (b := 5) fun r hr => (ro r hr).2.2
    have l3 : (⟨ov, [], rs⟩ : Tb).rs.length = 3 := lr
    omega

/-! ### ring_table -/
theorem c_ring_table {k : Nat} (hk : 11 ≤ k) {a s : Addr} {ns : List Int} {h : PH} {Q : QV} (d : DS a ns s h) (q : ∀ (t : Tb) h', TW t → t.rs.length ≤ 3 → (∀ x ∈ t.rs.map Row.name, ∃ ed ∈ t.edges, ed.1 = x) → DS a ns s h' → Kp [s] h h' → Q t.P h') : (wC cl k)._law_ring_table [.ref s] h Q := by
  obtain ⟨k, rfl⟩ : ∃ j, k = j + 1 := ⟨k - 1, by omega⟩
  show zFn _ _ (b__law_ring_table cl (wC cl k)) _ h Q
  unfold b__law_ring_table
  have kz : ∀ z, keyOk false (.str z) = true := fun _ => rfl
  dsimp! []
  refine c_draw (by omega) d (by omega) (by omega) fun x1 h1 a0 a1 d1 f1 => ?_
  dsimp! []
  refine c_draw (by omega) d1 (by omega) (by omega) fun x2 h2 b0 b1 d2 f2 => ?_
  dsimp! []
  refine c_draw (by omega) d2 (by omega) (by omega) fun x3 h3 c0 c1 d3 f3 => ?_
  obtain ⟨m, hm⟩ : ∃ m : Nat, 1 + x1 = (m : Int) := ⟨(1 + x1).toNat, by omega⟩
  obtain ⟨r, hr⟩ : ∃ m : Nat, 1 + x2 = (m : Int) := ⟨(1 + x2).toNat, by omega⟩
  obtain ⟨g, hg⟩ : ∃ m : Nat, x3 = (m : Int) := ⟨x3.toNat, by omega⟩
  rw [hm, hr, hg]
  refine c_table_world (by omega) d3 (by omega) (by omega) (by omega) fun over rn gn A kvs h4 l1 l2 l3 nd okk d4 w4 o4 hl4 k4 nw4 => ?_
  obtain ⟨W, eW⟩ : ∃ W : Wd, W = { over := over, many := m, rn := rn, gn := gn, most := 2, row := none, nums := fun _ => 0, least := 0, name := [] } := ⟨_, rfl⟩
  rw [← eW] at w4
  have ok : W.ok := by
    subst eW
    exact ⟨by show 1 ≤ m ∧ m ≤ 3; omega, ⟨by rintro (e : rn = []); rw [e] at l2; simp at l2; omega, by show rn.length ≤ 20; omega⟩, by show gn.length ≤ 20; omega, fun x hx => okk x (by simp at hx ⊢; right; left; exact hx), fun x hx => okk x (by simp at hx ⊢; right; right; exact hx), by show (0 : Int) ≤ 2 ∧ (2 : Int) ≤ 10; omega⟩
  have eov : W.over = over := by subst eW; rfl
  have ern : W.rn = rn := by subst eW; rfl
  have emany : W.many = m := by subst eW; rfl
  have nwh : h A.w = none := by
    have e : h3 A.w = h A.w := (f3 _ (by simpa using o4.w.1)).trans ((f2 _ (by simpa using o4.w.1)).trans (f1 _ (by simpa using o4.w.1)))
    rw [← e]; exact nw4
  have k04 : Kp [s] h h4 := ((f1.kp.trans f2.kp).trans f3.kp).trans k4
  dsimp! []
  refine c_rules_of2 (n := 2) (by omega) ok d4 o4 w4 (by omega) fun t h5 kvs5 t1 _ t3 t4 t5 d5 k5 w5 => ?_
  have kk5 : Kp [s] h h5 := by
    intro b ob nb e
    refine k5 b ob ?_ (k04 b ob nb e)
    simp only [List.mem_cons, List.not_mem_nil, or_false, not_or] at nb ⊢
    exact ⟨nb, by rintro rfl; rw [nwh] at e; cases e⟩
  have erl5 : h5 A.r = some (.lst (rn.map .str)) := by rw [← ern]; exact w5.rl
  have ewl5 := w5.dic
  have eru := w5.rule
  have ema : dget kvs5 (PV.str [109, 97, 110, 121]) = some (.int (m : Nat)) := by rw [← emany]; exact w5.many
  have okr : ∀ x ∈ rn, okS x = true := fun x hx => ok.rs x (ern ▸ hx)
  have lov : t.over.length = m := by rw [t1, eov, l1]
  have alt : ∀ r' ∈ t.rs, r'.e.dep ≤ 2 ∧ r'.e.Al (refM t.over.length) := fun r' hr' => by
    obtain ⟨_, z2, z3⟩ := t5 r' hr'
    refine ⟨z2, z3.mono fun x os hh => ?_⟩
    rw [lov, ← emany]
    rcases hh with ⟨y1, y2, _⟩ | ⟨y1, y2, _⟩
    · exact ⟨ok.gs x y1, y2⟩
    · exact ⟨ok.rs x y1, y2⟩
  have nmt : t.rs.map Row.name = rn := t3.trans ern
  have lrs : t.rs.length = r := by rw [← l2, ← nmt, List.length_map]
  clear k5 k04 nwh w4 d4 nw4 k4 w5 d1 f1 d2 f2 d3 f3 d eW
  unfold Tb.P
  dsimp! [ewl5, kz, eru]
  refine fun rl nrl => ?_
  have rls := d5.ne nrl
  have rla := d5.nea nrl
  have rlw : A.w ≠ rl := by rintro z; rw [← z, ewl5] at nrl; cases nrl
  have rlr : A.r ≠ rl := by rintro z; rw [← z, erl5] at nrl; cases nrl
  have rlh : h rl = none := by
    cases e : h rl with
    | none => rfl
    | some o => have := kk5 rl o (by simpa using rls) e; rw [nrl] at this; cases this
  dsimp! [up_ne rlw, ewl5, kz, ema]
  refine ⟨by decide, ⟨by omega, by omega, by decide⟩, ?_⟩
  rw [rep_tI, zSeq_x]
  dsimp! [up_ne rlr, erl5, List.length_map]
  refine ⟨by omega, by omega, ?_⟩
  refine forW_R (fun i ρ' h' => ∃ (rs : List Row) (tot : List Int) (x6 x7 x8 x9 x10 x11 : Option PV), ρ' = [some (.ref s), some (.ref A.w), some t.P, some (.ref A.r), some (.ref rl), some (tI tot), x6, x7, x8, x9, x10, x11, none] ∧ tot.length = m ∧ h' rl = some (.lst (rs.map Row.P)) ∧ rs.map Row.name = rn ∧
    (∀ j r', rs[j]? = some r' → r'.e.Al (refM t.over.length) ∧ (j < i → r'.e.dep ≤ 3 ∧ r'.e.refs.length ≤ 17 ∧ ∃ c ∈ r'.e.refs, c.1 ∈ rn) ∧ (i ≤ j → r'.e.dep ≤ 2)) ∧ h' A.w = some (.dic false none kvs5) ∧ h' A.r = some (.lst (rn.map .str)) ∧ DS a ns s h' ∧ Kp [s] h h')
    ⟨t.rs, List.replicate m 0, none, none, none, none, none, none, rfl, by simp, up_same, nmt, fun j r' e => ⟨(alt r' (List.mem_of_getElem? e)).2, fun z => absurd z (Nat.not_lt_zero _), fun _ => (alt r' (List.mem_of_getElem? e)).1⟩, by rw [up_ne rlw]; exact ewl5, by rw [up_ne rlr]; exact erl5, d5.new nrl, kk5.new nrl⟩ ?_ ?_
  rotate_left
  · rintro _ h6 ⟨rs, tot, x6, x7, x8, x9, x10, x11, rfl, lt, e6, rn6, ro, ew6, er6, d6, k6⟩
    rw [show ((rn.length : Nat) : Int).toNat = rn.length by omega] at ro
    have lr6 : rs.length = rn.length := by rw [← rn6, List.length_map]
    have ro' : ∀ r' ∈ rs, r'.e.Al (refM t.over.length) ∧ r'.e.dep ≤ 3 ∧ r'.e.refs.length ≤ 17 ∧ ∃ c ∈ r'.e.refs, c.1 ∈ rn := fun r' hr' => by
      obtain ⟨j, hj, ej⟩ := List.getElem_of_mem hr'
      obtain ⟨z1, z2, _⟩ := ro j r' (by rw [List.getElem?_eq_getElem hj, ej])
      exact ⟨z1, z2 (by omega)⟩
    unfold Tb.P
    dsimp! [e6, cut_to (show (0 : Int) ≤ 2 by omega), show (2 : Int).toNat = 2 from rfl]
    have lf := edges_le (t := ⟨t.over, t.gs, rs⟩) (b := 17) fun r' hr' => (ro' r' hr').2.2.1
    have l3' : rs.length ≤ 3 := by omega
    have lf2 : (⟨t.over, t.gs, rs⟩ : Tb).edges.length ≤ 51 := Nat.le_trans lf (Nat.mul_le_mul_right 17 l3')
    refine ⟨by decide, by decide, by show 2 + 2 ≤ sizeLine; decide, _, G.Sub.refl _, q ⟨t.over, t.gs, rs⟩ h6 ⟨by show rs.length ≤ 8; omega, fun r' hr' => by have := (ro' r' hr').2.1; omega, fun x hx => okr x (by have hx' : x ∈ rs.map Row.name := hx; rw [rn6] at hx'; exact hx'), fun r' hr' => (ro' r' hr').1, by show t.over.length ≤ 1000; omega, lf2⟩ l3' (fun x hx => ?_) d6 k6⟩
    obtain ⟨r', hr', rfl⟩ := List.mem_map.mp hx
    obtain ⟨_, _, _, c, hc, hcn⟩ := ro' r' hr'
    refine ⟨(r'.name, c.1, c.2), List.mem_flatMap.mpr ⟨r', hr', List.mem_map.mpr ⟨c, List.mem_filter.mpr ⟨hc, ?_⟩, rfl⟩⟩, rfl⟩
    exact decide_eq_true (by show c.1 ∈ rs.map Row.name; rw [rn6]; exact hcn)
  rintro i _ h6 hi ⟨rs, tot, x6, x7, x8, x9, x10, x11, rfl, lt, e6, rn6, ro, ew6, er6, d6, k6⟩
  have hi' : i < rn.length := by omega
  have lr6 : rs.length = rn.length := by rw [← rn6, List.length_map]
  dsimp! [ew6, kz, ema]
  refine c_offsets (by omega) d6 (by omega) (by omega) (by omega) fun os h7 lo _ d7 f7 => ?_
  have o7 : ∀ b, b ≠ s → h7 b = h6 b := fun b nb => f7 b (by simpa using nb)
  have e7 := (o7 _ rls).trans e6
  have ew7 := (o7 _ o4.w.1).trans ew6
  have er7 := (o7 _ o4.r.1).trans er6
  have k7 := k6.trans f7.kp
  clear e6 ew6 er6 d6 k6 f7 o7
  dsimp! [er7]
  refine zSeq_key (fun ρ' h' => ∃ os : List Int, os.length = m ∧ ρ' = [some (.ref s), some (.ref A.w), some t.P, some (.ref A.r), some (.ref rl), some (tI tot), some (.int (0 + i)), some (tI os), x8, x9, x10, x11, none] ∧ Kp [] h7 h') ?_ fun X kx => ?_
  rotate_left
  · dsimp! [er7, List.length_map]
    by_cases hl : (0 : Int) + (i : Int) = (rn.length : Int) - 1
    · dsimp! [hl]
      refine lcP_V (ps := tot.map .int) (fun _ => true) sub0 (by rw [sizeLine_eq, List.length_map]; omega) (fun x hx R acc rr => ?_) ?_
      · rw [if_pos rfl] at rr
        obtain ⟨y, _, rfl⟩ := List.mem_map.mp hx
        dsimp! []
        exact rr
      · rw [sub0_map]
        intro D nD
        dsimp! []
        exact kx _ _ ⟨tot.map fun i => 0 - i, by simp [lt], by rw [← hl], kp_new nD⟩
    · dsimp! [hl]
      exact kx _ _ ⟨os, lo, rfl, Kp.refl _ _⟩
  rintro _ h8 ⟨os2, lo2, rfl, k8⟩
  have e8 := k8 _ _ (by simp) e7
  have ew8 := k8 _ _ (by simp) ew7
  have er8 := k8 _ _ (by simp) er7
  have d8 : DS a ns s h8 := by
    obtain ⟨z1, z2, z3, z4, z5, z6⟩ := d7
    exact ⟨z1, k8 _ _ (by simp) z2, z3, z4, z5, k8 _ _ (by simp) z6⟩
  have kk8 : Kp [s] h h8 := k7.trans fun b o _ e => k8 b o (by simp) e
  clear e7 ew7 er7 d7 k7 k8
  dsimp! []
  refine c_at_offsets (by omega) (by rw [lt, lo2]) (by omega) ?_
  have ltt : (atO tot os2).length = m := by rw [atO_len (by rw [lt, lo2]), lt]
  have hm1 : ((i : Int) + 1) % (rn.length : Int) = (((i + 1) % rn.length : Nat) : Int) := by rw [Int.natCast_emod, Int.natCast_add]; rfl
  have hm2 : (i + 1) % rn.length < rn.length := Nat.mod_lt _ (by omega)
  have aw2 : atI (rn.map PV.str) (((i : Int) + 1) % (rn.length : Int)) = some (.str (rn[(i + 1) % rn.length])) := by rw [hm1, atN, List.getElem?_map, List.getElem?_eq_getElem hm2]; rfl
  have aw1 : atI (rn.map PV.str) (i : Int) = some (.str rn[i]) := by rw [atN, List.getElem?_map, List.getElem?_eq_getElem hi']; rfl
  obtain ⟨cc, ecc⟩ : ∃ cc : List Nat × List Int, cc = (rn[(i + 1) % rn.length], os2) := ⟨_, rfl⟩
  have hcc : refM t.over.length cc.1 cc.2 := by rw [ecc]; exact ⟨okr _ (List.getElem_mem hm2), by rw [lo2, lov]⟩
  have hcn : cc.1 ∈ rn := by rw [ecc]; exact List.getElem_mem hm2
  have eP : PV.tup [(PV.str [99, 101, 108, 108]), .str (rn[(i + 1) % rn.length]), tI os2] = refP cc := by rw [ecc]; rfl
  dsimp! [Int.zero_add, er8, aw2, List.length_map]
  refine ⟨by omega, by decide, ?_⟩
  rw [eP]
  refine ⟨by decide, fun l nl => ?_⟩
  refine c_draw (by omega) (d8.new nl) (by omega) (by omega) fun v h9 v0 v1 d9 f9 => ?_
  have o9 : ∀ b, b ≠ s → h9 b = up h8 l (.lst [.str (([110, 117, 109, 98, 101, 114] : List Nat)), .str (([99, 101, 108, 108] : List Nat))]) b := fun b nb => f9 b (by simpa using nb)
  have el9 : h9 l = some (.lst [.str (([110, 117, 109, 98, 101, 114] : List Nat)), .str (([99, 101, 108, 108] : List Nat))]) := (o9 l (d8.ne nl)).trans up_same
  have kp9 : Kp [s] h8 h9 := (kp_new nl).trans f9.kp
  have e9 := kp9 _ _ (by simpa using rls) e8
  have ew9 := kp9 _ _ (by simpa using o4.w.1) ew8
  have er9 := kp9 _ _ (by simpa using o4.r.1) er8
  have k9 := kk8.trans kp9
  obtain ⟨kd, ekd, hkd⟩ : ∃ kd : List Nat, atI [PV.str (([110, 117, 109, 98, 101, 114] : List Nat)), .str (([99, 101, 108, 108] : List Nat))] v = some (.str kd) ∧ True := by
    rcases (show v = 0 ∨ v = 1 by omega) with rfl | rfl
    · exact ⟨_, at0, trivial⟩
    · exact ⟨_, at1, trivial⟩
  have hir : i < rs.length := by omega
  have ar : atI (rs.map Row.P) (i : Int) = some (Row.P rs[i]) := by rw [atN, List.getElem?_map, List.getElem?_eq_getElem hir]; rfl
  obtain ⟨ra, _, rd⟩ := ro i rs[i] (List.getElem?_eq_getElem hir)
  have rd := rd (Nat.le_refl _)
  clear e8 ew8 er8 d8 kk8 f9 o9 kp9 nl
  dsimp! [el9, ekd, e9, ar, Row.P]
  refine zSeq_key (fun ρ' h' => ∃ (o : Ex), ρ' = [some (.ref s), some (.ref A.w), some t.P, some (.ref A.r), some (.ref rl), some (tI (atO tot os2)), some (.int (i : Nat)), some (tI os2), some (refP cc), some (.str kd), some o.P, x11, none] ∧ o.dep ≤ 2 ∧ o.Al (refM t.over.length) ∧ h' rl = some (.lst (rs.map Row.P)) ∧ h' A.w = some (.dic false none kvs5) ∧ h' A.r = some (.lst (rn.map .str)) ∧ DS a ns s h' ∧ Kp [s] h h') ?_ fun X kx => ?_
  rotate_left
  · have num : ∀ (h10 : PH), DS a ns s h10 → Kp [s] h9 h10 → (wC cl k)._law_draw [.ref s, .int 9] h10 fun p h1 => 2 ≤ sizeLine ∧ X [some (.ref s), some (.ref A.w), some t.P, some (.ref A.r), some (.ref rl), some (tI (atO tot os2)), some (.int (i : Nat)), some (tI os2), some (refP cc), some (.str kd), some (.tup [(PV.str [110, 117, 109, 98, 101, 114]), p]), x11, none] h1 := fun h10 d10 k10 => by
      refine c_draw (by omega) d10 (by omega) (by omega) fun u h11 u0 u1 d11 f11 => ?_
      have k11 := k10.trans f11.kp
      exact ⟨by decide, kx _ _ ⟨.num u, rfl, by simp [Ex.dep], ⟨by omega, by omega⟩, k11 _ _ (by simpa using rls) e9, k11 _ _ (by simpa using o4.w.1) ew9, k11 _ _ (by simpa using o4.r.1) er9, d11, k9.trans k11⟩⟩
    dsimp! []
    by_cases hk2 : kd = ([110, 117, 109, 98, 101, 114] : List Nat)
    · dsimp! [hk2]
      rw [hk2] at num
      exact num h9 d9 (Kp.refl _ _)
    · dsimp! [hk2]
      refine c_refs 2 rs[i].e rd (by omega) (by omega) fun p np => ?_
      dsimp! []
      by_cases h6 : (6 : Int) < ((rs[i].e.refs.map refP).length : Nat)
      · simp only [h6, decide_true, if_true]
        exact num _ (d9.new np) (kp_new np)
      · simp only [h6, decide_false, Bool.false_eq_true, if_false]
        exact kx _ _ ⟨rs[i].e, rfl, rd, ra, by rw [up_ne (by rintro z; rw [← z, e9] at np; cases np)]; exact e9, by rw [up_ne (by rintro z; rw [← z, ew9] at np; cases np)]; exact ew9, by rw [up_ne (by rintro z; rw [← z, er9] at np; cases np)]; exact er9, d9.new np, k9.new np⟩
  rintro _ h10 ⟨o, rfl, od, oa, e10, ew10, er10, d10, k10⟩
  clear e9 ew9 er9 d9 k9 el9 ekd
  dsimp! []
  refine ⟨by decide, fun l nl => ?_⟩
  refine c_draw (by omega) (d10.new nl) (by omega) (by omega) fun v h11 v0 v1 d11 f11 => ?_
  have o11 : ∀ b, b ≠ s → h11 b = up h10 l (.lst [.str (([112, 108, 117, 115] : List Nat)), .str (([108, 101, 97, 115, 116] : List Nat)), .str (([109, 105, 110, 117, 115] : List Nat))]) b := fun b nb => f11 b (by simpa using nb)
  have el11 : h11 l = some (.lst [.str (([112, 108, 117, 115] : List Nat)), .str (([108, 101, 97, 115, 116] : List Nat)), .str (([109, 105, 110, 117, 115] : List Nat))]) := (o11 l (d10.ne nl)).trans up_same
  have kp11 : Kp [s] h10 h11 := (kp_new nl).trans f11.kp
  have e11 := kp11 _ _ (by simpa using rls) e10
  have ew11 := kp11 _ _ (by simpa using o4.w.1) ew10
  have er11 := kp11 _ _ (by simpa using o4.r.1) er10
  have k11 := k10.trans kp11
  obtain ⟨op, eop⟩ : ∃ op : Op2, atI [PV.str (([112, 108, 117, 115] : List Nat)), .str (([108, 101, 97, 115, 116] : List Nat)), .str (([109, 105, 110, 117, 115] : List Nat))] v = some (.str op.cs) := by
    rcases (show v = 0 ∨ v = 1 ∨ v = 2 by omega) with rfl | rfl | rfl
    · exact ⟨.plus, at0⟩
    · exact ⟨.least, at1⟩
    · exact ⟨.minus, at2⟩
  clear e10 ew10 er10 d10 k10 f11 o11 kp11 nl
  dsimp! [el11, eop]
  refine zSeq_key (fun ρ' h' => ∃ (o : Ex), ρ' = [some (.ref s), some (.ref A.w), some t.P, some (.ref A.r), some (.ref rl), some (tI (atO tot os2)), some (.int (i : Nat)), some (tI os2), some (refP cc), some (.str kd), some o.P, some (.str op.cs), none] ∧ o.dep ≤ 2 ∧ o.Al (refM t.over.length) ∧ h11 = h') ?_ fun X kx => ?_
  rotate_left
  · unfold Tb.P
    dsimp! [er11, aw1]
    have hh : (wC cl k)._law_can_be_read [.tup (t.over.map .str), .tup [.str rn[i], .int (-1), (Ex.bin op (.cell cc.1 cc.2) o).P]] h11 fun p h1 => zTr p h1 fun b => if (!b) = true then 2 ≤ sizeLine ∧ X [some (.ref s), some (.ref A.w), some t.P, some (.ref A.r), some (.ref rl), some (tI (atO tot os2)), some (.int (i : Nat)), some (tI os2), some (refP cc), some (.str kd), some (.tup [(PV.str [110, 117, 109, 98, 101, 114]), .int 2]), some (.str op.cs), none] h1 else X [some (.ref s), some (.ref A.w), some t.P, some (.ref A.r), some (.ref rl), some (tI (atO tot os2)), some (.int (i : Nat)), some (tI os2), some (refP cc), some (.str kd), some o.P, some (.str op.cs), none] h1 := by
      refine c_read (n := 3) (by simp only [Ex.dep]; omega) (by omega) ⟨⟨hcc.1, by have := hcc.2; omega⟩, oa.mono fun x os hh => ⟨hh.1, by have := hh.2; omega⟩⟩ (by omega) fun b => ?_
      dsimp! []
      cases b with
      | false => exact ⟨by decide, kx _ _ ⟨.num 2, rfl, by simp [Ex.dep], ⟨by decide, by decide⟩, rfl⟩⟩
      | true => exact kx _ _ ⟨o, rfl, od, oa, rfl⟩
    exact ⟨by decide, by decide, hh⟩
  rintro _ _ ⟨o2, rfl, od2, oa2, rfl⟩
  have cPe : refP cc = (Ex.cell cc.1 cc.2).P := rfl
  dsimp! [er11, aw1, e11, ar, Row.P]
  refine ⟨by decide, by decide, i, ixN_n (by rw [List.length_map]; exact hir), _, G.Sub.refl _, rs.set i ⟨rn[i], rs[i].rim, .bin op (.cell cc.1 cc.2) o2⟩, atO tot os2, _, _, _, _, _, _, rfl, ltt, ?_, ?_, fun j r' ej => ?_, by rw [up_ne rlw]; exact ew11, by rw [up_ne rlr]; exact er11, d11.put rla rls, k11.put0 rlh⟩
  · rw [up_same, List.map_set]; rfl
  · rw [List.map_set, rn6]
    exact List.set_getElem_self hi'
  · by_cases e : i = j
    · subst e
      rw [List.getElem?_set_self hir] at ej
      obtain rfl := Option.some.inj ej
      have rl2 := refs_len o2
      have rl3 : 4 ^ o2.dep ≤ 4 ^ 2 := Nat.pow_le_pow_right (by omega) od2
      refine ⟨⟨hcc, oa2⟩, fun _ => ⟨by simp only [Ex.dep]; omega, ?_, cc, by simp [Ex.refs], hcn⟩, fun z => absurd z (by omega)⟩
      simp only [Ex.refs, List.length_append, List.length_cons, List.length_nil]
      omega
    · rw [List.getElem?_set_ne e] at ej
      obtain ⟨y1, y2, y3⟩ := ro j r' ej
      exact ⟨y1, fun z => y2 (by omega), fun z => y3 (by omega)⟩

/-! ### cell_at, shuffled, gadget, rules_by -/
def stP (p : Nat × Int) : PV := .tup [.int (p.1 : Nat), .int p.2]
def setO (os : List Int) (st : List (Nat × Int)) : List Int := st.foldl (fun os p => os.set p.1 p.2) os
theorem setO_len : ∀ (st : List (Nat × Int)) (os : List Int), (setO os st).length = os.length
  | [], _ => rfl
  | p :: st, os => by show (setO (os.set p.1 p.2) st).length = _; rw [setO_len st, List.length_set]
theorem c_cell_at {k : Nat} (hk : 1 ≤ k) {x : List Nat} {m : Nat} (hm : m ≤ 1000) {st : List (Nat × Int)} (hs : ∀ p ∈ st, p.1 < m) {l : Addr} {h : PH} {Q : QV} (hl : h l = some (.lst (st.map stP))) (q : Q (refP (x, setO (List.replicate m 0) st)) h) : (wC cl k)._law_cell_at [.str x, .int m, .ref l] h Q := by
  obtain ⟨k, rfl⟩ : ∃ j, k = j + 1 := ⟨k - 1, by omega⟩
  show zFn _ _ (b__law_cell_at cl (wC cl k)) _ h Q
  unfold b__law_cell_at
  dsimp! []
  refine ⟨by decide, fun p np => ?_⟩
  dsimp! []
  refine ⟨⟨by omega, by omega, by decide⟩, fun d nd => ?_⟩
  rw [rep_tI, zSeq_x]
  have npl : l ≠ p := by rintro rfl; rw [hl] at np; cases np
  have ndl : l ≠ d := by rintro rfl; rw [up_ne npl, hl] at nd; cases nd
  dsimp! [up_ne ndl, up_ne npl, hl]
  refine forW_L (ps := st.map stP) (fun i ρ' h' => ∃ (x4 x5 : Option PV), ρ' = [some (.str x), some (.int (m : Nat)), some (.ref l), some (.ref d), x4, x5] ∧ h' d = some (.lst ((setO (List.replicate m 0) (st.take i)).map .int)) ∧ Kp [] h h')
    ⟨none, none, rfl, up_same, ((kp_new np).new nd)⟩ (fun i ρ' h' _ ⟨_, _, _, _, kk⟩ => kk l _ (by simp) hl) ?_ ?_
  · rintro i _ h1 y ey ⟨x4, x5, rfl, e1, k1⟩
    rw [List.getElem?_map] at ey
    obtain ⟨⟨j, v⟩, ej, rfl⟩ := Option.map_eq_some_iff.mp ey
    have hj := hs _ (List.mem_of_getElem? ej)
    have ndh : h d = none := by
      by_cases e : d = p
      · rw [e]; exact np
      · rw [up_ne e] at nd; exact nd
    unfold stP
    dsimp! [e1, ixN_n (n := ((setO (List.replicate m 0) (st.take i)).map PV.int).length) (i := j) (by rw [List.length_map, setO_len, List.length_replicate]; exact hj)]
    refine ⟨_, G.Sub.refl _, _, _, rfl, ?_, k1.put0 ndh⟩
    rw [up_same, List.take_add_one, ej]
    simp only [Option.toList_some, setO, List.foldl_append, List.foldl_cons, List.foldl_nil]
    rw [List.map_set]
  · rintro _ h1 ⟨x4, x5, rfl, e1, k1⟩
    rw [List.length_map, List.take_length] at e1
    dsimp! [e1]
    exact ⟨by decide, h, sub_of_kp k1, q⟩
theorem c_shuffled {k : Nat} (hk : 2 ≤ k) {a s l : Addr} {ns : List Int} {xs : List PV} (hx : xs.length ≤ 1000) {h : PH} {Q : QV} (d : DS a ns s h) (hl : h l = some (.lst xs)) (hls : l ≠ s)
    (q : ∀ ys p h', ys.Perm xs → DS a ns s h' → Kp [s] h h' → h p = none → h' p = some (.lst ys) → Q (.ref p) h') : (wC cl k)._law_shuffled [.ref s, .ref l] h Q := by
  obtain ⟨k, rfl⟩ : ∃ j, k = j + 1 := ⟨k - 1, by omega⟩
  show zFn _ _ (b__law_shuffled cl (wC cl k)) _ h Q
  unfold b__law_shuffled
  dsimp! []
  refine ⟨by decide, fun p np => ?_⟩
  have nps := d.ne np
  have npl : l ≠ p := by rintro rfl; rw [hl] at np; cases np
  rw [zSeq_x]
  dsimp! [up_ne npl, hl]
  refine forW_L (ps := xs) (fun i ρ' h' => ∃ (ys : List PV) (x3 : Option PV), ρ' = [some (.ref s), some (.ref l), some (.ref p), x3] ∧ ys.Perm (xs.take i) ∧ h' p = some (.lst ys) ∧ DS a ns s h' ∧ Kp [s] h h')
    ⟨[], none, rfl, List.Perm.refl _, up_same, d.new np, kp_new np⟩ (fun i ρ' h' _ ⟨_, _, _, _, _, _, kk⟩ => kk l _ (by simpa using hls) hl) ?_ ?_
  · rintro i _ h1 y ey ⟨ys, x3, rfl, pm, e1, d1, k1⟩
    have hi := (List.getElem?_eq_some_iff.mp ey).1
    have ly : ys.length = i := by rw [pm.length_eq, List.length_take]; omega
    dsimp! [e1]
    refine c_draw (by omega) d1 (by omega) (by omega) fun v h2 v0 v1 d2 f2 => ?_
    have e2 : h2 p = some (.lst ys) := (f2 p (by simpa using nps)).trans e1
    rw [zInsert_r, e2, zInsO_l]
    refine ⟨by rw [sizeLine_eq]; omega, v0, by omega, _, G.Sub.refl _, _, _, rfl, ?_, up_same, d2.put (d.nea np) nps, (k1.trans f2.kp).put0 np⟩
    rw [List.take_add_one, ey]
    have p1 : (ys.take v.toNat ++ [y] ++ ys.drop v.toNat).Perm (ys ++ [y]) := by
      rw [List.append_assoc]
      have : (ys ++ [y]).Perm (ys.take v.toNat ++ (ys.drop v.toNat ++ [y])) := by rw [← List.append_assoc, List.take_append_drop]
      exact (List.Perm.append_left _ List.perm_append_comm).trans this.symm
    exact p1.trans (List.Perm.append_right _ pm)
  · rintro _ h1 ⟨ys, x3, rfl, pm, e1, d1, k1⟩
    rw [List.take_length] at pm
    dsimp! []
    exact ⟨_, G.Sub.refl _, q ys p h1 pm d1 k1 np e1⟩

/-- the lists of a gadget -/
structure Gad (m ac al : Nat) (sg : Int) (x y : List Nat) (cx cy : List (List Nat × List Int)) : Prop where
  ex : ∃ a1 a2 st b c : Int, 0 < a1 ∧ 0 < a2 ∧ 0 < st ∧ cx = [(x, setO (List.replicate m 0) [(al, a1)]), (y, setO (List.replicate m 0) [(ac, 0 - sg * st), (al, b)])] ∧ cy = [(y, setO (List.replicate m 0) [(al, -a2)]), (x, setO (List.replicate m 0) [(al, c)])]
theorem c_gadget {k : Nat} (hk : 2 ≤ k) {a s nl : Addr} {ns : List Int} {m ac al : Nat} {sg : Int} {x y : List Nat} (hm : m ≤ 1000) (h1 : ac < m) (h2 : al < m) (hxy : x ≠ y) {h : PH} {Q : QV} (d : DS a ns s h) (hl : h nl = some (.lst [.str x, .str y]))
    (q : ∀ r lx ly cx cy h', Gad m ac al sg x y cx cy → h r = none → h lx = none → h ly = none → r ≠ lx → r ≠ ly → lx ≠ ly → h' r = some (.dic false none [(.str x, .ref lx), (.str y, .ref ly)]) → h' lx = some (.lst (cx.map refP)) → h' ly = some (.lst (cy.map refP)) → DS a ns s h' → Kp [s] h h' → Q (.ref r) h') :
    (wC cl k)._law_gadget [.ref s, .ref nl, .int m, .int ac, .int al, .int sg] h Q := by
  obtain ⟨k, rfl⟩ : ∃ j, k = j + 1 := ⟨k - 1, by omega⟩
  show zFn _ _ (b__law_gadget cl (wC cl k)) _ h Q
  unfold b__law_gadget
  have kz : ∀ z, keyOk false (.str z) = true := fun _ => rfl
  rw [zFn_x]
  refine ⟨rfl, ?_⟩
  rw [zSeq_asg, zVar_x]
  refine ⟨.ref nl, rfl, ?_⟩
  rw [zgLst_r, hl, zgLstO_l]
  refine ⟨rfl, ?_⟩
  rw [zgCons_c, zgName_x, zgCons_c, zgName_x, zgNil_n]
  refine zSeq_key (fun ρ' h' => ∃ st : Int, 0 < st ∧ st ≤ 2 ∧ ρ' = [some (.ref s), some (.ref nl), some (.int (m : Nat)), some (.int (ac : Nat)), some (.int (al : Nat)), some (.int sg), some (.str x), some (.str y), some (.int st), none] ∧ DS a ns s h' ∧ Kp [s] h h') ?_ fun X kx => ?_
  rotate_left
  · dsimp! []
    refine c_draw (by omega) d (by omega) (by omega) fun v h3 v0 v1 d3 f3 => ?_
    dsimp! []
    exact kx _ _ ⟨1 + v, by omega, by omega, rfl, d3, f3.kp⟩
  rintro _ h3 ⟨st, s0, s1, rfl, d3, k3⟩
  refine zSeq_key (fun ρ' h' => ∃ (r lx ly : Addr) (a1 : Int), 0 < a1 ∧ ρ' = [some (.ref s), some (.ref nl), some (.int (m : Nat)), some (.int (ac : Nat)), some (.int (al : Nat)), some (.int sg), some (.str x), some (.str y), some (.int st), some (.ref r)] ∧ h3 r = none ∧ h3 lx = none ∧ h3 ly = none ∧ r ≠ lx ∧ r ≠ ly ∧ lx ≠ ly ∧
    h' r = some (.dic false none [(.str x, .ref lx), (.str y, .ref ly)]) ∧ h' lx = some (.lst [refP (x, setO (List.replicate m 0) [(al, a1)])]) ∧ h' ly = some (.lst []) ∧ DS a ns s h' ∧ Kp [s] h3 h') ?_ fun X kx => ?_
  rotate_left
  · dsimp! []
    refine c_draw (by omega) d3 (by omega) (by omega) fun v h4 v0 v1 d4 f4 => ?_
    dsimp! []
    refine ⟨by decide, by decide, fun l1 n1 => ?_⟩
    have e1 : PV.tup [.int (al : Nat), .int (1 + v)] = stP (al, 1 + v) := rfl
    refine c_cell_at (st := [(al, 1 + v)]) (by omega) hm (by simpa using h2) up_same ?_
    dsimp! []
    have k4 : Kp [s] h3 (up h4 l1 (.lst [stP (al, 1 + v)])) := f4.kp.new n1
    have d4' := d4.new n1 (o := .lst [stP (al, 1 + v)])
    rw [e1]
    generalize up h4 l1 (.lst [stP (al, 1 + v)]) = h5 at k4 d4' ⊢
    refine ⟨by decide, fun lx nx => ?_⟩
    dsimp! []
    refine ⟨Nat.zero_le _, fun ly ny => ?_⟩
    dsimp! []
    refine ⟨by decide, rfl, fun r nr => ?_⟩
    have h31 : ∀ {b : Addr}, b ≠ s → h5 b = none → h3 b = none := fun {b} bs nb => by
      cases e : h3 b with
      | none => rfl
      | some o => have := k4 b o (by simpa using bs) e; rw [nb] at this; cases this
    have xs := d4'.ne nx
    have yx : ly ≠ lx := by rintro rfl; rw [up_same] at ny; cases ny
    have ny5 : h5 ly = none := by rw [up_ne yx] at ny; exact ny
    have ry : r ≠ ly := by rintro rfl; rw [up_same] at nr; cases nr
    have rx : r ≠ lx := by rintro rfl; rw [up_ne (Ne.symm yx), up_same] at nr; cases nr
    have nr5 : h5 r = none := by rw [up_ne ry, up_ne rx] at nr; exact nr
    have ys := d4'.ne ny5
    have rs := d4'.ne nr5
    have ed : dputs [] [(PV.str x, PV.ref lx), (PV.str y, PV.ref ly)] = [(PV.str x, PV.ref lx), (PV.str y, PV.ref ly)] := by
      simp [dputs, dput, hxy]
    rw [ed]
    refine kx _ _ ⟨r, lx, ly, 1 + v, by omega, rfl, h31 rs nr5, h31 xs nx, h31 ys ny5, rx, ry, Ne.symm yx, up_same, ?_, ?_, ((d4'.new nx).new ny).new nr, ((k4.new nx).new ny).new nr⟩
    · rw [up_ne (Ne.symm rx), up_ne (Ne.symm yx), up_same]
    · rw [up_ne (Ne.symm ry), up_same]
  rintro _ h4 ⟨r, lx, ly, a1, a0, rfl, nr, nx, ny, rx, ry, xy, er, ex, ey, d4, k4⟩
  have h0 : ∀ {b : Addr}, b ≠ s → h3 b = none → h b = none := fun {b} bs nb => by
    cases e : h b with
    | none => rfl
    | some o => have := k3 b o (by simpa using bs) e; rw [nb] at this; cases this
  have rs := d3.ne nr
  have xs := d3.ne nx
  have ys := d3.ne ny
  have ra := d3.nea nr
  have xa := d3.nea nx
  have ya := d3.nea ny
  have nrh := h0 rs nr
  have nxh := h0 xs nx
  have nyh := h0 ys ny
  have kk4 := k3.trans k4
  clear h0 k3 k4 d3 nr nx ny d
  have gx : dget [(PV.str x, PV.ref lx), (PV.str y, PV.ref ly)] (.str x) = some (.ref lx) := by simp [dget]
  have gy : dget [(PV.str x, PV.ref lx), (PV.str y, PV.ref ly)] (.str y) = some (.ref ly) := by simp [dget, hxy]
  refine zSeq_key (fun ρ' h' => ∃ (a2 : Int), 0 < a2 ∧ ρ' = [some (.ref s), some (.ref nl), some (.int (m : Nat)), some (.int (ac : Nat)), some (.int (al : Nat)), some (.int sg), some (.str x), some (.str y), some (.int st), some (.ref r)] ∧
    h' r = some (.dic false none [(.str x, .ref lx), (.str y, .ref ly)]) ∧ h' lx = some (.lst [refP (x, setO (List.replicate m 0) [(al, a1)])]) ∧ h' ly = some (.lst [refP (y, setO (List.replicate m 0) [(al, -a2)])]) ∧ DS a ns s h' ∧ Kp [s] h h') ?_ fun X kx => ?_
  rotate_left
  · dsimp! [er, kz, gy, ey]
    refine c_draw (by omega) d4 (by omega) (by omega) fun v h5 v0 v1 d5 f5 => ?_
    dsimp! []
    refine ⟨by decide, by decide, fun l1 n1 => ?_⟩
    have o5 : ∀ b, b ≠ s → h5 b = h4 b := fun b nb => f5 b (by simpa using nb)
    have e1 : PV.tup [.int (al : Nat), .int (-1 - v)] = stP (al, -1 - v) := rfl
    refine c_cell_at (st := [(al, -1 - v)]) (by omega) hm (by simpa using h2) up_same ?_
    have lr : r ≠ l1 := by rintro rfl; rw [o5 _ rs, er] at n1; cases n1
    have lx1 : lx ≠ l1 := by rintro rfl; rw [o5 _ xs, ex] at n1; cases n1
    have ly1 : ly ≠ l1 := by rintro rfl; rw [o5 _ ys, ey] at n1; cases n1
    dsimp! [up_ne ly1, o5 _ ys, ey]
    refine ⟨by decide, ?_⟩
    refine kx _ _ ⟨1 + v, by omega, rfl, by rw [up_ne ry, up_ne lr, o5 _ rs]; exact er, by rw [up_ne xy, up_ne lx1, o5 _ xs]; exact ex, ?_, (d5.new n1).put ya ys, ((kk4.trans f5.kp).new n1).put0 nyh⟩
    rw [up_same, show -(1 + v) = -1 - v by omega]
  clear d4 kk4 er ex ey h4
  rintro _ h4 ⟨a2, a20, rfl, er, ex, ey, d4, kk4⟩
  refine zSeq_key (fun ρ' h' => ∃ (b : Int), ρ' = [some (.ref s), some (.ref nl), some (.int (m : Nat)), some (.int (ac : Nat)), some (.int (al : Nat)), some (.int sg), some (.str x), some (.str y), some (.int st), some (.ref r)] ∧
    h' r = some (.dic false none [(.str x, .ref lx), (.str y, .ref ly)]) ∧ h' lx = some (.lst [refP (x, setO (List.replicate m 0) [(al, a1)]), refP (y, setO (List.replicate m 0) [(ac, 0 - sg * st), (al, b)])]) ∧ h' ly = some (.lst [refP (y, setO (List.replicate m 0) [(al, -a2)])]) ∧ DS a ns s h' ∧ Kp [s] h h') ?_ fun X kx => ?_
  rotate_left
  · dsimp! [er, kz, gx, ex]
    refine ⟨mulL ⟨by omega, by omega⟩, by decide, ?_⟩
    refine c_draw (by omega) d4 (by omega) (by omega) fun v h5 v0 v1 d5 f5 => ?_
    dsimp! []
    refine ⟨by decide, by decide, fun l1 n1 => ?_⟩
    have o5 : ∀ b, b ≠ s → h5 b = h4 b := fun b nb => f5 b (by simpa using nb)
    have e1 : PV.tup [.int (al : Nat), .int (v - 1)] = stP (al, v - 1) := rfl
    have e2 : PV.tup [.int (ac : Nat), .int (0 - sg * st)] = stP (ac, 0 - sg * st) := rfl
    refine c_cell_at (st := [(ac, 0 - sg * st), (al, v - 1)]) (by omega) hm (by simp; omega) up_same ?_
    have lr : r ≠ l1 := by rintro rfl; rw [o5 _ rs, er] at n1; cases n1
    have lx1 : lx ≠ l1 := by rintro rfl; rw [o5 _ xs, ex] at n1; cases n1
    have ly1 : ly ≠ l1 := by rintro rfl; rw [o5 _ ys, ey] at n1; cases n1
    dsimp! [up_ne lx1, o5 _ xs, ex]
    refine ⟨by decide, ?_⟩
    refine kx _ _ ⟨v - 1, rfl, by rw [up_ne rx, up_ne lr, o5 _ rs]; exact er, up_same, by rw [up_ne (Ne.symm xy), up_ne ly1, o5 _ ys]; exact ey, (d5.new n1).put xa xs, ((kk4.trans f5.kp).new n1).put0 nxh⟩
  clear d4 kk4 er ex ey h4
  rintro _ h4 ⟨b, rfl, er, ex, ey, d4, kk4⟩
  refine zSeq_key (fun ρ' h' => ∃ (c : Int), ρ' = [some (.ref s), some (.ref nl), some (.int (m : Nat)), some (.int (ac : Nat)), some (.int (al : Nat)), some (.int sg), some (.str x), some (.str y), some (.int st), some (.ref r)] ∧
    h' r = some (.dic false none [(.str x, .ref lx), (.str y, .ref ly)]) ∧ h' lx = some (.lst [refP (x, setO (List.replicate m 0) [(al, a1)]), refP (y, setO (List.replicate m 0) [(ac, 0 - sg * st), (al, b)])]) ∧ h' ly = some (.lst [refP (y, setO (List.replicate m 0) [(al, -a2)]), refP (x, setO (List.replicate m 0) [(al, c)])]) ∧ DS a ns s h' ∧ Kp [s] h h') ?_ fun X kx => ?_
  rotate_left
  · dsimp! [er, kz, gy, ey]
    refine c_draw (by omega) d4 (by omega) (by omega) fun v h5 v0 v1 d5 f5 => ?_
    dsimp! []
    refine ⟨by decide, by decide, fun l1 n1 => ?_⟩
    have o5 : ∀ b, b ≠ s → h5 b = h4 b := fun b nb => f5 b (by simpa using nb)
    have e1 : PV.tup [.int (al : Nat), .int (v - 1)] = stP (al, v - 1) := rfl
    refine c_cell_at (st := [(al, v - 1)]) (by omega) hm (by simpa using h2) up_same ?_
    have lr : r ≠ l1 := by rintro rfl; rw [o5 _ rs, er] at n1; cases n1
    have lx1 : lx ≠ l1 := by rintro rfl; rw [o5 _ xs, ex] at n1; cases n1
    have ly1 : ly ≠ l1 := by rintro rfl; rw [o5 _ ys, ey] at n1; cases n1
    dsimp! [up_ne ly1, o5 _ ys, ey]
    refine ⟨by decide, ?_⟩
    refine kx _ _ ⟨v - 1, rfl, by rw [up_ne ry, up_ne lr, o5 _ rs]; exact er, by rw [up_ne xy, up_ne lx1, o5 _ xs]; exact ex, up_same, (d5.new n1).put ya ys, ((kk4.trans f5.kp).new n1).put0 nyh⟩
  clear d4 kk4 er ex ey h4
  rintro _ h4 ⟨c, rfl, er, ex, ey, d4, kk4⟩
  dsimp! []
  exact ⟨_, G.Sub.refl _, q r lx ly _ _ h4 ⟨a1, a2, st, b, c, a0, a20, s0, rfl, rfl⟩ nrh nxh nyh rx ry xy er ex ey d4 kk4⟩

/-! ### rules_by -/
abbrev RowsK := List Nat × Addr × List (List Nat × List Int)
structure KOk (m : Nat) (K : List RowsK) : Prop where
  few : K.length ≤ 20
  nm : ∀ e ∈ K, okS e.1 = true
  nd : (K.map (·.1)).Nodup
  ok : ∀ e ∈ K, goodC m e.2.2
theorem c_rules_by {k : Nat} (hk : 4 ≤ k) {a s r : Addr} {ns : List Int} {m : Nat} {K : List RowsK} (ko : KOk m K) {h : PH} {Q : QV} (d : DS a ns s h) (hr : h r = some (.dic false none (K.map fun e => (.str e.1, .ref e.2.1)))) (hrs : r ≠ s)
    (hl : ∀ e ∈ K, h e.2.1 = some (.lst (e.2.2.map refP)) ∧ e.2.1 ≠ s)
    (q : ∀ (rs : List Row) h', (rs.map Row.name).Perm (K.map (·.1)) → (∀ x ∈ rs, ∃ e ∈ K, e.1 = x.name ∧ (∀ c ∈ x.e.refs, c ∈ e.2.2) ∧ x.e.dep ≤ 5 ∧ x.e.refs.length ≤ 5 ∧ x.e.Al (refM m)) → DS a ns s h' → Kp [s] h h' → Q (.tup (rs.map Row.P)) h') :
    (wC cl k)._law_rules_by [.ref s, .ref r] h Q := by
  obtain ⟨k, rfl⟩ : ∃ j, k = j + 1 := ⟨k - 1, by omega⟩
  show zFn _ _ (b__law_rules_by cl (wC cl k)) _ h Q
  unfold b__law_rules_by
  have kz : ∀ z, keyOk false (.str z) = true := fun _ => rfl
  dsimp! []
  refine ⟨Nat.zero_le _, fun rl nrl => ?_⟩
  have rlr : r ≠ rl := by rintro rfl; rw [hr] at nrl; cases nrl
  have rls := d.ne nrl
  have rla := d.nea nrl
  rw [zSeq_x]
  dsimp! [up_ne rlr, hr]
  have fewK := ko.few
  refine ⟨K.map (·.1), by rw [List.map_map, List.map_map]; rfl, by rw [List.length_map]; omega, fun nl nnl => ?_⟩
  obtain ⟨_, nm, enm, pm⟩ := sort_strs (l := K.map (·.1)) fun x hx => by obtain ⟨e, he, rfl⟩ := List.mem_map.mp hx; exact ko.nm e he
  rw [enm]
  have nlr : rl ≠ nl := by rintro rfl; rw [up_same] at nnl; cases nnl
  have nnl0 : h nl = none := by rw [up_ne (Ne.symm nlr)] at nnl; exact nnl
  have nls := d.ne nnl0
  have key : ∀ x ∈ nm, ∃ e ∈ K, e.1 = x ∧ dget (K.map fun e => (PV.str e.1, PV.ref e.2.1)) (.str x) = some (.ref e.2.1) := fun x hx => by
    obtain ⟨e, he, rfl⟩ := List.mem_map.mp (pm.mem_iff.mp hx)
    refine ⟨e, he, rfl, dget_mem ?_ (List.mem_map.mpr ⟨e, he, rfl⟩)⟩
    rw [List.map_map]
    have : (K.map (Prod.fst ∘ fun e : RowsK => (PV.str e.1, PV.ref e.2.1))) = (K.map (·.1)).map PV.str := by rw [List.map_map]; rfl
    rw [this]
    exact List.Pairwise.map _ (fun a b ne z => ne (by cases z; rfl)) ko.nd
  have d1 := (d.new nrl (o := .lst [])).new nnl (o := .lst (nm.map .str))
  have k1 : Kp [s] h (up (up h rl (.lst [])) nl (.lst (nm.map .str))) := (kp_new nrl).new nnl
  have erl : up (up h rl (.lst [])) nl (.lst (nm.map .str)) rl = some (.lst []) := by rw [up_ne nlr, up_same]
  have enl : up (up h rl (.lst [])) nl (.lst (nm.map .str)) nl = some (.lst (nm.map .str)) := up_same
  generalize up (up h rl (.lst [])) nl (.lst (nm.map .str)) = h1 at d1 k1 erl enl ⊢
  refine forW_L (ps := nm.map .str) (fun i ρ' h' => ∃ (rs : List Row) (x3 x4 x5 : Option PV), ρ' = [some (.ref s), some (.ref r), some (.ref rl), x3, x4, x5] ∧ rs.map Row.name = nm.take i ∧ (∀ x ∈ rs, ∃ e ∈ K, e.1 = x.name ∧ (∀ c ∈ x.e.refs, c ∈ e.2.2) ∧ x.e.dep ≤ 5 ∧ x.e.refs.length ≤ 5 ∧ x.e.Al (refM m)) ∧
    h' rl = some (.lst (rs.map Row.P)) ∧ h' nl = some (.lst (nm.map .str)) ∧ DS a ns s h' ∧ Kp [s] h h')
    ⟨[], none, none, none, rfl, rfl, by simp, erl, enl, d1, k1⟩ (fun i ρ' h' _ ⟨_, _, _, _, _, _, _, _, e, _⟩ => e) ?_ ?_
  · rintro i _ h2 p ep ⟨rs, x3, x4, x5, rfl, rn, ro, e2, en2, d2, k2⟩
    rw [List.getElem?_map] at ep
    obtain ⟨x, ex, rfl⟩ := Option.map_eq_some_iff.mp ep
    have hx := List.mem_of_getElem? ex
    have hi := (List.getElem?_eq_some_iff.mp ex).1
    obtain ⟨e, he, rfl, ge⟩ := key x hx
    obtain ⟨l1, l2⟩ := hl e he
    have good := ko.ok e he
    dsimp! []
    refine ⟨by decide, ?_⟩
    refine zSeq_key (fun ρ' h' => ∃ (E : Ex) (x5 : Option PV), ρ' = [some (.ref s), some (.ref r), some (.ref rl), some (.str e.1), some E.P, x5] ∧ E.dep ≤ 5 ∧ E.refs.length ≤ 5 ∧ E.Al (refM m) ∧ (∀ c ∈ E.refs, c ∈ e.2.2) ∧ DS a ns s h' ∧ Kp [s] h2 h') ?_ fun X kx => ?_
    rotate_left
    · dsimp! [k2 r _ (by simpa using hrs) hr, kz, ge]
      refine c_shuffled (by omega) (by rw [List.length_map]; have := good.1; omega) d2 (k2 _ _ (by simpa using l2) l1) l2 fun ys p h3 pm3 d3 k3 np e3 => ?_
      have nps := d2.ne np
      dsimp! [e3]
      refine forW_L (ps := ys) (fun j ρ' h' => ∃ (E : Ex) (x5 : Option PV), ρ' = [some (.ref s), some (.ref r), some (.ref rl), some (.str e.1), some E.P, x5] ∧ E.dep ≤ j ∧ E.refs.length ≤ j ∧ E.Al (refM m) ∧ (∀ c ∈ E.refs, c ∈ e.2.2) ∧ h' p = some (.lst ys) ∧ DS a ns s h' ∧ Kp [s] h2 h')
        ⟨.ctr 0, x5, rfl, Nat.le_refl _, Nat.le_refl _, ⟨by decide, by decide⟩, by simp [Ex.refs], e3, d3, k3⟩ (fun j ρ' h' _ ⟨_, _, _, _, _, _, _, e, _⟩ => e) ?_ ?_
      · rintro j _ h4 y ey ⟨E, x5, rfl, E1, E2, E3, E4, e4, d4, k4⟩
        have hy : y ∈ e.2.2.map refP := pm3.mem_iff.mp (List.mem_of_getElem? ey)
        obtain ⟨c, hc, rfl⟩ := List.mem_map.mp hy
        have hc2 := good.2 c hc
        dsimp! []
        refine ⟨by decide, fun l nl => ?_⟩
        refine c_one_of (by omega) (d4.new nl) up_same (by simp) (by decide) (d4.ne nl) fun z h5 hz d5 f5 => ?_
        have hop : ∃ o : Op2, z = .str o.cs := by
          simp only [List.mem_cons, List.not_mem_nil, or_false] at hz
          rcases hz with rfl | rfl | rfl | rfl
          · exact ⟨.plus, rfl⟩
          · exact ⟨.minus, rfl⟩
          · exact ⟨.least, rfl⟩
          · exact ⟨.greatest, rfl⟩
        obtain ⟨o, rfl⟩ := hop
        dsimp! []
        refine ⟨by decide, _, G.Sub.refl _, .bin o E (.cell c.1 c.2), _, rfl, by simp only [Ex.dep]; omega, by simp only [Ex.refs, List.length_append, List.length_cons, List.length_nil]; omega, ⟨E3, hc2⟩, fun c' hc' => ?_, (f5 p (by simpa using nps)).trans (keep_new nl _ _ e4), d5, (k4.new nl).trans f5.kp⟩
        rcases List.mem_append.mp hc' with hc' | hc'
        · exact E4 c' hc'
        · simp [Ex.refs] at hc'; subst hc'; exact hc
      · rintro _ h4 ⟨E, x5, rfl, E1, E2, E3, E4, e4, d4, k4⟩
        have ly : ys.length ≤ 5 := by rw [pm3.length_eq, List.length_map]; exact good.1
        exact kx _ _ ⟨E, _, rfl, by omega, by omega, E3, E4, d4, k4⟩
    rintro _ h3 ⟨E, x5, rfl, E1, E2, E3, E4, d3, k3⟩
    have e3 := k3 _ _ (by simpa using rls) e2
    have en3 := k3 _ _ (by simpa using nls) en2
    dsimp! [e3]
    refine c_rim (by omega) d3 fun rim h4 d4 f4 _ _ => ?_
    have e4 := (f4 rl (by simpa using rls)).trans e3
    have en4 := (f4 nl (by simpa using nls)).trans en3
    dsimp! [e4]
    have lrs : rs.length ≤ 20 := by have := congrArg List.length rn; rw [List.length_map, List.length_take] at this; have := pm.length_eq; rw [List.length_map] at this; omega
    refine ⟨by decide, by rw [sizeLine_eq, List.length_map]; omega, _, G.Sub.refl _, rs ++ [⟨e.1, rim, E⟩], _, _, _, rfl, by rw [List.map_append, rn, List.take_add_one, ex]; rfl, fun x' hx' => ?_, by rw [up_same, List.map_append]; rfl, by rw [up_ne (Ne.symm nlr)]; exact en4, d4.put rla rls, ((k2.trans k3).trans f4.kp).put0 nrl⟩
    rcases List.mem_append.mp hx' with hx' | hx'
    · exact ro x' hx'
    · simp at hx'
      subst hx'
      exact ⟨e, he, rfl, E4, E1, E2, E3⟩
  · rintro _ h2 ⟨rs, x3, x4, x5, rfl, rn, ro, e2, en2, d2, k2⟩
    rw [List.length_map, List.take_length] at rn
    dsimp! [e2]
    exact ⟨_, G.Sub.refl _, q rs h2 (rn ▸ pm) ro d2 k2⟩

/-! ### levelled tables have no round walks -/
theorem getD_set {L : List Int} {b i : Nat} {w : Int} (hb : b < L.length) : (L.set b w).getD i 0 = if i = b then w else L.getD i 0 := by
  rw [List.getD_eq_getElem?_getD, List.getD_eq_getElem?_getD, List.getElem?_set]
  by_cases e : b = i
  · subst e
    simp [hb]
  · rw [if_neg e, if_neg (Ne.symm e)]
theorem getD_rep (m i : Nat) : (List.replicate m (0 : Int)).getD i 0 = 0 := by
  rw [List.getD_eq_getElem?_getD, List.getElem?_replicate]
  split <;> rfl
theorem getD_atO {t os : List Int} (h : t.length = os.length) (i : Nat) : (atO t os).getD i 0 = t.getD i 0 + os.getD i 0 := by
  rw [List.getD_eq_getElem?_getD, List.getD_eq_getElem?_getD, List.getD_eq_getElem?_getD]
  by_cases hi : i < t.length
  · rw [List.getElem?_eq_getElem hi, List.getElem?_eq_getElem (show i < os.length by omega), List.getElem?_eq_getElem (by rw [atO_len h]; exact hi)]
    simp [atO]
  · rw [List.getElem?_eq_none (show t.length ≤ i by omega), List.getElem?_eq_none (show os.length ≤ i by omega), List.getElem?_eq_none (show (atO t os).length ≤ i by rw [atO_len h]; omega)]
    rfl
theorem getD_1 {m a i : Nat} {v : Int} (ha : a < m) : (setO (List.replicate m 0) [(a, v)]).getD i 0 = if i = a then v else 0 := by
  show ((List.replicate m (0 : Int)).set a v).getD i 0 = _
  rw [getD_set (by rw [List.length_replicate]; exact ha), getD_rep]
theorem getD_2 {m a b i : Nat} {v w : Int} (ha : a < m) (hb : b < m) : (setO (List.replicate m 0) [(a, v), (b, w)]).getD i 0 = if i = b then w else if i = a then v else 0 := by
  show (((List.replicate m (0 : Int)).set a v).set b w).getD i 0 = _
  rw [getD_set (by rw [List.length_set, List.length_replicate]; exact hb), getD_set (by rw [List.length_replicate]; exact ha), getD_rep]
def psi (x : List Nat) (ac al : Nat) (sg : Int) (p : Pl) : List Int := [sg * p.2.getD ac 0, if p.1 = x then 0 else 1, if p.1 = x then -(p.2.getD al 0) else p.2.getD al 0]
theorem lex1 {a b : Int} {l m : List Int} (h : a < b) : a :: l < b :: m := List.cons_lt_cons_iff.mpr (.inl h)
theorem lex2 {a b : Int} {l m : List Int} (h : a = b) (h2 : l < m) : a :: l < b :: m := List.cons_lt_cons_iff.mpr (.inr ⟨h, h2⟩)
structure GadOk (m ac al : Nat) (sg : Int) (x y nm : List Nat) (cs : List (List Nat × List Int)) : Prop where
  two : cs.length = 2
  nms : ∀ c ∈ cs, (c.1 = x ∨ c.1 = y) ∧ c.2.length = m
  dec : ∀ c ∈ cs, ∀ t : List Int, t.length = m → psi x ac al sg (c.1, atO t c.2) < psi x ac al sg (nm, t)
  stay : ∀ c ∈ cs, ∀ t : List Int, t.length = m → ∀ z, z ≠ ac → z ≠ al → (atO t c.2).getD z 0 = t.getD z 0
theorem gad_ok {m ac al : Nat} {sg : Int} {x y : List Nat} {cx cy : List (List Nat × List Int)} (g : Gad m ac al sg x y cx cy) (hxy : x ≠ y) (hac : ac < m) (hal : al < m) (hne : ac ≠ al) (hsg : sg = 1 ∨ sg = -1) : GadOk m ac al sg x y x cx ∧ GadOk m ac al sg x y y cy := by
  obtain ⟨a1, a2, st, b, c, h1, h2, h3, rfl, rfl⟩ := g.ex
  have sl : ∀ st : List (Nat × Int), (setO (List.replicate m 0) st).length = m := fun st => by rw [setO_len, List.length_replicate]
  have hyx : ¬ y = x := fun z => hxy z.symm
  refine ⟨⟨rfl, ?_, ?_, ?_⟩, ⟨rfl, ?_, ?_, ?_⟩⟩
  · intro c hc
    simp only [List.mem_cons, List.not_mem_nil, or_false] at hc
    rcases hc with rfl | rfl
    · exact ⟨.inl rfl, sl _⟩
    · exact ⟨.inr rfl, sl _⟩
  · intro c hc t ht
    simp only [List.mem_cons, List.not_mem_nil, or_false] at hc
    rcases hc with rfl | rfl
    · simp only [psi, getD_atO (ht.trans (sl _).symm), getD_1 hal, if_true, if_neg hne]
      exact lex2 (by rw [Int.add_zero]) (lex2 rfl (lex1 (by omega)))
    · simp only [psi, getD_atO (ht.trans (sl _).symm), getD_2 hac hal, if_true, if_neg hne]
      refine lex1 ?_
      rcases hsg with rfl | rfl <;> omega
  · intro c hc t ht z z1 z2
    simp only [List.mem_cons, List.not_mem_nil, or_false] at hc
    rcases hc with rfl | rfl
    · simp only [getD_atO (ht.trans (sl _).symm), getD_1 hal, if_neg z2]; omega
    · simp only [getD_atO (ht.trans (sl _).symm), getD_2 hac hal, if_neg z2, if_neg z1]; omega
  · intro c hc
    simp only [List.mem_cons, List.not_mem_nil, or_false] at hc
    rcases hc with rfl | rfl
    · exact ⟨.inr rfl, sl _⟩
    · exact ⟨.inl rfl, sl _⟩
  · intro c hc t ht
    simp only [List.mem_cons, List.not_mem_nil, or_false] at hc
    rcases hc with rfl | rfl
    · simp only [psi, getD_atO (ht.trans (sl _).symm), getD_1 hal, if_true, if_neg hne, if_neg hyx]
      exact lex2 (by rw [Int.add_zero]) (lex2 rfl (lex1 (by omega)))
    · simp only [psi, getD_atO (ht.trans (sl _).symm), getD_1 hal, if_true, if_neg hne, if_neg hyx]
      exact lex2 (by rw [Int.add_zero]) (lex1 (by omega))
  · intro c hc t ht z z1 z2
    simp only [List.mem_cons, List.not_mem_nil, or_false] at hc
    rcases hc with rfl | rfl
    · simp only [getD_atO (ht.trans (sl _).symm), getD_1 hal, if_neg z2]; omega
    · simp only [getD_atO (ht.trans (sl _).symm), getD_1 hal, if_neg z2]; omega
/-- the rows' cells make something less -/
def DecK (m : Nat) (K : List RowsK) : Prop := ∃ φ : Pl → List Int, ∀ e ∈ K, ∀ c ∈ e.2.2, ∀ t : List Int, t.length = m → φ (c.1, atO t c.2) < φ (e.1, t)
theorem dec2 {m ac al : Nat} {sg : Int} {x y : List Nat} {lx ly : Addr} {cx cy : List (List Nat × List Int)} (g : Gad m ac al sg x y cx cy) (hxy : x ≠ y) (hac : ac < m) (hal : al < m) (hne : ac ≠ al) (hsg : sg = 1 ∨ sg = -1) : DecK m [(x, lx, cx), (y, ly, cy)] := by
  obtain ⟨g1, g2⟩ := gad_ok g hxy hac hal hne hsg
  refine ⟨psi x ac al sg, fun e he c hc t ht => ?_⟩
  simp only [List.mem_cons, List.not_mem_nil, or_false] at he
  rcases he with rfl | rfl
  · exact g1.dec c hc t ht
  · exact g2.dec c hc t ht
theorem dec3 {m ac al z : Nat} {x y u v : List Nat} {lx ly lu lv : Addr} {cx cy cu cv : List (List Nat × List Int)} {dz : Int} (g : Gad m ac al 1 x y cx cy) (g' : Gad m ac al (-1) u v cu cv) (nd : [x, y, u, v].Nodup) (hac : ac < m) (hal : al < m) (hz : z < m) (hne : ac ≠ al) (z1 : z ≠ ac) (z2 : z ≠ al) (hdz : dz = 1 ∨ dz = -1) :
    DecK m [(x, lx, cx ++ [(u, setO (List.replicate m 0) [(z, dz)])]), (y, ly, cy), (u, lu, cu ++ [(x, setO (List.replicate m 0) [])]), (v, lv, cv)] := by
  simp only [List.nodup_cons, List.mem_cons, List.not_mem_nil, or_false, not_or, not_false_eq_true, List.nodup_nil, and_true] at nd
  obtain ⟨⟨xy, xu, xv⟩, ⟨yu, yv⟩, uv⟩ := nd
  obtain ⟨a1, a2⟩ := gad_ok g xy hac hal hne (.inl rfl)
  obtain ⟨b1, b2⟩ := gad_ok g' uv hac hal hne (.inr rfl)
  have sl : ∀ st : List (Nat × Int), (setO (List.replicate m 0) st).length = m := fun st => by rw [setO_len, List.length_replicate]
  let φ : Pl → List Int := fun p => (-dz * p.2.getD z 0) :: (if p.1 = u ∨ p.1 = v then 1 else 0) :: (if p.1 = u ∨ p.1 = v then psi u ac al (-1) p else psi x ac al 1 p)
  have lo : ∀ (n : List Nat) (t : List Int), n = x ∨ n = y → φ (n, t) = (-dz * t.getD z 0) :: 0 :: psi x ac al 1 (n, t) := fun n t hn => by
    have : ¬ (n = u ∨ n = v) := by rcases hn with rfl | rfl <;> simp_all
    simp only [φ, if_neg this]
  have hi : ∀ (n : List Nat) (t : List Int), n = u ∨ n = v → φ (n, t) = (-dz * t.getD z 0) :: 1 :: psi u ac al (-1) (n, t) := fun n t hn => by
    simp only [φ, if_pos hn]
  refine ⟨φ, fun e he c hc t ht => ?_⟩
  simp only [List.mem_cons, List.not_mem_nil, or_false] at he
  rcases he with rfl | rfl | rfl | rfl
  · rcases List.mem_append.mp hc with hc | hc
    · rw [lo _ _ (a1.nms c hc).1, lo x t (.inl rfl), a1.stay c hc t ht z z1 z2]
      exact lex2 rfl (lex2 rfl (a1.dec c hc t ht))
    · simp at hc
      subst hc
      rw [hi _ _ (.inl rfl), lo x t (.inl rfl)]
      refine lex1 ?_
      simp only [getD_atO (ht.trans (sl _).symm), getD_1 hz, if_true]
      rcases hdz with rfl | rfl <;> omega
  · rw [lo _ _ (a2.nms c hc).1, lo y t (.inr rfl), a2.stay c hc t ht z z1 z2]
    exact lex2 rfl (lex2 rfl (a2.dec c hc t ht))
  · rcases List.mem_append.mp hc with hc | hc
    · rw [hi _ _ (b1.nms c hc).1, hi u t (.inl rfl), b1.stay c hc t ht z z1 z2]
      exact lex2 rfl (lex2 rfl (b1.dec c hc t ht))
    · simp at hc
      subst hc
      rw [lo _ _ (.inl rfl), hi u t (.inl rfl)]
      refine lex2 ?_ (lex1 (by omega))
      simp only [getD_atO (ht.trans (sl _).symm)]
      rw [show setO (List.replicate m 0) [] = List.replicate m 0 from rfl, getD_rep, Int.add_zero]
  · rw [hi _ _ (b2.nms c hc).1, hi v t (.inr rfl), b2.stay c hc t ht z z1 z2]
    exact lex2 rfl (lex2 rfl (b2.dec c hc t ht))

theorem tw_of_k {m : Nat} {K : List RowsK} (ko : KOk m K) (dk : DecK m K) (h4 : K.length ≤ 4) {over : List (List Nat)} (ho : over.length = m) (hm : m ≤ 3) {rs : List Row} (pm : (rs.map Row.name).Perm (K.map (·.1)))
    (ro : ∀ x ∈ rs, ∃ e ∈ K, e.1 = x.name ∧ (∀ c ∈ x.e.refs, c ∈ e.2.2) ∧ x.e.dep ≤ 5 ∧ x.e.refs.length ≤ 5 ∧ x.e.Al (refM m)) : TW ⟨over, [], rs⟩ ∧ Dec (⟨over, [], rs⟩ : Tb).edges over.length := by
  have lr : rs.length ≤ 4 := by have := pm.length_eq; rw [List.length_map, List.length_map] at this; omega
  refine ⟨⟨by show rs.length ≤ 8; omega, fun r hr => by obtain ⟨e, _, _, _, a, _⟩ := ro r hr; omega, fun x hx => ?_, fun r hr => ?_, by show over.length ≤ 1000; omega, ?_⟩, ?_⟩
  · obtain ⟨e, he, rfl⟩ := List.mem_map.mp (pm.mem_iff.mp hx)
    exact ko.nm e he
  · obtain ⟨e, _, _, _, _, _, a⟩ := ro r hr
    show r.e.Al (refM over.length)
    rw [ho]; exact a
  · have := edges_le (t := ⟨over, [], rs⟩) (b := 5) fun r hr => by obtain ⟨e, _, _, _, _, a, _⟩ := ro r hr; exact a
    have l2 : (⟨over, [], rs⟩ : Tb).rs.length ≤ 4 := lr
    omega
  · obtain ⟨φ, hφ⟩ := dk
    refine ⟨φ, fun ed hed t ht => ?_⟩
    obtain ⟨r, hr, e1, e2, _⟩ := mem_edges hed
    obtain ⟨e, he, e3, e4, _⟩ := ro r hr
    have := hφ e he _ (e4 _ e2) t (ht.trans ho)
    rw [e1, ← e3]
    exact this
theorem perm3 {ys : List PV} (h : ys.Perm [.int 0, .int 1, .int 2]) : ∃ z c l : Nat, ys = [.int (z : Nat), .int (c : Nat), .int (l : Nat)] ∧ z < 3 ∧ c < 3 ∧ l < 3 ∧ z ≠ c ∧ z ≠ l ∧ c ≠ l := by
  have hl := h.length_eq
  have nd : ys.Nodup := h.nodup_iff.mpr (by decide)
  match ys, hl with
  | [p, q, r], _ =>
    have m : ∀ x ∈ [p, q, r], ∃ n : Nat, x = .int (n : Nat) ∧ n < 3 := fun x hx => by
      have := h.mem_iff.mp hx
      simp only [List.mem_cons, List.not_mem_nil, or_false] at this
      rcases this with rfl | rfl | rfl
      · exact ⟨0, rfl, by omega⟩
      · exact ⟨1, rfl, by omega⟩
      · exact ⟨2, rfl, by omega⟩
    obtain ⟨z, rfl, hz⟩ := m p (by simp)
    obtain ⟨c, rfl, hc⟩ := m q (by simp)
    obtain ⟨l, rfl, hl⟩ := m r (by simp)
    simp only [List.nodup_cons, List.mem_cons, List.not_mem_nil, or_false, not_or, not_false_eq_true, List.nodup_nil, and_true, PV.int.injEq] at nd
    exact ⟨z, c, l, rfl, hz, hc, hl, by omega, by omega, by omega⟩
theorem sign_at {v : Int} (h0 : 0 ≤ v) (h1 : v < 2) : ∃ sg : Int, (sg = 1 ∨ sg = -1) ∧ atI [PV.int 1, .int (-1)] v = some (.int sg) := by
  rcases (show v = 0 ∨ v = 1 by omega) with rfl | rfl
  · exact ⟨1, .inl rfl, at0⟩
  · exact ⟨-1, .inr rfl, at1⟩
theorem c_levelled {k : Nat} (hk : 6 ≤ k) {a s : Addr} {ns : List Int} {h : PH} {Q : QV} (d : DS a ns s h) (q : ∀ (t : Tb) (lev : PV) h', TW t → Dec t.edges t.over.length → DS a ns s h' → Kp [s] h h' → Q (.tup [t.P, lev]) h') : (wC cl k)._law_levelled [.ref s] h Q := by
  obtain ⟨k, rfl⟩ : ∃ j, k = j + 1 := ⟨k - 1, by omega⟩
  show zFn _ _ (b__law_levelled cl (wC cl k)) _ h Q
  unfold b__law_levelled
  have kz : ∀ z, keyOk false (.str z) = true := fun _ => rfl
  rw [zFn_x]
  refine ⟨rfl, ?_⟩
  refine zSeq_key (fun ρ' h' => ∃ (wl : Addr) (w0 w1 w2 w3 w4 w5 w6 : List Nat), ρ' = [some (.ref s), some (.ref wl), none, none, none, none, none, none] ∧ h' wl = some (.lst [.str w0, .str w1, .str w2, .str w3, .str w4, .str w5, .str w6]) ∧ wl ≠ s ∧ h wl = none ∧ [w3, w4, w5, w6].Nodup ∧ (∀ x ∈ [w3, w4, w5, w6], okS x = true) ∧ DS a ns s h' ∧ Kp [s] h h') ?_ fun X kx => ?_
  rotate_left
  · dsimp! []
    refine c_words (many := 7) (by omega) d (by omega) fun ws p h1 lw nd okw d1 f1 np => ?_
    dsimp! []
    match ws, lw with
    | [w0, w1, w2, w3, w4, w5, w6], _ =>
      have nph : h p = none := by rw [← f1 p (by simpa using d1.ne np)]; exact np
      refine kx _ _ ⟨p, w0, w1, w2, w3, w4, w5, w6, rfl, up_same, d1.ne np, nph, ?_, fun x hx => okw x ?_, d1.new np, f1.kp.new np⟩
      · simp only [List.nodup_cons, List.mem_cons, List.not_mem_nil, or_false, not_or, not_false_eq_true, List.nodup_nil, and_true] at nd ⊢
        exact nd.2.2.2
      · simp only [List.mem_cons, List.not_mem_nil, or_false] at hx ⊢
        rcases hx with rfl | rfl | rfl | rfl <;> simp
  rintro _ h1 ⟨wl, w0, w1, w2, w3, w4, w5, w6, rfl, ew, nws, nwh, nd, okw, d1, k1⟩
  have c35 : cut [PV.str w0, .str w1, .str w2, .str w3, .str w4, .str w5, .str w6] (some 3) (some 5) = [.str w3, .str w4] := rfl
  have c57 : cut [PV.str w0, .str w1, .str w2, .str w3, .str w4, .str w5, .str w6] (some 5) (some 7) = [.str w5, .str w6] := rfl
  have c03 : cut [PV.str w0, .str w1, .str w2, .str w3, .str w4, .str w5, .str w6] none (some 3) = [w0, w1, w2].map .str := rfl
  have c02 : cut [PV.str w0, .str w1, .str w2] none (some 2) = [w0, w1].map .str := rfl
  simp only [List.nodup_cons, List.mem_cons, List.not_mem_nil, or_false, not_or, not_false_eq_true, List.nodup_nil, and_true] at nd
  obtain ⟨⟨n34, n35, n36⟩, ⟨n45, n46⟩, n56⟩ := nd
  refine zSeq_key (fun ρ' h' => ρ' = [some (.ref s), some (.ref wl), some (.tup ([w0, w1, w2].map .str)), none, none, none, none, none] ∧ h' wl = some (.lst [.str w0, .str w1, .str w2, .str w3, .str w4, .str w5, .str w6]) ∧ DS a ns s h' ∧ Kp [s] h h') ?_ fun X kx => ?_
  rotate_left
  · dsimp! [ew, c03]
    intro p np
    dsimp! []
    exact kx _ _ ⟨rfl, by rw [up_ne (by rintro rfl; rw [ew] at np; cases np)]; exact ew, d1.new np, k1.new np⟩
  clear ew d1 k1
  rintro _ h2 ⟨rfl, ew, d2, k2⟩
  refine zSeq_key (fun ρ' h' => ∃ v : Int, (v = 2 ∨ v = 3) ∧ ρ' = [some (.ref s), some (.ref wl), some (.tup ([w0, w1, w2].map .str)), some (.int v), none, none, none, none] ∧ h' wl = some (.lst [.str w0, .str w1, .str w2, .str w3, .str w4, .str w5, .str w6]) ∧ DS a ns s h' ∧ Kp [s] h h') ?_ fun X kx => ?_
  rotate_left
  · dsimp! []
    refine c_draw (by omega) d2 (by omega) (by omega) fun v h3 v0 v1 d3 f3 => ?_
    dsimp! []
    exact kx _ _ ⟨2 + v, by omega, rfl, (f3 wl (by simpa using nws)).trans ew, d3, k2.trans f3.kp⟩
  clear ew d2 k2
  rintro _ h3 ⟨lev, hlev, rfl, ew, d3, k3⟩
  refine zSeq_key (fun ρ' h' => ∃ (over : List (List Nat)) (m : Nat) (r : Addr) (K : List RowsK) (x4 x6 x7 : Option PV), ρ' = [some (.ref s), some (.ref wl), some (.tup (over.map .str)), some (.int lev), x4, some (.ref r), x6, x7] ∧ over.length = m ∧ m ≤ 3 ∧ KOk m K ∧ DecK m K ∧ K.length ≤ 4 ∧
    h' r = some (.dic false none (K.map fun e => (.str e.1, .ref e.2.1))) ∧ (∀ e ∈ K, h' e.2.1 = some (.lst (e.2.2.map refP)) ∧ e.2.1 ≠ s) ∧ r ≠ s ∧ DS a ns s h' ∧ Kp [s] h h') ?_ fun X kx => ?_
  · rintro _ h4 ⟨over, m, r, K, x4, x6, x7, rfl, lo, hm, ko, dk, l4, er, el, rs, d4, k4⟩
    dsimp! []
    refine ⟨Nat.zero_le _, ?_⟩
    refine c_rules_by (by omega) ko d4 er rs el fun rs' h5 pm ro d5 k5 => ?_
    dsimp! []
    obtain ⟨tw, de⟩ := tw_of_k ko dk l4 lo hm pm ro
    exact ⟨Nat.zero_le _, by decide, by decide, _, G.Sub.refl _, q ⟨over, [], rs'⟩ (.int lev) h5 tw de d5 (k4.trans k5)⟩
  have ok3 := okw w3 (by simp)
  have ok4 := okw w4 (by simp)
  have ok5 := okw w5 (by simp)
  have ok6 := okw w6 (by simp)
  have sl : ∀ (m : Nat) (st : List (Nat × Int)), (setO (List.replicate m 0) st).length = m := fun m st => by rw [setO_len, List.length_replicate]
  rw [zIfS_x]
  rcases hlev with rfl | rfl
  · dsimp! [c02]
    refine c_draw (by omega) d3 (by omega) (by omega) fun v h4 v0 v1 d4 f4 => ?_
    have ew4 := (f4 wl (by simpa using nws)).trans ew
    have k4 := k3.trans f4.kp
    dsimp! [ew4, c35]
    intro p np
    refine ⟨by decide, fun l nl => ?_⟩
    have d5 := (d4.new np (o := .lst [.str w3, .str w4])).new nl (o := .lst [.int 1, .int (-1)])
    have k5 := (k4.new np (o := .lst [.str w3, .str w4])).new nl (o := .lst [.int 1, .int (-1)])
    have lp : p ≠ l := by rintro rfl; rw [up_same] at nl; cases nl
    have ps := d4.ne np
    have ls := (d4.new np (o := .lst [.str w3, .str w4])).ne nl
    have el : up (up h4 p (.lst [.str w3, .str w4])) l (.lst [.int 1, .int (-1)]) l = some (.lst [.int 1, .int (-1)]) := up_same
    have ep : up (up h4 p (.lst [.str w3, .str w4])) l (.lst [.int 1, .int (-1)]) p = some (.lst [.str w3, .str w4]) := by rw [up_ne lp, up_same]
    generalize up (up h4 p (.lst [.str w3, .str w4])) l (.lst [.int 1, .int (-1)]) = h5 at d5 k5 el ep ⊢
    refine c_draw (by omega) d5 (by omega) (by omega) fun u h6 u0 u1 d6 f6 => ?_
    have el6 := (f6 l (by simpa using ls)).trans el
    have ep6 := (f6 p (by simpa using ps)).trans ep
    have k6 := k5.trans f6.kp
    obtain ⟨sg, hsg, esg⟩ := sign_at u0 u1
    dsimp! [el6, esg]
    obtain ⟨ac, al, rfl, eal, hac, hal, hne⟩ : ∃ ac al : Nat, v = (ac : Int) ∧ 1 - v = (al : Int) ∧ ac < 2 ∧ al < 2 ∧ ac ≠ al := ⟨v.toNat, (1 - v).toNat, by omega, by omega, by omega, by omega, by omega⟩
    rw [eal]
    refine c_gadget (m := 2) (by omega) (by omega) hac hal n34 d6 ep6 fun r lx ly cx cy h7 gd nr nx ny rx ry xy er ex ey d7 k7 => ?_
    obtain ⟨g1, g2⟩ := gad_ok gd n34 hac hal hne hsg
    refine kx _ _ ⟨[w0, w1], 2, r, [(w3, lx, cx), (w4, ly, cy)], _, _, _, rfl, rfl, by omega, ⟨by simp, ?_, by simp [n34], ?_⟩, dec2 gd n34 hac hal hne hsg, by simp, er, ?_, d6.ne nr, d7, k6.trans k7⟩
    · intro e he
      simp only [List.mem_cons, List.not_mem_nil, or_false] at he
      rcases he with rfl | rfl
      · exact ok3
      · exact ok4
    · intro e he
      simp only [List.mem_cons, List.not_mem_nil, or_false] at he
      rcases he with rfl | rfl
      · exact ⟨by rw [g1.two]; decide, fun c hc => ⟨by rcases (g1.nms c hc).1 with z | z <;> rw [z] <;> assumption, (g1.nms c hc).2⟩⟩
      · exact ⟨by rw [g2.two]; decide, fun c hc => ⟨by rcases (g2.nms c hc).1 with z | z <;> rw [z] <;> assumption, (g2.nms c hc).2⟩⟩
    · intro e he
      simp only [List.mem_cons, List.not_mem_nil, or_false] at he
      rcases he with rfl | rfl
      · exact ⟨ex, d6.ne nx⟩
      · exact ⟨ey, d6.ne ny⟩
  · simp only [ztB_ok, z2_x, zVar_x, zC_x, List.getElem?_cons_succ, List.getElem?_cons_zero, Option.some.injEq, exists_eq_left', zEq_int, ztBI_b]
    rw [if_neg (by decide)]
    refine zSeq_key (fun ρ' h' => ∃ (ax : Addr) (z ac al : Nat), ρ' = [some (.ref s), some (.ref wl), some (.tup ([w0, w1, w2].map .str)), some (.int 3), none, none, some (.ref ax), none] ∧ z < 3 ∧ ac < 3 ∧ al < 3 ∧ z ≠ ac ∧ z ≠ al ∧ ac ≠ al ∧ ax ≠ s ∧ h' ax = some (.lst [.int (z : Nat), .int (ac : Nat), .int (al : Nat)]) ∧
      h' wl = some (.lst [.str w0, .str w1, .str w2, .str w3, .str w4, .str w5, .str w6]) ∧ DS a ns s h' ∧ Kp [s] h h') ?_ fun X kx => ?_
    rotate_left
    · dsimp! []
      refine ⟨by decide, fun l0 nl0 => ?_⟩
      have d4 := d3.new nl0 (o := .lst [.int 0, .int 1, .int 2])
      have ew4 := keep_new nl0 (x := .lst [.int 0, .int 1, .int 2]) _ _ ew
      have k4 := k3.new nl0 (o := .lst [.int 0, .int 1, .int 2])
      refine c_shuffled (by omega) (by decide) d4 up_same (d3.ne nl0) fun ys ax h5 pm d5 k5 nax eax => ?_
      obtain ⟨z, ac, al, rfl, hz, hac, hal, zc, za, hne⟩ := perm3 pm
      exact kx _ _ ⟨ax, z, ac, al, rfl, hz, hac, hal, zc, za, hne, d4.ne nax, eax, k5 _ _ (by simpa using nws) ew4, d5, k4.trans k5⟩
    rintro _ h5 ⟨ax, z, ac, al, rfl, hz, hac, hal, zc, za, hne, axs, eax, ew5, d5, kk5⟩
    refine zSeq_key (fun ρ' h' => ∃ (r lx ly : Addr) (cx cy : List (List Nat × List Int)), Gad 3 ac al 1 w3 w4 cx cy ∧ ρ' = [some (.ref s), some (.ref wl), some (.tup ([w0, w1, w2].map .str)), some (.int 3), none, some (.ref r), some (.ref ax), none] ∧ h5 r = none ∧ h5 lx = none ∧ h5 ly = none ∧ r ≠ lx ∧ r ≠ ly ∧ lx ≠ ly ∧
      h' r = some (.dic false none [(.str w3, .ref lx), (.str w4, .ref ly)]) ∧ h' lx = some (.lst (cx.map refP)) ∧ h' ly = some (.lst (cy.map refP)) ∧ DS a ns s h' ∧ Kp [s] h5 h') ?_ fun X kx => ?_
    rotate_left
    · dsimp! [ew5, c35]
      intro p np
      have eax6 := keep_new np (x := .lst [.str w3, .str w4]) _ _ eax
      dsimp! [eax6]
      refine c_gadget (m := 3) (by omega) (by omega) hac hal n34 (d5.new np) up_same fun r lx ly cx cy h7 gd nr nx ny rx ry xy er ex ey d7 k7 => ?_
      have un : ∀ {b : Addr}, up h5 p (.lst [.str w3, .str w4]) b = none → h5 b = none := fun {b} nb => by
        rw [up_ne (by rintro rfl; rw [up_same] at nb; cases nb)] at nb; exact nb
      exact kx _ _ ⟨r, lx, ly, cx, cy, gd, rfl, un nr, un nx, un ny, rx, ry, xy, er, ex, ey, d7, (kp_new np).trans k7⟩
    rintro _ h6 ⟨r, lx, ly, cx, cy, gd, rfl, nr, nx, ny, rx, ry, xy, er, ex, ey, d6, k6⟩
    have rs := d5.ne nr
    have xs := d5.ne nx
    have ys := d5.ne ny
    have ra := d5.nea nr
    have xa := d5.nea nx
    have rax : r ≠ ax := by rintro rfl; rw [eax] at nr; cases nr
    have rwl : r ≠ wl := by rintro rfl; rw [ew5] at nr; cases nr
    have xax : lx ≠ ax := by rintro rfl; rw [eax] at nx; cases nx
    have xwl : lx ≠ wl := by rintro rfl; rw [ew5] at nx; cases nx
    have h0 : ∀ {b : Addr}, b ≠ s → h5 b = none → h b = none := fun {b} bs nb => by
      cases e : h b with
      | none => rfl
      | some o => have := kk5 b o (by simpa using bs) e; rw [nb] at this; cases this
    have nrh := h0 rs nr
    have nxh := h0 xs nx
    have ew6 := k6 _ _ (by simpa using nws) ew5
    have eax6 := k6 _ _ (by simpa using axs) eax
    have kk6 := kk5.trans k6
    clear d5 ew5 eax kk5 k6 nr nx ny h0
    refine zSeq_key (fun ρ' h' => ∃ (r2 lu lv : Addr) (cu cv : List (List Nat × List Int)), Gad 3 ac al (-1) w5 w6 cu cv ∧ ρ' = [some (.ref s), some (.ref wl), some (.tup ([w0, w1, w2].map .str)), some (.int 3), none, some (.ref r), some (.ref ax), some (.ref r2)] ∧ h6 r2 = none ∧ h6 lu = none ∧ h6 lv = none ∧
      h' r2 = some (.dic false none [(.str w5, .ref lu), (.str w6, .ref lv)]) ∧ h' lu = some (.lst (cu.map refP)) ∧ h' lv = some (.lst (cv.map refP)) ∧ DS a ns s h' ∧ Kp [s] h6 h') ?_ fun X kx => ?_
    rotate_left
    · dsimp! [ew6, c57]
      intro p np
      have eax7 := keep_new np (x := .lst [.str w5, .str w6]) _ _ eax6
      dsimp! [eax7]
      refine c_gadget (m := 3) (by omega) (by omega) hac hal n56 (d6.new np) up_same fun r2 lu lv cu cv h7 gd2 nr2 nu nv _ _ _ er2 eu ev d7 k7 => ?_
      have un : ∀ {b : Addr}, up h6 p (.lst [.str w5, .str w6]) b = none → h6 b = none := fun {b} nb => by
        rw [up_ne (by rintro rfl; rw [up_same] at nb; cases nb)] at nb; exact nb
      exact kx _ _ ⟨r2, lu, lv, cu, cv, gd2, rfl, un nr2, un nu, un nv, er2, eu, ev, d7, (kp_new np).trans k7⟩
    rintro _ h7 ⟨r2, lu, lv, cu, cv, gd2, rfl, nr2, nu, nv, er2, eu, ev, d7, k7⟩
    have vs := d6.ne nv
    have r2r : r2 ≠ r := by rintro rfl; rw [er] at nr2; cases nr2
    have lvr : lv ≠ r := by rintro rfl; rw [er] at nv; cases nv
    have lvx : lv ≠ lx := by rintro rfl; rw [ex] at nv; cases nv
    have r2x : r2 ≠ lx := by rintro rfl; rw [ex] at nr2; cases nr2
    have ew7 := k7 _ _ (by simpa using nws) ew6
    have eax7 := k7 _ _ (by simpa using axs) eax6
    have er7 := k7 _ _ (by simpa using rs) er
    have ex7 := k7 _ _ (by simpa using xs) ex
    have ey7 := k7 _ _ (by simpa using ys) ey
    have kk7 := kk6.trans k7
    clear d6 ew6 eax6 kk6 k7 nr2 nu nv er ex ey
    have gu : dget [(PV.str w5, PV.ref lu), (PV.str w6, PV.ref lv)] (.str w5) = some (.ref lu) := by simp [dget]
    have gv' : dget [(PV.str w5, PV.ref lu), (PV.str w6, PV.ref lv)] (.str w6) = some (.ref lv) := by simp [dget, n56]
    have at5' : atI [PV.str w0, .str w1, .str w2, .str w3, .str w4, .str w5, .str w6] 5 = some (.str w5) := rfl
    have at6' : atI [PV.str w0, .str w1, .str w2, .str w3, .str w4, .str w5, .str w6] 6 = some (.str w6) := rfl
    have lcu : cu.length = 2 := (gad_ok gd2 n56 hac hal hne (.inr rfl)).1.two
    have lcx : cx.length = 2 := (gad_ok gd n34 hac hal hne (.inl rfl)).1.two
    refine zSeq_key (fun ρ' h' => ∃ lu2 : Addr, ρ' = [some (.ref s), some (.ref wl), some (.tup ([w0, w1, w2].map .str)), some (.int 3), none, some (.ref r), some (.ref ax), some (.ref r2)] ∧ h7 lu2 = none ∧ h' lu2 = some (.lst ((cu ++ [(w3, setO (List.replicate 3 0) [])]).map refP)) ∧
      h' r = some (.dic false none [(.str w3, .ref lx), (.str w4, .ref ly), (.str w5, .ref lu2)]) ∧ (∀ b o, b ≠ r → h7 b = some o → h' b = some o) ∧ DS a ns s h' ∧ Kp [s] h h') ?_ fun X kx => ?_
    rotate_left
    · dsimp! [ew7, at5', er2, kz, gu]
      refine ⟨Nat.zero_le _, fun e0 ne0 => ?_⟩
      refine c_cell_at (m := 3) (st := []) (by omega) (by omega) (by simp) up_same ?_
      generalize setO (List.replicate 3 (0 : Int)) [] = z0 at kx ⊢
      dsimp! []
      refine ⟨by decide, fun e1 ne1 => ?_⟩
      have kb : ∀ b o, h7 b = some o → up (up h7 e0 (.lst [])) e1 (.lst [refP (w3, z0)]) b = some o := fun b o e => keep_new ne1 _ _ (keep_new ne0 _ _ e)
      dsimp! [kb _ _ eu, List.length_map]
      refine ⟨by rw [sizeLine_eq]; omega, fun e2 ne2 => ?_⟩
      have kb2 : ∀ b o, h7 b = some o → up (up (up h7 e0 (.lst [])) e1 (.lst [refP (w3, z0)])) e2 (.lst (cu.map refP ++ [refP (w3, z0)])) b = some o := fun b o e => keep_new ne2 _ _ (kb b o e)
      have n2 : h7 e2 = none := by
        cases e : h7 e2 with
        | none => rfl
        | some o => have := kb _ _ e; rw [ne2] at this; cases this
      dsimp! [kb2 _ _ ew7, at5', kb2 _ _ er7, kz]
      have e2r : e2 ≠ r := by rintro rfl; rw [er7] at n2; cases n2
      refine ⟨by decide, kx _ _ ⟨e2, rfl, n2, by rw [up_ne e2r, up_same, List.map_append]; rfl, ?_, fun b o br e => by rw [up_ne br]; exact kb2 b o e, (((d7.new ne0).new ne1).new ne2).put ra rs, (((kk7.new ne0).new ne1).new ne2).put0 nrh⟩⟩
      rw [up_same]
      simp [dput, n35, n45]
    rintro _ h8 ⟨lu2, rfl, nu2, eu2, er8, o8, d8, k8⟩
    have ew8 := o8 _ _ (Ne.symm rwl) ew7
    have eax8 := o8 _ _ (Ne.symm rax) eax7
    have er28 := o8 _ _ r2r er2
    have ex8 := o8 _ _ (Ne.symm rx) ex7
    have ey8 := o8 _ _ (Ne.symm ry) ey7
    have ev8 := o8 _ _ lvr ev
    have u2s := d7.ne nu2
    have u2x : lu2 ≠ lx := by rintro rfl; rw [ex7] at nu2; cases nu2
    have u2r : lu2 ≠ r := by rintro rfl; rw [er7] at nu2; cases nu2
    clear d7 ew7 eax7 er7 ex7 ey7 kk7 er2 eu ev o8
    refine zSeq_key (fun ρ' h' => ρ' = [some (.ref s), some (.ref wl), some (.tup ([w0, w1, w2].map .str)), some (.int 3), none, some (.ref r), some (.ref ax), some (.ref r2)] ∧ h' = up h8 r (.dic false none [(.str w3, .ref lx), (.str w4, .ref ly), (.str w5, .ref lu2), (.str w6, .ref lv)])) ?_ fun X kx => ?_
    rotate_left
    · dsimp! [ew8, at6', er28, kz, gv', er8]
      have ed : dput [(PV.str w3, PV.ref lx), (PV.str w4, PV.ref ly), (PV.str w5, PV.ref lu2)] (.str w6) (.ref lv) = [(.str w3, .ref lx), (.str w4, .ref ly), (.str w5, .ref lu2), (.str w6, .ref lv)] := by simp [dput, n36, n46, n56]
      rw [ed]
      exact ⟨by decide, kx _ _ ⟨rfl, rfl⟩⟩
    rintro _ _ ⟨rfl, rfl⟩
    have g3 : dget [(PV.str w3, PV.ref lx), (PV.str w4, PV.ref ly), (PV.str w5, PV.ref lu2), (PV.str w6, PV.ref lv)] (.str w3) = some (.ref lx) := by simp [dget]
    have d9 : DS a ns s (up h8 r (.dic false none [(.str w3, .ref lx), (.str w4, .ref ly), (.str w5, .ref lu2), (.str w6, .ref lv)])) := d8.put ra rs
    have k9 : Kp [s] h (up h8 r (.dic false none [(.str w3, .ref lx), (.str w4, .ref ly), (.str w5, .ref lu2), (.str w6, .ref lv)])) := k8.put0 nrh
    have er9 : up h8 r (.dic false none [(.str w3, .ref lx), (.str w4, .ref ly), (.str w5, .ref lu2), (.str w6, .ref lv)]) r = some (.dic false none [(.str w3, .ref lx), (.str w4, .ref ly), (.str w5, .ref lu2), (.str w6, .ref lv)]) := up_same
    have o9 : ∀ b, b ≠ r → up h8 r (.dic false none [(.str w3, .ref lx), (.str w4, .ref ly), (.str w5, .ref lu2), (.str w6, .ref lv)]) b = h8 b := fun b nb => up_ne nb
    have ew9 := (o9 _ (Ne.symm rwl)).trans ew8
    have eax9 := (o9 _ (Ne.symm rax)).trans eax8
    have ex9 := (o9 _ (Ne.symm rx)).trans ex8
    have ey9 := (o9 _ (Ne.symm ry)).trans ey8
    have ev9 := (o9 _ lvr).trans ev8
    have eu9 := (o9 _ u2r).trans eu2
    generalize up h8 r (.dic false none [(.str w3, .ref lx), (.str w4, .ref ly), (.str w5, .ref lu2), (.str w6, .ref lv)]) = h9 at d9 k9 er9 ew9 eax9 ex9 ey9 ev9 eu9 ⊢
    clear d8 k8 er8 ew8 eax8 er28 ex8 ey8 ev8 eu2 o9
    dsimp! [ew9, at3, er9, kz, g3, ex9, at5', eax9, at0]
    refine ⟨by decide, fun l nl => ?_⟩
    have nls := d9.ne nl
    refine c_draw (by omega) (d9.new nl) (by omega) (by omega) fun u h10 u0 u1 d10 f10 => ?_
    have kk10 : Kp [s] h9 h10 := (kp_new nl).trans f10.kp
    have el10 : h10 l = some (.lst [.int 1, .int (-1)]) := (f10 l (by simpa using nls)).trans up_same
    obtain ⟨dz, hdz, edz⟩ := sign_at u0 u1
    dsimp! [el10, edz]
    refine ⟨by decide, by decide, fun l2 nl2 => ?_⟩
    have es : PV.tup [.int (z : Nat), .int dz] = stP (z, dz) := rfl
    refine c_cell_at (m := 3) (st := [(z, dz)]) (by omega) (by omega) (by simpa using hz) up_same ?_
    have kk11 : Kp [s] h9 (up h10 l2 (.lst [PV.tup [.int (z : Nat), .int dz]])) := kk10.new nl2
    have ex11 := kk11 _ _ (by simpa using xs) ex9
    dsimp! [ex11, List.length_map]
    refine ⟨by rw [sizeLine_eq]; omega, ?_⟩
    have gok1 := gad_ok gd n34 hac hal hne (.inl rfl)
    have gok2 := gad_ok gd2 n56 hac hal hne (.inr rfl)
    refine kx _ _ ⟨[w0, w1, w2], 3, r, [(w3, lx, cx ++ [(w5, setO (List.replicate 3 0) [(z, dz)])]), (w4, ly, cy), (w5, lu2, cu ++ [(w3, setO (List.replicate 3 0) [])]), (w6, lv, cv)], _, _, _, rfl, rfl, by omega, ⟨by simp, ?_, by simp [n34, n35, n36, n45, n46, n56], ?_⟩,
      dec3 gd gd2 (by simp [n34, n35, n36, n45, n46, n56]) hac hal hz hne zc za hdz, by simp, by rw [up_ne rx]; exact kk11 _ _ (by simpa using rs) er9, ?_, rs, (d10.new nl2).put xa xs, (k9.trans kk11).put0 nxh⟩
    · intro e he
      simp only [List.mem_cons, List.not_mem_nil, or_false] at he
      rcases he with rfl | rfl | rfl | rfl <;> assumption
    · have gg : ∀ {nm : List Nat} {x y : List Nat} {sg : Int} {cs : List (List Nat × List Int)}, okS x = true → okS y = true → GadOk 3 ac al sg x y nm cs → ∀ c ∈ cs, refM 3 c.1 c.2 := fun {nm x y sg cs} o1 o2 g c hc => ⟨by rcases (g.nms c hc).1 with z | z <;> rw [z] <;> assumption, (g.nms c hc).2⟩
      intro e he
      simp only [List.mem_cons, List.not_mem_nil, or_false] at he
      rcases he with rfl | rfl | rfl | rfl
      · refine ⟨by rw [List.length_append, gok1.1.two]; simp, fun c hc => ?_⟩
        rcases List.mem_append.mp hc with hc | hc
        · exact gg ok3 ok4 gok1.1 c hc
        · simp at hc; subst hc; exact ⟨ok5, by rw [setO_len]; rfl⟩
      · exact ⟨by rw [gok1.2.two]; decide, gg ok3 ok4 gok1.2⟩
      · refine ⟨by rw [List.length_append, gok2.1.two]; simp, fun c hc => ?_⟩
        rcases List.mem_append.mp hc with hc | hc
        · exact gg ok5 ok6 gok2.1 c hc
        · simp at hc; subst hc; exact ⟨ok3, by rw [setO_len]; rfl⟩
      · exact ⟨by rw [gok2.2.two]; decide, gg ok5 ok6 gok2.2⟩
    · intro e he
      simp only [List.mem_cons, List.not_mem_nil, or_false] at he
      rcases he with rfl | rfl | rfl | rfl
      · exact ⟨by rw [up_same, List.map_append]; rfl, xs⟩
      · exact ⟨by rw [up_ne (Ne.symm xy)]; exact kk11 _ _ (by simpa using ys) ey9, ys⟩
      · exact ⟨by rw [up_ne u2x]; exact kk11 _ _ (by simpa using u2s) eu9, u2s⟩
      · exact ⟨by rw [up_ne lvx]; exact kk11 _ _ (by simpa using vs) ev9, vs⟩

/-! ### told_table, planted_ring -/
theorem c_told_table {k : Nat} (hk : 10 ≤ k) {a s : Addr} {ns : List Int} {h : PH} {Q : QV} (d : DS a ns s h) (q : ∀ (t : Tb) h', TW t → Dec t.edges t.over.length → DS a ns s h' → Kp [s] h h' → Q t.P h') : (wC cl k)._law_told_table [.ref s] h Q := by
  obtain ⟨k, rfl⟩ : ∃ j, k = j + 1 := ⟨k - 1, by omega⟩
  show zFn _ _ (b__law_told_table cl (wC cl k)) _ h Q
  unfold b__law_told_table
  rw [zFn_x]
  refine ⟨rfl, ?_⟩
  refine zSeq_key (fun ρ' h' => ∃ v : Int, ρ' = [some (.ref s), some (.int v), none] ∧ DS a ns s h' ∧ Kp [s] h h') ?_ fun X kx => ?_
  rotate_left
  · dsimp! []
    refine c_draw (by omega) d (by omega) (by omega) fun v h1 _ _ d1 f1 => ?_
    dsimp! []
    exact kx _ _ ⟨v, rfl, d1, f1.kp⟩
  rintro _ h0 ⟨v, rfl, d0, k0⟩
  refine zSeq_key (fun ρ' h' => ρ' = [some (.ref s), some (.int v), none] ∧ h0 = h') ?_ fun X kx => ?_
  rotate_left
  · by_cases hv : v = 0
    · dsimp! [hv]
      refine c_levelled (by omega) d0 fun t lev h1 tw de d1 k1 => ?_
      dsimp! []
      exact ⟨_, G.Sub.refl _, q t h1 tw de d1 (k0.trans k1)⟩
    · dsimp! [hv]
      exact kx _ _ ⟨rfl, rfl⟩
  rintro _ _ ⟨rfl, rfl⟩
  dsimp! []
  refine c_draw (by omega) d0 (by omega) (by omega) fun x1 h1 a0 a1 d1 f1 => ?_
  dsimp! []
  refine c_draw (by omega) d1 (by omega) (by omega) fun x2 h2 b0 b1 d2 f2 => ?_
  dsimp! []
  refine c_draw (by omega) d2 (by omega) (by omega) fun x3 h3 c0 c1 d3 f3 => ?_
  obtain ⟨m, hm⟩ : ∃ m : Nat, 1 + x1 = (m : Int) := ⟨(1 + x1).toNat, by omega⟩
  obtain ⟨r, hr⟩ : ∃ m : Nat, 1 + x2 = (m : Int) := ⟨(1 + x2).toNat, by omega⟩
  obtain ⟨g, hg⟩ : ∃ m : Nat, x3 = (m : Int) := ⟨x3.toNat, by omega⟩
  rw [hm, hr, hg]
  refine c_table_world (by omega) d3 (by omega) (by omega) (by omega) fun over rn gn A0 kvs0 h4 l1 l2 l3 nd okk d4 w4 o4 hl4 k4 nw4 => ?_
  have ok0 : ({ over := over, many := m, rn := rn, gn := gn, most := 2, row := none, nums := fun _ => 0, least := 0, name := [] } : Wd).ok :=
    ⟨by show 1 ≤ m ∧ m ≤ 3; omega, ⟨by rintro (e : rn = []); rw [e] at l2; simp at l2; omega, by show rn.length ≤ 20; omega⟩, by show gn.length ≤ 20; omega, fun x hx => okk x (by simp at hx ⊢; right; left; exact hx), fun x hx => okk x (by simp at hx ⊢; right; right; exact hx), by show (0 : Int) ≤ 2 ∧ (2 : Int) ≤ 10; omega⟩
  have nwh0 : h0 A0.w = none := by
    have e : h3 A0.w = h0 A0.w := (f3 _ (by simpa using o4.w.1)).trans ((f2 _ (by simpa using o4.w.1)).trans (f1 _ (by simpa using o4.w.1)))
    rw [← e]; exact nw4
  have k04 : Kp [s] h0 h4 := ((f1.kp.trans f2.kp).trans f3.kp).trans k4
  dsimp! []
  refine c_with_row (by omega) ok0 d4 o4 w4 rfl (by omega) fun row nums A kvs h5 lrow eA o w5 hl5 d5 k5 => ?_
  rw [← eA] at k5 nwh0
  obtain ⟨W, hW⟩ : ∃ W : Wd, W = { over := over, many := m, rn := rn, gn := gn, most := 2, row := some row, nums := nums, least := -1, name := [] } := ⟨_, rfl⟩
  have w5' : WB W A h5 kvs := by rw [hW]; exact w5
  have ok : W.ok := by subst hW; exact ⟨ok0.many, ok0.rn, ok0.gn, ok0.rs, ok0.gs, ok0.most⟩
  have eov : W.over = over := by subst hW; rfl
  have ern : W.rn = rn := by subst hW; rfl
  have egn : W.gn = gn := by subst hW; rfl
  have emany : W.many = m := by subst hW; rfl
  have erow : W.row = some row := by subst hW; rfl
  have enums : W.nums = nums := by subst hW; rfl
  have eleast : W.least = -1 := by subst hW; rfl
  have lrow' : row.length = m := lrow
  rw [← eA]
  have k05 : Kp [s] h0 h5 := by
    intro b ob nb e
    refine k5 b ob ?_ (k04 b ob nb e)
    simp only [List.mem_cons, List.not_mem_nil, or_false, not_or] at nb ⊢
    exact ⟨nb, by rintro rfl; rw [nwh0] at e; cases e⟩
  clear hW w5 k5 k04 d4 w4 o4 k4 nw4 d1 d2 d3 f1 f2 f3 eA lrow
  dsimp! []
  refine c_rules_of (n := 2) (by omega) ok d5 o w5' (by omega) fun t h6 t1 t2 t3 t4 t5 d6 k6 => ?_
  have k06 : Kp [s] h0 h6 := by
    intro b ob nb e
    refine k6 b ob ?_ (k05 b ob nb e)
    simp only [List.mem_cons, List.not_mem_nil, or_false, not_or] at nb ⊢
    exact ⟨nb, by rintro rfl; rw [nwh0] at e; cases e⟩
  have lov : t.over.length = m := by rw [t1, eov, l1]
  have nmt : t.rs.map Row.name = rn := t3.trans ern
  have lrs : t.rs.length = r := by rw [← l2, ← nmt, List.length_map]
  have alt : ∀ r' ∈ t.rs, r'.e.Al (refM t.over.length) := fun r' hr' => by
    obtain ⟨_, _, z3⟩ := t5 r' hr'
    refine z3.mono fun x os hh => ?_
    rw [lov, ← emany]
    rcases hh with ⟨y1, y2, _⟩ | ⟨y1, y2, _⟩
    · exact ⟨ok.gs x y1, y2⟩
    · exact ⟨ok.rs x y1, y2⟩
  have rf : ∀ r' ∈ t.rs, r'.e.refs.length ≤ 16 := fun r' hr' => Nat.le_trans (refs_len r'.e) (Nat.pow_le_pow_right (n := 4) (by omega) (t5 r' hr').2.1)
  have tw : TW t := ⟨by omega, fun r' hr' => by have := (t5 r' hr').2.1; omega, fun x hx => by rw [t3] at hx; exact ok.rs x hx, alt, by omega, by have := edges_le rf; have : t.rs.length * 16 ≤ 3 * 16 := Nat.mul_le_mul_right _ (by omega); omega⟩
  have de : Dec t.edges t.over.length := by
    rw [lov, ← lrow']
    refine dec_row (nums := nums) (fun ed he => by rw [lrow', ← lov]; exact tw.off ed he) fun ed he => ?_
    obtain ⟨r', hr', e1, e2, e3⟩ := mem_edges he
    have hh := al_refs (t5 r' hr').2.2 _ e2
    rw [nmt] at e3
    rcases hh with ⟨y1, _⟩ | ⟨_, _, _, y4⟩
    · exfalso
      have y1' : ed.2.1 ∈ gn := egn ▸ y1
      rw [List.nodup_append] at nd
      have nd2 := nd.2.1
      rw [List.nodup_append] at nd2
      exact nd2.2.2 _ e3 _ y1' rfl
    · have := y4 row erow
      simp only [enums, eleast] at this
      rw [e1]
      omega
  exact ⟨_, G.Sub.refl _, q t h6 tw de d6 (k0.trans k06)⟩
def sB (es : List Ed) (x : List Nat) : PV → Bool
  | .int i => decide (srcE es i.toNat = x)
  | _ => false
theorem c_planted_ring {k : Nat} (hk : 13 ≤ k) {a s : Addr} {ns : List Int} {h : PH} {Q : QV} (d : DS a ns s h) (q : ∀ (t : Tb) (x : PV) h', TW t → DS a ns s h' → Kp [s] h h' → Q (.tup [t.P, x]) h') : (wC cl k)._law_planted_ring [.ref s] h Q := by
  obtain ⟨k, rfl⟩ : ∃ j, k = j + 1 := ⟨k - 1, by omega⟩
  show zFn _ _ (b__law_planted_ring cl (wC cl k)) _ h Q
  unfold b__law_planted_ring
  dsimp! []
  refine c_ring_table (by omega) d fun t h1 tw l3 sr d1 k1 => ?_
  dsimp! []
  refine c_own_edges (by omega) tw.n tw.dep tw.nm tw.ref fun f h2 nf k2 ef => ?_
  have d2 : DS a ns s h2 := by
    obtain ⟨z1, z2, z3, z4, z5, z6⟩ := d1
    exact ⟨z1, k2 _ _ (by simp) z2, z3, z4, z5, k2 _ _ (by simp) z6⟩
  have kk2 : Kp [s] h h2 := k1.trans fun b o _ e => k2 b o (by simp) e
  have few := tw.few
  obtain ⟨es, ees⟩ : ∃ es, es = t.edges := ⟨_, rfl⟩
  rw [← ees] at ef few sr
  unfold Tb.P
  dsimp! [ef, List.length_map]
  refine ⟨by decide, fun p np => ?_⟩
  have fp : f ≠ p := by rintro rfl; rw [ef] at np; cases np
  dsimp! [up_ne fp, ef, List.length_map]
  refine ⟨⟨by omega, by omega, by decide⟩, fun w nw => ?_⟩
  rw [rep_tI]
  refine lcP_V (fun _ => true) nameP (by rw [sizeLine_eq, List.length_map]; omega) (fun x hx R acc r => ?_) ?_
  · rw [if_pos rfl] at r
    obtain ⟨r', hr, rfl⟩ := List.mem_map.mp hx
    unfold Row.P at r ⊢
    dsimp! []
    exact r
  rw [List.filter_eq_self.mpr (by simp), List.map_map]
  intro D nD
  have e : t.rs.map (nameP ∘ Row.P) = (t.rs.map Row.name).map .str := by rw [List.map_map]; rfl
  rw [e]
  have fw : f ≠ w := by rintro rfl; rw [up_ne fp, ef] at nw; cases nw
  have fD : f ≠ D := by rintro rfl; rw [up_ne fw, up_ne fp, ef] at nD; cases nD
  have wD : w ≠ D := by rintro rfl; rw [up_same] at nD; cases nD
  have nw2 : h2 w = none := by
    have : w ≠ p := by rintro rfl; rw [up_same] at nw; cases nw
    rw [up_ne this] at nw; exact nw
  have nwh : h w = none := by
    cases e : h w with
    | none => rfl
    | some o => have := kk2 w o (by simpa using d2.ne nw2) e; rw [nw2] at this; cases this
  rw [zSeq_x]
  dsimp! [List.length_map]
  refine ⟨by have := tw.n; omega, by have := tw.n; omega, ?_⟩
  refine forW_R (fun i ρ' h' => ∃ (ws : List PV) (x5 : Option PV), ρ' = [some (.ref s), some t.P, some (.ref f), some (.ref w), some (.ref D), x5, none, none] ∧ ws.length = es.length ∧ h' w = some (.lst ws) ∧ h' f = some (.lst (es.map edP)) ∧ h' D = some (.lst ((t.rs.map Row.name).map .str)) ∧ DS a ns s h' ∧ Kp [s] h h')
    ⟨(List.replicate es.length 0).map .int, none, rfl, by simp, by rw [up_ne wD, up_same], by rw [up_ne fD, up_ne fw, up_ne fp]; exact ef, up_same, ((d2.new np).new nw).new nD, ((kk2.new np).new nw).new nD⟩ ?_ ?_
  · rintro i _ h3 hi ⟨ws, x5, rfl, lw, ew, ef3, eD, d3, k3⟩
    have hi' : i < t.rs.length := by omega
    have an : atI ((t.rs.map Row.name).map PV.str) (i : Int) = some (.str (t.rs[i].name)) := by rw [atN, List.getElem?_map, List.getElem?_map, List.getElem?_eq_getElem hi']; rfl
    dsimp! [Int.zero_add, ef3, List.length_map]
    refine ⟨by omega, by omega, ?_⟩
    refine lcP_R (sB es t.rs[i].name) (fun p => p) (by rw [sizeLine_eq]; omega) (fun x hx R acc r => ?_) ?_
    · have hx' : x < es.length := by omega
      rw [Int.zero_add] at r
      simp only [sB, Int.toNat_natCast, srcE_at hx'] at r
      dsimp! [Int.zero_add, ef3, atE hx', edP, eD, an]
      exact r
    · obtain ⟨ed, he, e1⟩ := sr t.rs[i].name (List.mem_map.mpr ⟨_, List.getElem_mem hi', rfl⟩)
      obtain ⟨j, hj, ej⟩ := List.getElem_of_mem he
      have mem : PV.int ((0 : Int) + (j : Nat)) ∈ (((List.range (es.length : Int).toNat).map fun i : Nat => PV.int ((0 : Int) + i)).filter (sB es t.rs[i].name)).map fun p => p := by
        rw [List.map_id'' (fun _ => rfl), List.mem_filter]
        refine ⟨List.mem_map.mpr ⟨j, List.mem_range.mpr (by omega), rfl⟩, ?_⟩
        simp only [sB, Int.zero_add, Int.toNat_natCast, srcE_at hj, ej, e1, decide_true]
      have all : ∀ p ∈ (((List.range (es.length : Int).toNat).map fun i : Nat => PV.int ((0 : Int) + i)).filter (sB es t.rs[i].name)).map fun p => p, ∃ j : Nat, j < es.length ∧ p = .int (j : Nat) := fun p hp => by
        rw [List.map_id'' (fun _ => rfl)] at hp
        obtain ⟨j, hj, rfl⟩ := List.mem_map.mp (List.mem_filter.mp hp).1
        have := List.mem_range.mp hj
        exact ⟨j, by omega, by rw [Int.zero_add]⟩
      generalize (((List.range (es.length : Int).toNat).map fun i : Nat => PV.int ((0 : Int) + i)).filter (sB es t.rs[i].name)).map (fun p => p) = L at mem all ⊢
      intro g ng
      have wg : w ≠ g := by rintro rfl; rw [ew] at ng; cases ng
      have fg : f ≠ g := by rintro rfl; rw [ef3] at ng; cases ng
      have Dg : D ≠ g := by rintro rfl; rw [eD] at ng; cases ng
      cases L with
      | nil => cases mem
      | cons p L =>
        obtain ⟨j2, hj2, rfl⟩ := all p List.mem_cons_self
        dsimp! [up_ne wg, ew, ixN_n (n := ws.length) (i := j2) (by omega)]
        refine ⟨_, G.Sub.refl _, ws.set j2 (.int 1), _, rfl, by rw [List.length_set]; exact lw, up_same, by rw [up_ne (Ne.symm (Ne.symm (fun z => fw z)))]; rw [up_ne fg]; exact ef3, by rw [up_ne (Ne.symm wD), up_ne Dg]; exact eD, (d3.new ng).put (d2.nea nw2) (d2.ne nw2), (k3.new ng).put0 nwh⟩
  · rintro _ h3 ⟨ws, x5, rfl, lw, ew, ef3, eD, d3, k3⟩
    dsimp! [ew]
    exact ⟨by decide, _, G.Sub.refl _, q t (.tup ws) h3 tw d3 k3⟩

/-! ### the law -/
theorem zIsN_b {a b : Bool} {h : PH} {Q : QV} : zIs true (.bl a) (.bl b) h Q = Q (.bl (!decide (a = b))) h := rfl
theorem walk_dat : ∀ w : List Nat, dats (w.map fun n : Nat => PV.int (n : Nat)) = true
  | [] => rfl
  | n :: w => by simp [K81.dats, K81.dat, walk_dat w]
theorem c_same_walk {k : Nat} (hk : 3 ≤ k) {w : List Nat} (hw : w.length ≤ 1000000) {h : PH} {Q : QV} (q : Q (.bl true) h) : (wC cl k)._law_same [walkP w, walkP w] h Q :=
  c_same 1 (walkP w) (by
    have := walk_dat w
    unfold walkP
    simp only [K81.dat, List.length_map, this, Bool.and_true]
    exact decide_eq_true hw) (by unfold walkP; simp only [PV.dp, (walk_pl w).2]; omega) (by omega) q
theorem ds_kp {a s : Addr} {ns : List Int} {h h' : PH} (d : DS a ns s h) (k : Kp [] h h') : DS a ns s h' := by
  obtain ⟨z1, z2, z3, z4, z5, z6⟩ := d
  exact ⟨z1, k _ _ (by simp) z2, z3, z4, z5, k _ _ (by simp) z6⟩
/-- one turn's table, whatever it is -/
structure TurnT (t : Tb) (i : Nat) : Prop where
  tw : TW t
  told : i = 2 → Dec t.edges t.over.length
theorem c_law {k : Nat} (hk : 18 ≤ k) {ns : List Int} (hn : ns.length ≤ 63) : (wC cl k).law [.scr ns] (fun _ => none) fun p _ => p = .bl true := by
  obtain ⟨k, rfl⟩ : ∃ j, k = j + 1 := ⟨k - 1, by omega⟩
  show zFn _ _ (b_law cl (wC cl k)) _ _ _
  unfold b_law
  rw [zFn_x]
  refine ⟨rfl, ?_⟩
  refine zSeq_key (fun ρ' h' => ∃ a s : Addr, ρ' = [some (.scr ns), some (.ref s), none, none, none, none, none] ∧ DS a ns s h') ?_ fun X kx => ?_
  rotate_left
  · dsimp! []
    refine c_start (by omega) hn fun a s h' d _ _ => ?_
    dsimp! []
    exact kx _ _ ⟨a, s, rfl, d⟩
  rintro _ h0 ⟨a, s, rfl, d0⟩
  rw [zSeq_x]
  dsimp! []
  refine ⟨by decide, by decide, ?_⟩
  refine forW_R (fun i ρ' h' => ∃ x2 x3 x4 x5 x6 : Option PV, ρ' = [some (.scr ns), some (.ref s), x2, x3, x4, x5, x6] ∧ DS a ns s h') ⟨none, none, none, none, none, rfl, d0⟩ ?_ ?_
  rotate_left
  · rintro _ h1 ⟨x2, x3, x4, x5, x6, rfl, d1⟩
    dsimp! []
    exact ⟨_, G.Sub.refl _⟩
  rintro i _ h1 hi ⟨x2, x3, x4, x5, x6, rfl, d1⟩
  have hi3 : i < 3 := by simpa using hi
  rw [zgName_x]
  refine zSeq_key (fun ρ' h' => ∃ t : Tb, TurnT t i ∧ ρ' = [some (.scr ns), some (.ref s), some (.int (i : Nat)), some t.P, x4, x5, x6] ∧ DS a ns s h') ?_ fun X kx => ?_
  rotate_left
  · dsimp! [Int.zero_add]
    refine c_star_table (by omega) d1 fun t1 h2 w1 d2 k2 => ?_
    dsimp! []
    refine c_planted_ring (by omega) d2 fun t2 wt h3 w2 d3 k3 => ?_
    dsimp! []
    refine c_told_table (by omega) d3 fun t3 h4 w3 e3 d4 k4 => ?_
    refine ⟨by decide, fun l nl => ?_⟩
    have d5 := d4.new nl (o := .lst [t1.P, t2.P, t3.P])
    rcases (show i = 0 ∨ i = 1 ∨ i = 2 by omega) with rfl | rfl | rfl
    · dsimp! [atN (α := PV) (i := 0)]
      exact kx _ _ ⟨t1, ⟨w1, fun z => absurd z (by decide)⟩, rfl, d5⟩
    · dsimp! [atN (α := PV) (i := 1)]
      exact kx _ _ ⟨t2, ⟨w2, fun z => absurd z (by decide)⟩, rfl, d5⟩
    · dsimp! [atN (α := PV) (i := 2)]
      exact kx _ _ ⟨t3, ⟨w3, fun _ => e3⟩, rfl, d5⟩
  rintro _ h2 ⟨t, tt, rfl, d2⟩
  have tw := tt.tw
  have off := tw.off
  dsimp! []
  refine c_own_edges (by omega) tw.n tw.dep tw.nm tw.ref fun f h3 nf k3 ef => ?_
  have d3 := ds_kp d2 k3
  have few := tw.few
  dsimp! []
  refine c_draw (by omega) d3 (by omega) (by omega) fun v h4 v0 v1 d4 f4 => ?_
  have fs : f ≠ s := d2.ne nf
  have ef4 := (f4 f (by simpa using fs)).trans ef
  obtain ⟨n, rfl⟩ : ∃ n : Nat, v = (n : Int) := ⟨v.toNat, by omega⟩
  have hn4 : n ≤ 4 := by omega
  dsimp! []
  refine ⟨Nat.zero_le _, ?_⟩
  refine zSeq_key (fun ρ' h' => ∃ o : Option (List Nat), o = lawR t.edges t.over.length n ((List.range t.edges.length).map fun k => [k]) ∧ ρ' = [some (.scr ns), some (.ref s), some (.int (i : Nat)), some t.P, some (.ref f), some (.int (n : Nat)), some (rwP o)] ∧ DS a ns s h' ∧ h' f = some (.lst (t.edges.map edP))) ?_ fun X kx => ?_
  rotate_left
  · dsimp! [ef4]
    refine ⟨Nat.zero_le _, fun l nl => ?_⟩
    have fl : f ≠ l := by rintro rfl; rw [ef4] at nl; cases nl
    have pe : PV.pls (t.edges.map edP) = true ∧ PV.dps (t.edges.map edP) ≤ 10 := by
      have hx : ∀ ed ∈ t.edges, okS ed.1 = true ∧ okS ed.2.1 = true := fun ed he => by
        obtain ⟨r, hr, e1, e2, _⟩ := mem_edges he
        exact ⟨by rw [e1]; exact tw.nm _ (List.mem_map.mpr ⟨r, hr, rfl⟩), tw.ref r hr _ e2⟩
      revert hx
      generalize t.edges = es
      intro hx
      induction es with
      | nil => exact ⟨rfl, by simp [PV.dps]⟩
      | cons ed es ih =>
        obtain ⟨i1, i2⟩ := ih fun x hx' => hx x (List.mem_cons_of_mem _ hx')
        obtain ⟨o1, o2⟩ := hx ed List.mem_cons_self
        have p1 := pls_strs (l := [ed.1, ed.2.1]) (by simp [o1, o2])
        have p2 : PV.pls (ed.2.2.map .int) = true ∧ PV.dps (ed.2.2.map .int) = 0 := by
          generalize ed.2.2 = os
          induction os with
          | nil => exact ⟨rfl, rfl⟩
          | cons x l ih => simp [PV.pls, PV.pl, PV.dps, PV.dp, ih.1, ih.2]
        have p3 : (PV.str ed.1).pl = true ∧ (PV.str ed.2.1).pl = true := ⟨dat_pl _ (okS_dat o1), dat_pl _ (okS_dat o2)⟩
        have p4 : (edP ed).pl = true := by
          unfold edP
          rw [PV.pl, PV.pls, PV.pls, PV.pls, PV.pls, p3.1, p3.2, PV.pl, p2.1]
          rfl
        refine ⟨by rw [List.map_cons, PV.pls, p4, i1]; rfl, ?_⟩
        have : (edP ed).dp ≤ 10 := by simp [edP, PV.dp, PV.dps, p2.2]
        rw [List.map_cons, PV.dps]
        omega
    have ne0 : ∀ (h : PH) (Q : QV), zNot zEq (.ref f) (.ref l) h Q = zNot zEq (.ref f) (.ref l) h Q := fun _ _ => rfl
    have hne : ∀ {h : PH} {Q : QV}, h f = some (.lst (t.edges.map edP)) → h l = some (.lst []) → Q (.bl (!decide (t.edges.map edP = []))) h → zNot zEq (.ref f) (.ref l) h Q := fun {h Q} e1 e2 r => by
      unfold zNot
      rw [zEq_r, e1, e2, zEqO_l]
      exact ⟨pe.1, rfl, by omega, by decide, r⟩
    refine hne (by rw [up_ne fl]; exact ef4) up_same ?_
    dsimp! []
    by_cases e : t.edges = []
    · rw [e, List.map_nil]
      dsimp! []
      refine kx _ _ ⟨some [], ?_, rfl, d4.new nl, by rw [up_ne fl, ef4, e]⟩
      have : ∀ n, lawR [] t.over.length n [] = some [] := fun n => by
        induction n with
        | zero => rfl
        | succ n ih => simp [lawR, longerW, ih]
      rw [e]
      exact (this n).symm
    · have e2 : decide (t.edges.map edP = []) = false := decide_eq_false fun z => e (List.map_eq_nil_iff.mp z)
      rw [e2]
      dsimp! []
      refine c_round_walks (by omega) off (by have := tw.ov; omega) few (by omega) (by rw [up_ne fl]; exact ef4) ?_
      exact kx _ _ ⟨_, rfl, rfl, d4.new nl, by rw [up_ne fl]; exact ef4⟩
  clear ef4 ef
  rintro _ h5 ⟨o, eo, rfl, d5, ef5⟩
  refine zSeq_key (fun ρ' h' => ρ' = [some (.scr ns), some (.ref s), some (.int (i : Nat)), some t.P, some (.ref f), some (.int (n : Nat)), some (rwP o)] ∧ DS a ns s h') ?_ fun X kx => ?_
  rotate_left
  · cases o with
    | none =>
      unfold rwP
      dsimp! []
      exact kx _ _ ⟨rfl, d5⟩
    | some due =>
      have lw := lawR_ok off eo.symm
      have ld : due.length ≤ 4 := by
        by_cases z : due = []
        · rw [z]; exact Nat.zero_le _
        · have := (lw.some z).1; omega
      have bo := bfs_ok TW.src lw
      have nn : decide (walkP due = .non) = false := rfl
      simp only [rwP]
      dsimp! [nn]
      rw [if_pos (by decide), zSeq_x]
      dsimp! []
      refine c_shortest_walk (by omega) tw.n tw.dep tw.nm tw.ref tw.ov off few hn4 fun r h6 k6 sh => ?_
      have er : r = due := sh.uniq bo
      subst er
      refine c_same_walk (by omega) (by omega) ?_
      have d6 := ds_kp d5 k6
      dsimp! []
      have wp := walk_pl r
      have hne : ∀ {h : PH} {Q : QV}, Q (.bl (!decide (walkP r = .tup []))) h → zNot zEq (walkP r) (.tup []) h Q := fun {h Q} r' => by
        unfold walkP at r' ⊢
        rw [zNe_tt]
        exact ⟨wp.1, rfl, by rw [wp.2]; decide, by decide, r'⟩
      refine ⟨Nat.zero_le _, hne ?_⟩
      dsimp! []
      by_cases z : r = []
      · subst z
        dsimp! [show decide (walkP [] = PV.tup []) = true from rfl]
        exact kx _ _ ⟨rfl, d6⟩
      · rw [walkP_ne z]
        dsimp! []
        obtain ⟨_, rd, _⟩ := lw.some z
        refine c_shows_walk (by omega) tw.n tw.dep tw.nm tw.ref tw.ov off z (by omega) rd fun h7 k7 => ?_
        dsimp! [zIsN_b]
        exact kx _ _ ⟨rfl, ds_kp d6 k7⟩
  rintro _ h6 ⟨rfl, d6⟩
  by_cases h2' : i = 2
  · subst h2'
    dsimp! []
    refine c_shortest_walk (n := 3) (by omega) tw.n tw.dep tw.nm tw.ref tw.ov off few (by omega) fun r h7 k7 sh => ?_
    have er : r = [] := Classical.byContradiction fun z => by
      obtain ⟨⟨x, _, ex⟩, _⟩ := sh.some z
      exact z (ex ▸ (tt.told rfl).from_ off x)
    subst er
    refine ⟨Nat.zero_le _, ?_⟩
    refine c_same_walk (w := []) (by omega) (by decide) ?_
    dsimp! []
    exact ⟨_, G.Sub.refl _, _, _, _, _, _, rfl, ds_kp d6 k7⟩
  · have : ¬ ((i : Int) = 2) := by omega
    dsimp! [this]
    exact ⟨_, G.Sub.refl _, _, _, _, _, _, rfl, d6⟩

end K81
end
theorem PySem.Challenge.cw_toldinwaves_k81_shortest_walks_holds : PySem.Challenge.rw_toldinwaves_k81_shortest_walks.Holds :=
  K81.holds 17 ⟨rfl, by decide, by decide⟩ fun a ns hn => K81.c_law (by decide) hn
