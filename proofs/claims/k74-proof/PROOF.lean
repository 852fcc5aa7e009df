import PyProof.Rows.All
import Wide.All
import OpenK.AllK
import Wide.FinOn
import Open.Row
import HandS.ForMost
import HandS.Deep
import HandS.DictComp
import HandS.SortRule
import HandS.Flow
import HandS.Style
import HandS.Conv
import KE.SortData
import KE.KDictKeyed
import HandS.TupAny
import HandS.TupMul
import HandS.Wide
import HandS.IsInst
import HandS.Text
import HandS.WordsDict
import HandS.RaiseMore
import PyProof.Rows.SeqRoads
import HandS.Iter
import KE.LtSeq
import KE.LtData
import HandS.SortOrd
import HandS.Defaults
import HandS.Ends
import HandS.Head0
import HandS.Head1
import HandS.Head2
import HandS.HeadEnd
import HandS.HeadHook1
import HandS.HeadHook2
import HandS.HeadHook3
import HandS.HeadHook4
import PySem.Challenge.RW_toldinwaves_k74_tidy_sums
set_option Elab.async false
set_option linter.all false
set_option maxRecDepth 100000
set_option maxHeartbeats 4000000
namespace G
open PySem PySem.Spec PyProof.Rows L2

/-! ### values as trees -/
inductive PV where
  | non | bl (b : Bool) | int (i : Int) | str (x : List Nat) | tup (xs : List PV) | ref (a : Addr) | scr (ns : List Int)
  deriving Inhabited

/-- a text by its codes -/
abbrev tS (x : List Nat) : Str := ⟨x.toArray⟩
theorem tS_inj {x y : List Nat} : tS x = tS y ↔ x = y := by
  constructor
  · intro h
    have := congrArg (fun s : Str => s.cps.toList) h
    simpa [tS] using this
  · rintro rfl; rfl
theorem tS_of (s : Str) : tS s.cps.toList = s := by cases s; simp [tS]

mutual
def PV.beq : PV → PV → Bool
  | .non, .non => true
  | .bl a, .bl b => a == b
  | .int a, .int b => a == b
  | .str a, .str b => a == b
  | .tup a, .tup b => PV.beqs a b
  | .ref a, .ref b => a == b
  | .scr a, .scr b => a == b
  | _, _ => false
def PV.beqs : List PV → List PV → Bool
  | [], [] => true
  | a :: as, b :: bs => PV.beq a b && PV.beqs as bs
  | _, _ => false
end
mutual
theorem PV.beq_iff : ∀ a b : PV, PV.beq a b = true ↔ a = b
  | .non, b => by cases b <;> simp [PV.beq]
  | .bl a, b => by cases b <;> simp [PV.beq]
  | .int a, b => by cases b <;> simp [PV.beq]
  | .str a, b => by cases b <;> simp [PV.beq]
  | .tup a, b => by
    cases b with
    | tup b => simp only [PV.beq, PV.tup.injEq]; exact PV.beqs_iff a b
    | _ => simp [PV.beq]
  | .ref a, b => by cases b <;> simp [PV.beq]
  | .scr a, b => by cases b <;> simp [PV.beq]
theorem PV.beqs_iff : ∀ a b : List PV, PV.beqs a b = true ↔ a = b
  | [], b => by cases b <;> simp [PV.beqs]
  | a :: as, b => by
    cases b with
    | nil => simp [PV.beqs]
    | cons b bs => simp only [PV.beqs, Bool.and_eq_true, List.cons.injEq]; rw [PV.beq_iff a b, PV.beqs_iff as bs]
end
instance : DecidableEq PV := fun a b => if h : PV.beq a b = true then isTrue ((PV.beq_iff a b).mp h) else isFalse fun e => h ((PV.beq_iff a b).mpr e)

/-- what stands at an address that may change -/
inductive PO where
  | lst (xs : List PV)
  /-- a dict; t: its keys are tuples, else whole numbers and texts; l: locked while it is walked -/
  | dic (t : Bool) (l : Option (Obj × HO)) (kvs : List (PV × PV))
  deriving Inhabited
abbrev PH := Addr → Option PO
def up (h : PH) (a : Addr) (o : PO) : PH := fun b => if b = a then some o else h b
theorem up_same {h : PH} {a : Addr} {o : PO} : up h a o a = some o := by unfold up; rw [if_pos rfl]
theorem up_ne {h : PH} {a b : Addr} {o : PO} (e : b ≠ a) : up h a o b = h b := by unfold up; rw [if_neg e]
theorem up_up {h : PH} {a : Addr} {o u : PO} : up (up h a o) a u = up h a u := by funext b; unfold up; split <;> rfl
def Sub (h g : PH) : Prop := ∀ a o, h a = some o → g a = some o
theorem Sub.refl (h : PH) : Sub h h := fun _ _ e => e
theorem Sub.trans {a b c : PH} (x : Sub a b) (y : Sub b c) : Sub a c := fun p o e => y p o (x p o e)

/-- a key of a dict: a whole number, a text -/
def kP : Key → PV
  | .inl i => .int i
  | .inr x => .str x.cps.toList
mutual
/-- a key that is a tuple -/
def nk : PV → Option NestedKey
  | .non => some .none
  | .int i => some (.num i)
  | .str x => some (.text (tS x))
  | .tup ps => (nks ps).map .tup
  | _ => none
def nks : List PV → Option (List NestedKey)
  | [] => some []
  | p :: ps => match nk p, nks ps with
    | some k, some ks => some (k :: ks)
    | _, _ => none
end
/-- the dict at a, its entries as they stand in the heap -/
def dphi (P : Program) (w : World) (a : Addr) (xs : List (NestedKey × Addr × Value)) (h : Heap) : Prop :=
  (a == sysModules) = false ∧ xs.length ≤ sizeLine ∧ ∃ o es ep, h.get? a = some o ∧ o.ExactDict ∧ o.data = .dict es ep ∧ es.toList = xs.map (entryOfKey (nestedKind P w)) ∧ (xs.map (·.1)).Nodup

section
variable (K : PySem.W.Frag)
/-- the script: read, never written -/
def FzL (H : Hp) (a : Addr) (xs : List V) : Prop := (∃ o, H a = some (.frz o (.lst xs))) ∨
    ∃ (o : Obj) (its : Array Value) (n : Nat), K.lookup a = some o ∧ o.cls = .type "list" ∧ o.dict = none ∧ o.data = .seq its n ∧ its.size ≤ sizeLine ∧ Vals xs its.toList
mutual
/-- the value v stands for the tree -/
inductive RV (H : Hp) : V → PV → Prop
  | non : RV H .non .non
  | bl (b : Bool) : RV H (.bl b) (.bl b)
  | int (i : Int) : RV H (.int i) (.int i)
  | str (x : List Nat) : RV H (.str (tS x)) (.str x)
  | tup {a : Addr} {xs : List V} {ps : List PV} : SqT K H a xs → xs.length ≤ sizeLine → RVs H xs ps → RV H (.ref a) (.tup ps)
  | ref (a : Addr) : RV H (.ref a) (.ref a)
  | scr {a : Addr} {ns : List Int} : FzL K H a (ns.map V.int) → ns.length ≤ 63 → RV H (.ref a) (.scr ns)
inductive RVs (H : Hp) : List V → List PV → Prop
  | nil : RVs H [] []
  | cons {v : V} {vs : List V} {p : PV} {ps : List PV} : RV H v p → RVs H vs ps → RVs H (v :: vs) (p :: ps)
end
end
section
variable {K : PySem.W.Frag} {H H' : Hp}
theorem FzL.sq {a : Addr} {xs : List V} (h : FzL K H a xs) : SqL K H a xs := by
  rcases h with h | h
  · exact .inl (.inr h)
  · exact .inr h
theorem RVs.length : ∀ {vs : List V} {ps : List PV}, RVs K H vs ps → vs.length = ps.length
  | _, _, .nil => rfl
  | _, _, .cons _ t => congrArg (· + 1) (RVs.length t)
theorem RVs.get : ∀ {vs : List V} {ps : List PV} {i : Nat} {p : PV}, RVs K H vs ps → ps[i]? = some p → ∃ v, vs[i]? = some v ∧ RV K H v p
  | _, _, _, _, .nil, e => by simp at e
  | _, _, 0, _, .cons r _, e => by simp at e; subst e; exact ⟨_, rfl, r⟩
  | _, _, i + 1, p, .cons _ t, e => by
    obtain ⟨v, h1, h2⟩ := RVs.get (i := i) (p := p) t (by simpa using e)
    exact ⟨v, by simpa using h1, h2⟩
theorem RVs.getV : ∀ {vs : List V} {ps : List PV} {i : Nat} {v : V}, RVs K H vs ps → vs[i]? = some v → ∃ p, ps[i]? = some p ∧ RV K H v p
  | _, _, _, _, .nil, e => by simp at e
  | _, _, 0, _, .cons r _, e => by simp at e; subst e; exact ⟨_, rfl, r⟩
  | _, _, i + 1, p, .cons _ t, e => by
    obtain ⟨v, h1, h2⟩ := RVs.getV (i := i) (v := p) t (by simpa using e)
    exact ⟨v, by simpa using h1, h2⟩
theorem RVs.append : ∀ {xs ys : List V} {ps qs : List PV}, RVs K H xs ps → RVs K H ys qs → RVs K H (xs ++ ys) (ps ++ qs)
  | _, _, _, _, .nil, s => s
  | _, _, _, _, .cons r t, s => .cons r (RVs.append t s)
theorem RVs.take : ∀ {xs : List V} {ps : List PV} (n : Nat), RVs K H xs ps → RVs K H (xs.take n) (ps.take n)
  | _, _, 0, _ => .nil
  | _, _, _ + 1, .nil => .nil
  | _, _, n + 1, .cons r t => .cons r (RVs.take n t)
theorem RVs.drop : ∀ {xs : List V} {ps : List PV} (n : Nat), RVs K H xs ps → RVs K H (xs.drop n) (ps.drop n)
  | _, _, 0, r => r
  | _, _, _ + 1, .nil => .nil
  | _, _, n + 1, .cons _ t => RVs.drop n t
theorem RVs.set {v : V} {p : PV} (r : RV K H v p) : ∀ {xs : List V} {ps : List PV} (i : Nat), RVs K H xs ps → RVs K H (xs.set i v) (ps.set i p)
  | _, _, _, .nil => .nil
  | _, _, 0, .cons _ t => .cons r t
  | _, _, i + 1, .cons q t => .cons q (RVs.set r i t)
theorem RVs.reverse : ∀ {xs : List V} {ps : List PV}, RVs K H xs ps → RVs K H xs.reverse ps.reverse
  | _, _, .nil => .nil
  | _, _, .cons r t => by simpa using RVs.append (RVs.reverse t) (.cons r .nil)
theorem RVs.ints : ∀ {ns : List Int}, RVs K H (ns.map V.int) (ns.map PV.int)
  | [] => .nil
  | n :: ns => .cons (.int n) RVs.ints
end

/-- an entry of a dict with tuples as keys -/
def EntT (K : PySem.W.Frag) (H : Hp) (kv : PV × PV) (x : NestedKey × Addr × Value) : Prop := nk kv.1 = some x.1 ∧ x.1.depth ≤ 8 ∧ RV K H (.ref x.2.1) kv.1 ∧ ∃ v, RelV v x.2.2 ∧ RV K H v kv.2
def EntK (K : PySem.W.Frag) (H : Hp) (kv : PV × PV) (x : Key × V) : Prop := kv.1 = kP x.1 ∧ RV K H x.2 kv.2
/-- u stands at a, locked or not -/
def LkAt (H : Hp) (a : Addr) (l : Option (Obj × HO)) (u : HO) : Prop := match l with
  | none => H a = some u
  | some (o, u') => u' = u ∧ H a = some (.frz o u)
theorem LkAt.rd {H : Hp} {a : Addr} {l : Option (Obj × HO)} {u : HO} (h : LkAt H a l u) : Rd H a u := by
  cases l with
  | none => exact .inl h
  | some x => exact .inr ⟨_, h.2⟩
theorem LkAt.keep {H H' : Hp} {a : Addr} {l : Option (Obj × HO)} {u : HO} (e : H' a = H a) (h : LkAt H a l u) : LkAt H' a l u := by
  cases l with
  | none => exact e.trans h
  | some x => exact ⟨h.1, e.trans h.2⟩
section
variable (P : Program) (w : World) (K : PySem.W.Frag)
/-- what is tracked as it is in the trees' heap -/
def RO (H : Hp) (a : Addr) : PO → Prop
  | .lst ps => ∃ xs, H a = some (.lst xs) ∧ xs.length ≤ sizeLine ∧ RVs K H xs ps
  | .dic false l kvs => ∃ ds : List (Key × V), LkAt H a l (.dK ds) ∧ kvs.length ≤ sizeLine ∧ Paired (EntK K H) kvs ds
  | .dic true l kvs => ∃ xs : List (NestedKey × Addr × Value), LkAt H a l (.ext (dphi P w a xs)) ∧ kvs.length ≤ sizeLine ∧ Paired (EntT K H) kvs xs
def RH (H : Hp) (h : PH) : Prop := ∀ a o, h a = some o → RO P w K H a o
end
/-- what is tracked but not in the trees' heap stays so -/
def Stp (h : PH) (H : Hp) (h' : PH) (H' : Hp) : Prop := ∀ b o, H b = some o → h b = none → H' b = some o ∧ h' b = none
theorem Stp.refl (h : PH) (H : Hp) : Stp h H h H := fun _ _ e n => ⟨e, n⟩
theorem Stp.trans {h h1 h2 : PH} {H H1 H2 : Hp} (x : Stp h H h1 H1) (y : Stp h1 H1 h2 H2) : Stp h H h2 H2 := fun b o e n =>
  let ⟨e1, n1⟩ := x b o e n
  y b o e1 n1
section
variable {P : Program} {w : World} {K : PySem.W.Frag} {H H' : Hp}
theorem RH.mut {h : PH} (r : RH P w K H h) {a : Addr} {o : PO} (e : h a = some o) : ∃ u, H a = some u ∧ (∀ xs, u ≠ .tup xs) ∧ ∀ ob xs, u ≠ .frz ob (.tup xs) ∧ u ≠ .frz ob (.lst xs) := by
  have q := r a o e
  have lk : ∀ {l u}, LkAt H a l u → (∀ xs, u ≠ .tup xs) → (∀ ob w, u ≠ .frz ob w) → (∀ xs, u ≠ .lst xs) → ∃ u, H a = some u ∧ (∀ xs, u ≠ .tup xs) ∧ ∀ ob xs, u ≠ .frz ob (.tup xs) ∧ u ≠ .frz ob (.lst xs) := fun {l u} x h1 h2 h3 => by
    cases l with
    | none => exact ⟨u, x, h1, fun ob xs => ⟨h2 _ _, h2 _ _⟩⟩
    | some y =>
      refine ⟨_, x.2, (fun _ z => nomatch z), fun ob xs => ⟨fun z => ?_, fun z => ?_⟩⟩
      · cases z; exact h1 _ rfl
      · cases z; exact h3 _ rfl
  cases o with
  | lst ps => obtain ⟨xs, e1, _⟩ := q; exact ⟨_, e1, (fun _ z => nomatch z), (fun _ _ => ⟨(fun z => nomatch z), (fun z => nomatch z)⟩)⟩
  | dic t l kvs =>
    cases t
    · obtain ⟨xs, e1, _⟩ := q; exact lk e1 (fun _ z => nomatch z) (fun _ _ z => nomatch z) (fun _ z => nomatch z)
    · obtain ⟨xs, e1, _⟩ := q; exact lk e1 (fun _ z => nomatch z) (fun _ _ z => nomatch z) (fun _ z => nomatch z)
theorem RH.free {h : PH} (r : RH P w K H h) {p : Addr} (n : H p = none) : h p = none := by
  cases e : h p with
  | none => rfl
  | some o => obtain ⟨u, e1, _⟩ := r.mut e; rw [n] at e1; cases e1
theorem RH.noTup {h : PH} (r : RH P w K H h) {p : Addr} {xs : List V} (n : H p = some (.tup xs)) : h p = none := by
  cases e : h p with
  | none => rfl
  | some o => obtain ⟨u, e1, e2, _⟩ := r.mut e; rw [n] at e1; cases e1; exact absurd rfl (e2 _)
theorem RH.noFrz {h : PH} (r : RH P w K H h) {p : Addr} {ob : Obj} {xs : List V} (n : H p = some (.frz ob (.tup xs))) : h p = none := by
  cases e : h p with
  | none => rfl
  | some o => obtain ⟨u, e1, _, e2⟩ := r.mut e; rw [n] at e1; cases e1; exact absurd rfl (e2 _ _).1
theorem RH.noFrzL {h : PH} (r : RH P w K H h) {p : Addr} {ob : Obj} {xs : List V} (n : H p = some (.frz ob (.lst xs))) : h p = none := by
  cases e : h p with
  | none => rfl
  | some o => obtain ⟨u, e1, _, e2⟩ := r.mut e; rw [n] at e1; cases e1; exact absurd rfl (e2 _ _).2
theorem RH.sub {h g : PH} (r : RH P w K H h) (s : Sub g h) : RH P w K H g := fun a o e => r a o (s a o e)
theorem SqT.stp {h h' : PH} (r : RH P w K H h) (s : Stp h H h' H') {a : Addr} {xs : List V} (q : SqT K H a xs) : SqT K H' a xs := by
  rcases q with (q | ⟨o, q⟩) | q
  · exact .inl (.inl (s a _ q (r.noTup q)).1)
  · exact .inl (.inr ⟨o, (s a _ q (r.noFrz q)).1⟩)
  · exact .inr q
mutual
theorem RV.stp {h h' : PH} (r : RH P w K H h) (s : Stp h H h' H') : ∀ {v : V} {p : PV}, RV K H v p → RV K H' v p
  | _, _, .non => .non
  | _, _, .bl b => .bl b
  | _, _, .int i => .int i
  | _, _, .str x => .str x
  | _, _, .tup q hl rs => .tup (SqT.stp r s q) hl (RVs.stp r s rs)
  | _, _, .ref a => .ref a
  | _, _, .scr q hl => by
    rcases q with ⟨o, q⟩ | q
    · exact .scr (.inl ⟨o, (s _ _ q (r.noFrzL q)).1⟩) hl
    · exact .scr (.inr q) hl
theorem RVs.stp {h h' : PH} (r : RH P w K H h) (s : Stp h H h' H') : ∀ {vs : List V} {ps : List PV}, RVs K H vs ps → RVs K H' vs ps
  | _, _, .nil => .nil
  | _, _, .cons q t => .cons (RV.stp r s q) (RVs.stp r s t)
end
/-- an object that stays -/
theorem RO.keep {h h' : PH} (r : RH P w K H h) (s : Stp h H h' H') {a : Addr} {o : PO} (e : H' a = H a) (x : RO P w K H a o) : RO P w K H' a o := by
  cases o with
  | lst ps => obtain ⟨xs, e1, l, q⟩ := x; exact ⟨xs, e.trans e1, l, q.stp r s⟩
  | dic t lk kvs =>
    cases t
    · obtain ⟨ds, e1, l, q⟩ := x
      exact ⟨ds, e1.keep e, l, Paired.mapP q fun _ _ z => ⟨z.1, z.2.stp r s⟩⟩
    · obtain ⟨xs, e1, l, q⟩ := x
      exact ⟨xs, e1.keep e, l, Paired.mapP q fun _ _ ⟨z1, z2, z3, v, z4, z5⟩ => ⟨z1, z2, z3.stp r s, v, z4, z5.stp r s⟩⟩
/-- a new object -/
theorem stp_new {h : PH} {p : Addr} {o : HO} {u : PO} (r : RH P w K H h) (n : H p = none) : Stp h H (up h p u) (upd H p o) := fun b x e nb => by
  have hb : b ≠ p := fun z => by rw [z, n] at e; cases e
  exact ⟨by rw [upd_ne hb]; exact e, by rw [up_ne hb]; exact nb⟩
theorem stp_new0 {h : PH} {p : Addr} {o : HO} (n : H p = none) : Stp h H h (upd H p o) := fun b x e nb => by
  have hb : b ≠ p := fun z => by rw [z, n] at e; cases e
  exact ⟨by rw [upd_ne hb]; exact e, nb⟩
/-- an object written -/
theorem stp_set {h : PH} {p : Addr} {o : HO} {u u0 : PO} (e0 : h p = some u0) : Stp h H (up h p u) (upd H p o) := fun b x e nb => by
  have hb : b ≠ p := fun z => by rw [z, e0] at nb; cases nb
  exact ⟨by rw [upd_ne hb]; exact e, by rw [up_ne hb]; exact nb⟩
theorem RH.put {h : PH} {p : Addr} {o : HO} {u : PO} (r : RH P w K H h) (s : Stp h H (up h p u) (upd H p o)) (x : RO P w K (upd H p o) p u) : RH P w K (upd H p o) (up h p u) := fun a v e => by
  by_cases ha : a = p
  · subst ha; rw [up_same] at e; cases e; exact x
  · rw [up_ne ha] at e
    exact (r a v e).keep r s (upd_ne ha)
theorem RH.new0 {h : PH} {p : Addr} {o : HO} (r : RH P w K H h) (n : H p = none) : RH P w K (upd H p o) h := fun a v e => by
  have ha : a ≠ p := fun z => by
    subst z
    rw [r.free n] at e; cases e
  exact (r a v e).keep r (stp_new0 n) (upd_ne ha)
end
end G

namespace G
open PySem PySem.Spec PyProof.Rows L2

/-! ### readings over trees -/
abbrev Ev := List (Option PV)
abbrev QV := PV → PH → Prop
abbrev ZE := Ev → PH → QV → Prop
abbrev ZA := Ev → PH → (List PV → PH → Prop) → Prop
abbrev ZT := Ev → PH → (Bool → PH → Prop) → Prop
abbrev Z2 := PV → PV → PH → QV → Prop
abbrev ZC := List PV → PH → QV → Prop

def RS (K : PySem.W.Frag) (H : Hp) (σ : L2.St) (ρ : Ev) : Prop := σ.length = ρ.length ∧ ∀ (i : Nat) (p : PV), ρ[i]? = some (some p) → ∃ v, σ[i]? = some (some v) ∧ RV K H v p

section
variable (P : Program) (w : World) (K : PySem.W.Frag)
/-- from a tree's continuation to the values' -/
def Thn (h : PH) (H : Hp) (Qp : QV) (Q : VK) : Prop := ∀ p h', Qp p h' → ∀ v H', Stp h H h' H' → RV K H' v p → RH P w K H' h' → Q v H'
def LE (t : ZE) : TE := fun σ H Q => ∃ ρ h Qp, RS K H σ ρ ∧ RH P w K H h ∧ t ρ h Qp ∧ Thn P w K h H Qp Q
def LA (t : ZA) : TA := fun σ H Q => ∃ ρ h Qp, RS K H σ ρ ∧ RH P w K H h ∧ t ρ h Qp ∧ ∀ ps h', Qp ps h' → ∀ vs H', Stp h H h' H' → RVs K H' vs ps → RH P w K H' h' → Q vs H'
def LT (t : ZT) : TT := fun σ H Q => ∃ ρ h Qp, RS K H σ ρ ∧ RH P w K H h ∧ t ρ h Qp ∧ ∀ b h', Qp b h' → ∀ H', Stp h H h' H' → RH P w K H' h' → Q b H'
def L2r (r : Z2) : R2 := fun x y H Q => ∃ a b h Qp, RV K H x a ∧ RV K H y b ∧ RH P w K H h ∧ r a b h Qp ∧ Thn P w K h H Qp Q
def LC (r : ZC) : List V → Hp → VK → Prop := fun xs H Q => ∃ ps h Qp, RVs K H xs ps ∧ RH P w K H h ∧ r ps h Qp ∧ Thn P w K h H Qp Q
def LU (r : PV → PH → QV → Prop) : V → Hp → VK → Prop := fun x H Q => ∃ a h Qp, RV K H x a ∧ RH P w K H h ∧ r a h Qp ∧ Thn P w K h H Qp Q
end
abbrev QE (X : Cx) (e : Expr) (t : ZE) : Prop := PE X e (LE X.prog X.w X.K t)
abbrev QA (X : Cx) (es : List Expr) (t : ZA) : Prop := PA X es (LA X.prog X.w X.K t)
abbrev QT (X : Cx) (e : Expr) (t : ZT) : Prop := PT X e (LT X.prog X.w X.K t)
abbrev QO (X : Cx) (f : Value → Value → Sem Value) (r : Z2) : Prop := OpR X f (L2r X.prog X.w X.K r)
abbrev QC (X : Cx) (f : Value) (r : ZC) : Prop := CallR X f (LC X.prog X.w X.K r)

theorem peI {X : Cx} {e : Expr} {t t' : TE} (h : PE X e t) (i : ∀ σ H Q, t' σ H Q → t σ H Q) : PE X e t' := ⟨fun pins s σ H Q I q => h.run pins s σ H Q I (i σ H Q q)⟩
theorem ptI {X : Cx} {e : Expr} {t t' : TT} (h : PT X e t) (i : ∀ σ H Q, t' σ H Q → t σ H Q) : PT X e t' := ⟨fun pins s σ H Q I q => h.run pins s σ H Q I (i σ H Q q)⟩
theorem paI {X : Cx} {e : List Expr} {t t' : TA} (h : PA X e t) (i : ∀ σ H Q, t' σ H Q → t σ H Q) : PA X e t' := ⟨fun pos pins s σ H Q I q => h.run pos pins s σ H Q I (i σ H Q q)⟩
theorem opI {X : Cx} {f : Value → Value → Sem Value} {r r' : R2} (h : OpR X f r) (i : ∀ x y H Q, r' x y H Q → r x y H Q) : OpR X f r' := fun pins s σ H x y v u Q I rx ry q => h pins s σ H x y v u Q I rx ry (i x y H Q q)

section
variable {P : Program} {w : World} {K : PySem.W.Frag} {H H' : Hp} {h h' : PH} {σ : L2.St} {ρ : Ev}
theorem RS.stp (rs : RS K H σ ρ) (rh : RH P w K H h) (s : Stp h H h' H') : RS K H' σ ρ := ⟨rs.1, fun i p e => let ⟨v, a, b⟩ := rs.2 i p e; ⟨v, a, b.stp rh s⟩⟩
theorem RS.set (rs : RS K H σ ρ) {v : V} {p : PV} (r : RV K H v p) (i : Nat) : RS K H (σ.set i (some v)) (ρ.set i (some p)) := by
  refine ⟨by rw [List.length_set, List.length_set]; exact rs.1, fun j q e => ?_⟩
  by_cases hj : i = j
  · subst hj
    by_cases hi : i < ρ.length
    · rw [List.getElem?_set_self hi] at e
      have e' : p = q := by simpa using e
      subst e'
      exact ⟨v, by rw [List.getElem?_set_self (by rw [rs.1]; exact hi)], r⟩
    · rw [List.getElem?_eq_none (by simpa using hi)] at e; cases e
  · rw [List.getElem?_set_ne hj] at e
    obtain ⟨v', a, b⟩ := rs.2 j q e
    exact ⟨v', by rw [List.getElem?_set_ne hj]; exact a, b⟩
theorem Thn.now {Qp : QV} {Q : VK} (k : Thn P w K h H Qp Q) (rh : RH P w K H h) {v : V} {p : PV} (r : RV K H v p) (q : Qp p h) : Q v H := k p h q v H (Stp.refl h H) r rh
theorem Thn.later {h1 : PH} {H1 : Hp} {Qp : QV} {Q : VK} (k : Thn P w K h H Qp Q) (s : Stp h H h1 H1) : Thn P w K h1 H1 Qp Q := fun p h' q v H' s' r rh => k p h' q v H' (s.trans s') r rh
/-- a new tuple -/
theorem Thn.tup {Qp : QV} {Q : VK} (k : Thn P w K h H Qp Q) (rh : RH P w K H h) {vs : List V} {ps : List PV} (r : RVs K H vs ps) (hl : vs.length ≤ sizeLine) (q : Qp (.tup ps) h) : ∀ p, H p = none → Q (.ref p) (upd H p (.tup vs)) := fun p n =>
  k _ h q _ _ (stp_new0 n) (.tup (SqT.of upd_same) hl (r.stp rh (stp_new0 n))) (rh.new0 n)
/-- a new list -/
theorem Thn.lst {Qp : QV} {Q : VK} (k : Thn P w K h H Qp Q) (rh : RH P w K H h) {vs : List V} {ps : List PV} (r : RVs K H vs ps) (hl : vs.length ≤ sizeLine) (q : ∀ p, h p = none → Qp (.ref p) (up h p (.lst ps))) : ∀ p, H p = none → Q (.ref p) (upd H p (.lst vs)) := fun p n =>
  have s : Stp h H (up h p (.lst ps)) (upd H p (.lst vs)) := stp_new rh n
  k _ _ (q p (rh.free n)) _ _ s (.ref p) (rh.put s ⟨vs, upd_same, hl, r.stp rh s⟩)
/-- a list written -/
theorem Thn.put {Qp : QV} {Q : VK} (k : Thn P w K h H Qp Q) (rh : RH P w K H h) {a : Addr} {u0 : PO} (e0 : h a = some u0) {vs : List V} {ps : List PV} (r : RVs K H vs ps) (hl : vs.length ≤ sizeLine) {v : V} {p : PV} (rv : RV K H v p) (q : Qp p (up h a (.lst ps))) : Q v (upd H a (.lst vs)) :=
  have s : Stp h H (up h a (.lst ps)) (upd H a (.lst vs)) := stp_set e0
  k _ _ q _ _ s (rv.stp rh s) (rh.put s ⟨vs, upd_same, hl, r.stp rh s⟩)
end

section
variable {X : Cx} {e a b c : Expr} {es : List Expr} {t ta tb tc : ZE} {pos : Pos}
theorem LE.mono {P : Program} {w : World} {K : PySem.W.Frag} {σ : L2.St} {H : Hp} {Q : VK} {t : ZE} {ρ : Ev} {h : PH} {Qp : QV} (rs : RS K H σ ρ) (rh : RH P w K H h) (x : t ρ h Qp) (k : Thn P w K h H Qp Q) : LE P w K t σ H Q := ⟨ρ, h, Qp, rs, rh, x, k⟩

/-! ### names and constants -/
def zVar (i : Nat) : ZE := fun ρ h Q => ∃ p, ρ[i]? = some (some p) ∧ Q p h
def zC (p : PV) : ZE := fun _ h Q => Q p h
theorem qe_var {X : Cx} {pos : Pos} {i : Nat} {x : Str} (hN : X.N[i]? = some x) (hv : Vis X.env.scope x) (hd : (x == ("__debug__" : Str)) = false) (hcd : (x == ("__classdict__" : Str)) = false) : QE X (.Name x pos) (zVar i) :=
  peI (pe_var hN hv hd hcd) fun σ H Q ⟨ρ, h, Qp, rs, rh, ⟨p, e, q⟩, k⟩ =>
    let ⟨v, e1, r⟩ := rs.2 i p e
    ⟨v, e1, k.now rh r q⟩
theorem qe_int {i j} : QE X (.Constant (.int i) j pos) (zC (.int i)) := peI pe_int fun σ H Q ⟨ρ, h, Qp, rs, rh, q, k⟩ => k.now rh (.int i) q
theorem qe_bl {i j} : QE X (.Constant (.bool i) j pos) (zC (.bl i)) := peI pe_bl fun σ H Q ⟨ρ, h, Qp, rs, rh, q, k⟩ => k.now rh (.bl i) q
theorem qe_non {j} : QE X (.Constant .none j pos) (zC .non) := peI pe_non fun σ H Q ⟨ρ, h, Qp, rs, rh, q, k⟩ => k.now rh .non q
theorem qe_str {x : List Nat} {j} : QE X (.Constant (.str (tS x)) j pos) (zC (.str x)) := peI pe_str fun σ H Q ⟨ρ, h, Qp, rs, rh, q, k⟩ => k.now rh (.str x) q

/-! ### two places -/
def z2 (r : Z2) (ta tb : ZE) : ZE := fun ρ h Q => ta ρ h fun p h1 => tb ρ h1 fun q h2 => r p q h2 Q
theorem le_op {P : Program} {w : World} {K : PySem.W.Frag} {ta tb : ZE} {r : Z2} {σ : L2.St} {H : Hp} {Q : VK} (x : LE P w K (z2 r ta tb) σ H Q) : tOp (L2r P w K r) (LE P w K ta) (LE P w K tb) σ H Q := by
  obtain ⟨ρ, h, Qp, rs, rh, t, k⟩ := x
  refine ⟨ρ, h, _, rs, rh, t, fun p h1 t1 v H1 s1 r1 rh1 => ⟨ρ, h1, _, rs.stp rh s1, rh1, t1, fun q h2 t2 u H2 s2 r2 rh2 => ?_⟩⟩
  exact ⟨p, q, h2, Qp, r1.stp rh1 s2, r2, rh2, t2, (k.later s1).later s2⟩
theorem qe_op {op : Operator} {r : Z2} (ho : QO X (binaryOp op) r) (ha : QE X a ta) (hb : QE X b tb) : QE X (.BinOp a op b pos) (z2 r ta tb) := peI (pe_op ho ha hb) fun _ _ _ x => le_op x
theorem qe_cmp {op : CmpOp} {r : Z2} (ho : QO X (compareOp op) r) (ha : QE X a ta) (hb : QE X b tb) (hm : behindInMarks op b = false) : QE X (.Compare a [op] [b] pos) (z2 r ta tb) := peI (pe_cmpR ho ha hb hm) fun _ _ _ x => le_op x

/-! ### + -/
def zAdd : Z2
  | .int i, .int j, h, Q => Q (.int (i + j)) h
  | .str x, .str y, h, Q => x.length + y.length ≤ sizeLine ∧ Q (.str (x ++ y)) h
  | .tup x, .tup y, h, Q => x.length + y.length ≤ sizeLine ∧ Q (.tup (x ++ y)) h
  | .ref a, .ref b, h, Q => ∃ xs ys, h a = some (.lst xs) ∧ h b = some (.lst ys) ∧ xs.length + ys.length ≤ sizeLine ∧ ∀ p, h p = none → Q (.ref p) (up h p (.lst (xs ++ ys)))
  | _, _, _, _ => False
theorem tS_append (x y : List Nat) : (tS x ++ tS y : Str) = tS (x ++ y) := by
  show Str.append (tS x) (tS y) = _
  simp [Str.append, tS]
theorem qo_add : QO X (binaryOp .Add) zAdd := by
  intro pins s σ H x y v u Q I rx ry ⟨p, q, h, Qp, r1, r2, rh, z, k⟩
  cases p <;> cases q <;> try (exact False.elim z)
  case int.int i j =>
    cases r1; cases r2
    exact op_add pins s σ H _ _ v u Q I rx ry ⟨i, j, rfl, rfl, k.now rh (.int _) z⟩
  case str.str i j =>
    cases r1; cases r2
    refine op_add_str pins s σ H _ _ v u Q I rx ry ⟨tS i, tS j, rfl, rfl, by simpa [Str.length] using z.1, ?_⟩
    rw [tS_append]
    exact k.now rh (.str _) z.2
  case tup.tup i j =>
    cases r1 with
    | tup s1 l1 q1 =>
      cases r2 with
      | tup s2 l2 q2 =>
        have hl := q1.length
        have hl2 := q2.length
        refine op_catA pins s σ H _ _ v u Q I rx ry ⟨_, _, _, _, rfl, rfl, s1, s2, by rw [hl, hl2]; exact z.1, fun e => ?_, fun n e => ?_, fun _ _ => k.tup rh (q1.append q2) (by rw [List.length_append, hl, hl2]; exact z.1) z.2⟩
        · subst e
          cases q1
          exact k.now rh (.tup s2 l2 q2) z.2
        · subst e
          cases q2
          have z2 := z.2
          rw [List.append_nil] at z2
          exact k.now rh (.tup s1 l1 q1) z2
  case ref.ref i j =>
    cases r1; cases r2
    obtain ⟨xs, ys, e1, e2, hl, z⟩ := z
    obtain ⟨us, f1, l1, q1⟩ := rh i _ e1
    obtain ⟨ws, f2, l2, q2⟩ := rh j _ e2
    have hl1 := q1.length
    have hl2 := q2.length
    exact op_cat pins s σ H _ _ v u Q I rx ry ⟨i, j, us, ws, rfl, rfl, f1, f2, by omega, k.lst rh (q1.append q2) (by simp; omega) z⟩
end
end G

namespace G
open PySem PySem.Spec PyProof.Rows L2

/-! ### plain data: no truth values, no addresses -/
def PV.flat : PV → Bool
  | .non => true | .int _ => true | .str _ => true | .bl _ => true | _ => false
mutual
def PV.pl : PV → Bool
  | .non => true
  | .int _ => true
  | .str x => x.all fun c => decide (c < 1114112)
  | .tup xs => PV.pls xs
  | _ => false
def PV.pls : List PV → Bool
  | [] => true
  | x :: xs => PV.pl x && PV.pls xs
end
mutual
def PV.dp : PV → Nat
  | .tup xs => PV.dps xs + 1
  | _ => 0
def PV.dps : List PV → Nat
  | [] => 0
  | x :: xs => max (PV.dp x) (PV.dps xs)
end
mutual
def PV.D : PV → PyData
  | .int i => .int i
  | .str x => .str (tS x)
  | .tup xs => .tuple (PV.Ds xs)
  | _ => .none
def PV.Ds : List PV → List PyData
  | [] => []
  | x :: xs => PV.D x :: PV.Ds xs
end
mutual
theorem PV.D_lay : ∀ a : PV, a.pl = true → a.D.canLay0 = true
  | .non, _ => by simp [PV.D, PyData.canLay0]
  | .int _, _ => by simp [PV.D, PyData.canLay0]
  | .str x, h => by
    simp only [PV.pl] at h
    simp only [PV.D, PyData.canLay0, PyData.strOk, tS]
    simpa using h
  | .tup xs, h => by simpa [PV.D, PyData.canLay0] using PV.Ds_lay xs (by simpa [PV.pl] using h)
  | .bl _, h => by simp [PV.pl] at h
  | .ref _, h => by simp [PV.pl] at h
  | .scr _, h => by simp [PV.pl] at h
theorem PV.Ds_lay : ∀ a : List PV, PV.pls a = true → PyData.canLayAll0 (PV.Ds a) = true
  | [], _ => by simp [PV.Ds, PyData.canLayAll0]
  | x :: xs, h => by
    simp only [PV.pls, Bool.and_eq_true] at h
    simp only [PV.Ds, PyData.canLayAll0, PV.D_lay x h.1, PV.Ds_lay xs h.2, Bool.and_self]
end
mutual
theorem PV.D_depth : ∀ a : PV, a.D.depth = a.dp
  | .non => by simp [PV.D, PyData.depth, PV.dp]
  | .int _ => by simp [PV.D, PyData.depth, PV.dp]
  | .str x => by simp [PV.D, PyData.depth, PV.dp]
  | .tup xs => by simp [PV.D, PyData.depth, PV.dp, PV.Ds_depth xs]
  | .bl _ => by simp [PV.D, PyData.depth, PV.dp]
  | .ref _ => by simp [PV.D, PyData.depth, PV.dp]
  | .scr _ => by simp [PV.D, PyData.depth, PV.dp]
theorem PV.Ds_depth : ∀ a : List PV, PyData.depthAll (PV.Ds a) = PV.dps a
  | [] => by simp [PV.Ds, PyData.depthAll, PV.dps]
  | x :: xs => by simp [PV.Ds, PyData.depthAll, PV.dps, PV.D_depth x, PV.Ds_depth xs]
end
mutual
theorem PV.D_eqv : ∀ a b : PV, a.pl = true → b.pl = true → PyData.eqv a.D b.D = PV.beq a b
  | .non, b, _, hb => by cases b <;> simp [PV.D, PyData.eqv, PV.beq, PV.pl] at hb ⊢
  | .int i, b, _, hb => by cases b <;> simp [PV.D, PyData.eqv, PV.beq, PV.pl] at hb ⊢
  | .str x, b, _, hb => by
    cases b <;> simp [PV.D, PyData.eqv, PV.beq, PV.pl] at hb ⊢
    rename_i y
    by_cases e : x = y
    · subst e; simp
    · have e' : ¬ tS x = tS y := fun z => e (tS_inj.mp z)
      rw [beq_eq_false_iff_ne.mpr e, beq_eq_false_iff_ne.mpr e']
  | .tup xs, b, ha, hb => by
    cases b with
    | tup ys => simp only [PV.D, PyData.eqv, PV.beq]; exact PV.Ds_eqv xs ys (by simpa [PV.pl] using ha) (by simpa [PV.pl] using hb)
    | _ => simp [PV.D, PyData.eqv, PV.beq, PV.pl] at hb ⊢
  | .bl _, _, h, _ => by simp [PV.pl] at h
  | .ref _, _, h, _ => by simp [PV.pl] at h
  | .scr _, _, h, _ => by simp [PV.pl] at h
theorem PV.Ds_eqv : ∀ a b : List PV, PV.pls a = true → PV.pls b = true → PyData.eqvAll (PV.Ds a) (PV.Ds b) = PV.beqs a b
  | [], b, _, _ => by cases b <;> simp [PV.Ds, PyData.eqvAll, PV.beqs]
  | x :: xs, b, ha, hb => by
    cases b with
    | nil => simp [PV.Ds, PyData.eqvAll, PV.beqs]
    | cons y ys =>
      simp only [PV.pls, Bool.and_eq_true] at ha hb
      simp only [PV.Ds, PyData.eqvAll, PV.beqs]
      rw [PV.D_eqv x y ha.1 hb.1, PV.Ds_eqv xs ys ha.2 hb.2]
end
theorem PV.beq_dec (a b : PV) : PV.beq a b = decide (a = b) := by
  rw [Bool.eq_iff_iff, PV.beq_iff, decide_eq_true_eq]
theorem PV.beqs_dec (a b : List PV) : PV.beqs a b = decide (a = b) := by
  rw [Bool.eq_iff_iff, PV.beqs_iff, decide_eq_true_eq]
theorem PV.shaped {a : PV} (h : a.pl = true) (d : a.dp ≤ 64) : SeqAt.shaped a.D = true := by
  unfold SeqAt.shaped
  rw [PV.D_lay a h, PV.D_depth]
  simp [d]
theorem PV.shapedL {a : List PV} (h : PV.pls a = true) (d : PV.dps a ≤ 63) : SeqAt.shaped (.list (PV.Ds a)) = true := by
  unfold SeqAt.shaped
  simp only [PyData.canLay0, PyData.depth, PV.Ds_lay a h, PV.Ds_depth, Bool.true_and, decide_eq_true_eq]
  omega
section
variable {K : PySem.W.Frag} {H : Hp}
mutual
theorem RV.dp : ∀ (p : PV) (v : V), p.pl = true → RV K H v p → Dp K H v p.D
  | .non, _, _, h => by cases h; exact .non
  | .int i, _, _, h => by cases h; exact .int i
  | .str x, _, _, h => by cases h; exact .str _
  | .tup xs, _, hp, h => by
    cases h with
    | tup s l r => exact .tup s (RVs.dp xs _ (by simpa [PV.pl] using hp) r)
  | .bl _, _, h, _ => by simp [PV.pl] at h
  | .ref _, _, h, _ => by simp [PV.pl] at h
  | .scr _, _, h, _ => by simp [PV.pl] at h
theorem RVs.dp : ∀ (ps : List PV) (vs : List V), PV.pls ps = true → RVs K H vs ps → DpAll K H vs (PV.Ds ps)
  | [], _, _, h => by cases h; exact .nil
  | p :: ps, _, hp, h => by
    simp only [PV.pls, Bool.and_eq_true] at hp
    cases h with
    | cons r t => exact .cons (RV.dp p _ hp.1 r) (RVs.dp ps _ hp.2 t)
end
/-- the value itself, where it is flat -/
def PV.v : PV → V
  | .non => .non | .int i => .int i | .str x => .str (tS x) | .bl b => .bl b | _ => .non
theorem RV.v_of {v : V} {p : PV} (f : p.flat = true) (h : RV K H v p) : v = p.v := by
  cases h <;> first | rfl | (simp [PV.flat] at f)
end

/-- a == b -/
def zEq : Z2
  | .ref a, .ref b, h, Q => ∃ xs ys, h a = some (.lst xs) ∧ h b = some (.lst ys) ∧ PV.pls xs = true ∧ PV.pls ys = true ∧ PV.dps xs ≤ 63 ∧ PV.dps ys ≤ 63 ∧ Q (.bl (decide (xs = ys))) h
  | .tup a, b, h, Q => PV.pls a = true ∧ b.pl = true ∧ PV.dps a ≤ 63 ∧ b.dp ≤ 64 ∧ Q (.bl (decide (PV.tup a = b))) h
  | a, .tup b, h, Q => a.pl = true ∧ PV.pls b = true ∧ PV.dps b ≤ 63 ∧ Q (.bl (decide (a = PV.tup b))) h
  | a, b, h, Q => a.flat = true ∧ b.flat = true ∧ scal a.v b.v = true ∧ Q (.bl (decide (a = b))) h
def zNot (r : Z2) : Z2 := fun a b h Q => r a b h fun p h' => match p with | .bl k => Q (.bl (!k)) h' | _ => False
section
variable {X : Cx}
theorem pv_v_inj {a b : PV} (fa : a.flat = true) (fb : b.flat = true) : decide (a.v = b.v) = decide (a = b) := by
  cases a <;> cases b <;> simp [PV.flat, PV.v] at fa fb ⊢
/-- both, by what HandS has for == and for != -/
theorem eq_any {P : Program} {w : World} {K : PySem.W.Frag} {x y : V} {H : Hp} {a b : PV} {h : PH} {Qp : QV} (r1 : RV K H x a) (r2 : RV K H y b) (rh : RH P w K H h) (z : zEq a b h Qp) :
    (∃ d e, Dp K H x d ∧ Dp K H y e ∧ SeqAt.shaped d = true ∧ SeqAt.shaped e = true ∧ Qp (.bl (PyData.eqv d e)) h) ∨ (scal x y = true ∧ Qp (.bl (decide (x = y))) h) := by
  have deep : ∀ {a b : PV}, RV K H x a → RV K H y b → a.pl = true → b.pl = true → a.dp ≤ 64 → b.dp ≤ 64 → Qp (.bl (decide (a = b))) h →
      (∃ d e, Dp K H x d ∧ Dp K H y e ∧ SeqAt.shaped d = true ∧ SeqAt.shaped e = true ∧ Qp (.bl (PyData.eqv d e)) h) := fun {a b} r1 r2 pa pb da db q =>
    ⟨_, _, r1.dp _ _ pa, r2.dp _ _ pb, PV.shaped pa da, PV.shaped pb db, by rw [PV.D_eqv a b pa pb, PV.beq_dec]; exact q⟩
  have flat : a.flat = true → b.flat = true → scal a.v b.v = true → Qp (.bl (decide (a = b))) h → (scal x y = true ∧ Qp (.bl (decide (x = y))) h) := fun fa fb s q => by
    rw [r1.v_of fa, r2.v_of fb, pv_v_inj fa fb]
    exact ⟨s, q⟩
  have dt : ∀ xs, (PV.tup xs).dp = PV.dps xs + 1 := fun xs => by simp [PV.dp]
  cases a
  case tup a =>
    obtain ⟨p1, p2, d1, d2, q⟩ := z
    exact .inl (deep r1 r2 (by simpa [PV.pl] using p1) p2 (by rw [dt]; omega) d2 q)
  case ref a =>
    cases b
    case ref b =>
      obtain ⟨xs, ys, e1, e2, p1, p2, d1, d2, q⟩ := z
      obtain ⟨us, f1, _, q1⟩ := rh _ _ e1
      obtain ⟨ws, f2, _, q2⟩ := rh _ _ e2
      cases r1; cases r2
      refine .inl ⟨_, _, .lst (SqL.of f1) (q1.dp _ _ p1), .lst (SqL.of f2) (q2.dp _ _ p2), PV.shapedL p1 d1, PV.shapedL p2 d2, ?_⟩
      rw [show PyData.eqv (.list (PV.Ds xs)) (.list (PV.Ds ys)) = PyData.eqvAll (PV.Ds xs) (PV.Ds ys) by simp [PyData.eqv], PV.Ds_eqv xs ys p1 p2, PV.beqs_dec]
      exact q
    all_goals (obtain ⟨p1, _⟩ := z; simp [PV.pl, PV.flat] at p1)
  all_goals
    cases b
    case tup b =>
      obtain ⟨p1, p2, d2, q⟩ := z
      exact .inl (deep r1 r2 p1 (by simpa [PV.pl] using p2) (by simp [PV.dp]) (by rw [dt]; omega) q)
    all_goals
      obtain ⟨p1, p2, d2, q⟩ := z
      exact .inr (flat p1 p2 d2 q)
theorem qo_eq (hu : X.A.units + 64 < cLine) : QO X (compareOp .Eq) zEq := by
  intro pins s σ H x y v u Q I rx ry ⟨p, q, h, Qp, r1, r2, rh, z, k⟩
  rcases eq_any r1 r2 rh z with ⟨d, e, d1, d2, s1, s2, z⟩ | ⟨s1, z⟩
  · exact op_eqD hu pins s σ H x y v u Q I rx ry ⟨d, e, d1, d2, s1, s2, k.now rh (.bl _) z⟩
  · exact op_eq pins s σ H x y v u Q I rx ry ⟨s1, k.now rh (.bl _) z⟩
theorem qo_ne (hu : X.A.units + 64 < cLine) : QO X (compareOp .NotEq) (zNot zEq) := by
  intro pins s σ H x y v u Q I rx ry ⟨p, q, h, Qp, r1, r2, rh, z, k⟩
  rcases eq_any r1 r2 rh z with ⟨d, e, d1, d2, s1, s2, z⟩ | ⟨s1, z⟩
  · exact op_neD hu pins s σ H x y v u Q I rx ry ⟨d, e, d1, d2, s1, s2, k.now rh (.bl _) z⟩
  · exact op_ne pins s σ H x y v u Q I rx ry ⟨s1, k.now rh (.bl _) z⟩

/-! ### ints -/
def zI (C : Int → Int → Prop) (g : Int → Int → PV) : Z2
  | .int i, .int j, h, Q => C i j ∧ Q (g i j) h
  | _, _, _, _ => False
theorem qo_i {f : Value → Value → Sem Value} {C : Int → Int → Prop} {g : Int → Int → Int} (o : OpR X f (rI C fun i j => .int (g i j))) : QO X f (zI C fun i j => .int (g i j)) := by
  intro pins s σ H x y v u Q I rx ry ⟨p, q, h, Qp, r1, r2, rh, z, k⟩
  cases p <;> cases q <;> try (exact False.elim z)
  cases r1; cases r2
  exact o pins s σ H _ _ v u Q I rx ry ⟨_, _, rfl, rfl, z.1, k.now rh (.int _) z.2⟩
theorem qo_b {f : Value → Value → Sem Value} {g : Int → Int → Bool} (o : OpR X f (rI0 fun i j => .bl (g i j))) : QO X f (zI (fun _ _ => True) fun i j => .bl (g i j)) := by
  intro pins s σ H x y v u Q I rx ry ⟨p, q, h, Qp, r1, r2, rh, z, k⟩
  cases p <;> cases q <;> try (exact False.elim z)
  cases r1; cases r2
  exact o pins s σ H _ _ v u Q I rx ry ⟨_, _, rfl, rfl, k.now rh (.bl _) z.2⟩
def zSub : Z2 := zI (fun _ _ => True) fun i j => .int (i - j)
theorem qo_sub : QO X (binaryOp .Sub) zSub := by
  intro pins s σ H x y v u Q I rx ry ⟨p, q, h, Qp, r1, r2, rh, z, k⟩
  cases p <;> cases q <;> try (exact False.elim z)
  cases r1; cases r2
  exact op_sub pins s σ H _ _ v u Q I rx ry ⟨_, _, rfl, rfl, k.now rh (.int _) z.2⟩
def zDiv : Z2 := zI CDiv fun i j => .int (i / j)
theorem qo_div : QO X (binaryOp .FloorDiv) zDiv := qo_i op_fdiv
def zMod : Z2 := zI (fun _ j => 0 < j) fun i j => .int (i % j)
theorem qo_mod : QO X (binaryOp .Mod) zMod := qo_i op_mod
def zPow : Z2 := zI CPow fun i j => .int (i ^ j.toNat)
theorem qo_pow : QO X (binaryOp .Pow) zPow := qo_i op_pow
def zLt : Z2 := zI (fun _ _ => True) fun i j => .bl (decide (i < j))
theorem qo_lt : QO X (compareOp .Lt) zLt := qo_b op_lt
def zLe : Z2 := zI (fun _ _ => True) fun i j => .bl (decide (i ≤ j))
theorem qo_le : QO X (compareOp .LtE) zLe := qo_b op_le
def zGt : Z2 := zI (fun _ _ => True) fun i j => .bl (decide (j < i))
theorem qo_gt : QO X (compareOp .Gt) zGt := qo_b op_gt
def zGe : Z2 := zI (fun _ _ => True) fun i j => .bl (decide (j ≤ i))
theorem qo_ge : QO X (compareOp .GtE) zGe := qo_b op_ge
/-- * : the factors, or their size, small -/
def CMulA (i j : Int) : Prop := CMul i j ∨ CMulW i j
theorem op_mulA : OpR X (binaryOp .Mult) (rI CMulA fun i j => .int (i * j)) := by
  intro pins s σ H x y v u Q I rx ry ⟨i, j, e1, e2, c, q⟩
  rcases c with c | c
  · exact op_mul pins s σ H x y v u Q I rx ry ⟨i, j, e1, e2, c, q⟩
  · exact op_mulW pins s σ H x y v u Q I rx ry ⟨i, j, e1, e2, c, q⟩
def zMul : Z2
  | .int i, .int j, h, Q => CMulA i j ∧ Q (.int (i * j)) h
  | .tup xs, .int j, h, Q => xs ≠ [] ∧ 2 ≤ j ∧ j ≤ 1000 ∧ xs.length ≤ 1000 ∧ Q (.tup (List.replicate j.toNat xs).flatten) h
  | _, _, _, _ => False
theorem RVs.rep {K : PySem.W.Frag} {H : Hp} {xs : List V} {ps : List PV} (r : RVs K H xs ps) : ∀ k : Nat, RVs K H (List.replicate k xs).flatten (List.replicate k ps).flatten
  | 0 => .nil
  | k + 1 => by
    rw [List.replicate_succ, List.replicate_succ, List.flatten_cons, List.flatten_cons]
    exact r.append (RVs.rep r k)
theorem qo_mul : QO X (binaryOp .Mult) zMul := by
  intro pins s σ H x y v u Q I rx ry ⟨p, q, h, Qp, r1, r2, rh, z, k⟩
  cases p <;> cases q <;> try (exact False.elim z)
  case int.int =>
    cases r1; cases r2
    exact op_mulA pins s σ H _ _ v u Q I rx ry ⟨_, _, rfl, rfl, z.1, k.now rh (.int _) z.2⟩
  case tup.int xs j =>
    cases r2
    cases r1 with
    | tup s1 l1 q1 =>
      obtain ⟨hn, h1, h2, h3, z⟩ := z
      have hl := q1.length
      refine op_repT pins s σ H _ _ v u Q I rx ry ⟨_, _, _, rfl, rfl, s1, fun e => ?_, h1, h2, by omega, k.tup rh (q1.rep _) ?_ z⟩
      · subst e; cases q1; exact hn rfl
      · rw [PyProof.Rows.lm_len_rep_flat, sizeLine_eq]
        rw [hl]
        have a1 : j.toNat * xs.length ≤ 1000 * 1000 := Nat.mul_le_mul (show j.toNat ≤ 1000 by omega) h3
        omega
end
end G

namespace G
open PySem PySem.Spec PyProof.Rows L2

/-! ### dicts over trees -/
def dget (kvs : List (PV × PV)) (k : PV) : Option PV := (kvs.find? fun kv => decide (kv.1 = k)).map (·.2)
def dput (kvs : List (PV × PV)) (k v : PV) : List (PV × PV) :=
  if (kvs.any fun kv => decide (kv.1 = k)) = true then kvs.map (fun kv => if kv.1 = k then (kv.1, v) else kv) else kvs ++ [(k, v)]
def PV.leaf : PV → Bool
  | .int _ => true | .str _ => true | _ => false
/-- what may be a key of a dict of the kind t -/
def keyOk : Bool → PV → Bool
  | false, p => p.leaf
  | true, .tup xs => match nks xs with
    | some ks => decide (NestedKey.depthAll ks ≤ 7)
    | none => false
  | true, _ => false
def keyOf : PV → Key
  | .int i => .inl i
  | .str x => .inr (tS x)
  | _ => .inl 0
theorem kP_keyOf {p : PV} (h : p.leaf = true) : kP (keyOf p) = p := by
  cases p <;> simp [PV.leaf] at h <;> simp [kP, keyOf]
theorem kP_inj {a b : Key} (h : kP a = kP b) : a = b := by
  cases a <;> cases b <;> simp [kP] at h ⊢
  · exact h
  · rename_i x y
    cases x; cases y
    simp at h
    simp [h]
mutual
theorem nk_inj : ∀ (a b : PV) (k : NestedKey), nk a = some k → nk b = some k → a = b
  | .non, b, k, h1, h2 => by
    simp [nk] at h1; subst h1
    cases b <;> simp [nk] at h2 ⊢
  | .int i, b, k, h1, h2 => by
    simp [nk] at h1; subst h1
    cases b <;> simp [nk] at h2 ⊢
    exact h2.symm
  | .str x, b, k, h1, h2 => by
    simp [nk] at h1; subst h1
    cases b <;> simp [nk] at h2 ⊢
    exact h2.symm
  | .tup xs, b, k, h1, h2 => by
    simp only [nk, Option.map_eq_some_iff] at h1
    obtain ⟨ks, e1, e2⟩ := h1
    subst e2
    cases b <;> simp [nk] at h2
    rename_i ys
    rw [nks_inj xs ys ks e1 h2]
  | .bl _, _, _, h, _ => by simp [nk] at h
  | .ref _, _, _, h, _ => by simp [nk] at h
  | .scr _, _, _, h, _ => by simp [nk] at h
theorem nks_inj : ∀ (a b : List PV) (k : List NestedKey), nks a = some k → nks b = some k → a = b
  | [], b, k, h1, h2 => by
    simp [nks] at h1; subst h1
    cases b with
    | nil => rfl
    | cons y ys =>
      simp only [nks] at h2
      split at h2 <;> cases h2
  | x :: xs, b, k, h1, h2 => by
    simp only [nks] at h1
    split at h1 <;> cases h1
    rename_i k1 ks1 e1 e2
    cases b with
    | nil => simp [nks] at h2
    | cons y ys =>
      simp only [nks] at h2
      split at h2 <;> cases h2
      rename_i e3 e4
      rw [nk_inj x y _ e1 e3, nks_inj xs ys _ e2 e4]
end
section
variable {X : Cx} {pins : List (Addr × Obj)} {σ : L2.St} {H : Hp} {s : Shared}
mutual
theorem RV.nested (I : L2.Inv X pins σ H s) : ∀ (p : PV) (v : V) (u : Value) (k : NestedKey), RV X.K H v p → nk p = some k → RelV v u → NestedIs s.heap k u
  | .non, _, _, _, h, e, r => by simp [nk] at e; subst e; cases h; cases r; exact .none
  | .int i, _, _, _, h, e, r => by simp [nk] at e; subst e; cases h; obtain ⟨t, rfl⟩ := r; exact .int i t
  | .str x, _, _, _, h, e, r => by simp [nk] at e; subst e; cases h; obtain ⟨t, rfl⟩ := r; exact .text _ t
  | .tup xs, _, _, _, h, e, r => by
    simp only [nk, Option.map_eq_some_iff] at e
    obtain ⟨ks, e1, e2⟩ := e
    subst e2
    cases h with
    | tup hs hl hr =>
      cases r
      obtain ⟨its, rv, ⟨o, ho, hc, n, hd⟩, _⟩ := I.tuple hs
      exact .tup ho hc hd (RVs.nested I xs _ _ _ hr e1 rv)
  | .bl _, _, _, _, _, e, _ => by simp [nk] at e
  | .ref _, _, _, _, _, e, _ => by simp [nk] at e
  | .scr _, _, _, _, _, e, _ => by simp [nk] at e
theorem RVs.nested (I : L2.Inv X pins σ H s) : ∀ (ps : List PV) (vs : List V) (us : List Value) (ks : List NestedKey), RVs X.K H vs ps → nks ps = some ks → Vals vs us → NestedAll s.heap ks us
  | [], _, _, _, h, e, r => by simp [nks] at e; subst e; cases h; cases r; exact .nil
  | p :: ps, _, _, _, h, e, r => by
    simp only [nks] at e
    split at e <;> cases e
    rename_i k1 ks1 e1 e2
    cases h with
    | cons h1 h2 =>
      cases r with
      | cons r1 r2 => exact .cons (RV.nested I p _ _ _ h1 e1 r1) (RVs.nested I ps _ _ _ h2 e2 r2)
end
theorem keyT {p : PV} (h : keyOk true p = true) : ∃ k, nk p = some k ∧ k.depth ≤ 8 := by
  cases p with
  | tup xs =>
    simp only [keyOk] at h
    split at h
    · rename_i ks e
      refine ⟨.tup ks, by simp [nk, e], ?_⟩
      have := of_decide_eq_true h
      simp only [NestedKey.depth]; omega
    · cases h
  | _ => cases h
theorem keyT_ref {p : PV} {v : V} (h : keyOk true p = true) (r : RV X.K H v p) : ∃ b, v = .ref b := by
  cases p <;> first | (cases h; done) | skip
  cases r
  exact ⟨_, rfl⟩
/-- the dict in the heap -/
theorem dic_of (I : L2.Inv X pins σ H s) {a : Addr} {kvs : List (PV × PV)} {xs : List (NestedKey × Addr × Value)} (e : Rd H a (.ext (dphi X.prog X.w a xs))) (r : Paired (EntT X.K H) kvs xs) :
    (a == sysModules) = false ∧ xs.length ≤ sizeLine ∧ s.heap.DictOfH (nestedKind X.prog X.w) a xs := by
  obtain ⟨⟨h1, h2, o, es, ep, ho, hx, hd, he, hn⟩, _⟩ := e.ok I.hok
  refine ⟨h1, h2, o, es, ep, ho, hx, hd, he, ?_, hn⟩
  have all : ∀ {kvs : List (PV × PV)} {xs : List (NestedKey × Addr × Value)}, Paired (EntT X.K H) kvs xs → ∀ x ∈ xs, (nestedKind X.prog X.w).is s.heap x.1 x.2.1 := by
    intro kvs xs r
    induction r with
    | nil => intro x hx; cases hx
    | cons q t ih =>
      intro x hx
      rcases List.mem_cons.mp hx with rfl | hx
      · obtain ⟨q1, q2, q3, _⟩ := q
        exact ⟨q3.nested I _ _ _ _ q1 rfl, q2⟩
      · exact ih x hx
  exact all r
theorem ent_at {K : PySem.W.Frag} {k : NestedKey} {p : PV} (hk : nk p = some k) : ∀ {kvs : List (PV × PV)} {xs : List (NestedKey × Addr × Value)}, Paired (EntT K H) kvs xs →
    (dget kvs p = none ∧ atKey xs k = none) ∨ ∃ q b u v, dget kvs p = some q ∧ atKey xs k = some (b, u) ∧ RelV v u ∧ RV K H v q := by
  intro kvs xs r
  induction r with
  | nil => exact .inl ⟨rfl, rfl⟩
  | cons q t ih =>
    rename_i kv x _ _
    obtain ⟨q1, q2, q3, v, q4, q5⟩ := q
    by_cases e : kv.1 = p
    · have e' : x.1 = k := by rw [e, hk] at q1; exact (Option.some.inj q1).symm
      exact .inr ⟨kv.2, x.2.1, x.2.2, v, by simp [dget, List.find?_cons, e], by simp [atKey, List.find?_cons, e'], q4, q5⟩
    · have e' : ¬ x.1 = k := fun z => e (nk_inj _ _ _ q1 (by rw [hk, z]))
      have d1 : ∀ l, dget (kv :: l) p = dget l p := fun l => by simp [dget, List.find?_cons, e]
      have d2 : ∀ l, atKey (x :: l) k = atKey l k := fun l => by simp [atKey, List.find?_cons, e']
      rw [d1, d2]
      exact ih
theorem ent_atK {K : PySem.W.Frag} {p : PV} (hk : p.leaf = true) : ∀ {kvs : List (PV × PV)} {ds : List (Key × V)}, Paired (EntK K H) kvs ds →
    (dget kvs p = none ∧ valV ds (keyOf p) = none) ∨ ∃ q v, dget kvs p = some q ∧ valV ds (keyOf p) = some v ∧ RV K H v q := by
  intro kvs ds r
  induction r with
  | nil => exact .inl ⟨rfl, rfl⟩
  | cons q t ih =>
    rename_i kv x _ _
    obtain ⟨q1, q2⟩ := q
    by_cases e : kv.1 = p
    · have e' : x.1 = keyOf p := kP_inj (by rw [kP_keyOf hk, ← q1, e])
      exact .inr ⟨kv.2, x.2, by simp [dget, List.find?_cons, e], valV_pos e', q2⟩
    · have e' : ¬ x.1 = keyOf p := fun z => e (by rw [q1, z, kP_keyOf hk])
      have d1 : ∀ l, dget (kv :: l) p = dget l p := fun l => by simp [dget, List.find?_cons, e]
      rw [d1, valV_neg e']
      exact ih
theorem kV_of {K : PySem.W.Frag} {p : PV} {v : V} (hk : p.leaf = true) (r : RV K H v p) : v = kV (keyOf p) := by
  cases r <;> simp [PV.leaf] at hk <;> rfl

/-- d[k] = v over trees -/
theorem paired_put {α β : Type} {F : α → β → Prop} {f : α → α} {g : β → β} : ∀ {l : List α} {m : List β}, Paired F l m → (∀ a b, F a b → F (f a) (g b)) → Paired F (l.map f) (m.map g)
  | _, _, .nil, _ => .nil
  | _, _, .cons q t, h => .cons (h _ _ q) (paired_put t h)
theorem any_dget (kvs : List (PV × PV)) (p : PV) : (kvs.any fun kv => decide (kv.1 = p)) = (dget kvs p).isSome := by
  induction kvs with
  | nil => rfl
  | cons kv l ih =>
    by_cases e : kv.1 = p
    · simp [dget, List.find?_cons, e]
    · rw [List.any_cons, decide_eq_false e, Bool.false_or, ih]
      simp [dget, List.find?_cons, e]
theorem ent_put {K : PySem.W.Frag} {k : NestedKey} {p pv : PV} {b : Addr} {u : Value} {v : V} (hk : nk p = some k) (hd : k.depth ≤ 8) (rb : RV K H (.ref b) p) (ru : RelV v u) (rv : RV K H v pv) {kvs : List (PV × PV)} {xs : List (NestedKey × Addr × Value)} (r : Paired (EntT K H) kvs xs) :
    Paired (EntT K H) (dput kvs p pv) (storedH xs k b u) := by
  unfold dput
  rw [any_dget]
  rcases ent_at hk r with ⟨e1, e2⟩ | ⟨q, b', u', v', e1, e2, r1, r2⟩
  · rw [e1, storedH_new e2]
    simp only [Option.isSome_none, Bool.false_eq_true, if_false]
    exact Paired.snoc r ⟨hk, hd, rb, v, ru, rv⟩
  · rw [e1, storedH_old e2]
    simp only [Option.isSome_some, if_true]
    refine paired_put r fun kv x ⟨q1, q2, q3, w', q4, q5⟩ => ?_
    by_cases e : kv.1 = p
    · have e' : x.1 = k := by rw [e, hk] at q1; exact (Option.some.inj q1).symm
      simp only [if_pos e, putAt, if_pos e']
      exact ⟨q1, q2, q3, v, ru, rv⟩
    · have e' : ¬ x.1 = k := fun z => e (nk_inj _ _ _ q1 (by rw [hk, z]))
      simp only [if_neg e, putAt, if_neg e']
      exact ⟨q1, q2, q3, w', q4, q5⟩
theorem ent_putK {K : PySem.W.Frag} {p pv : PV} {v : V} (hk : p.leaf = true) (rv : RV K H v pv) {kvs : List (PV × PV)} {ds : List (Key × V)} (r : Paired (EntK K H) kvs ds) :
    Paired (EntK K H) (dput kvs p pv) (putK ds (keyOf p) v) := by
  unfold dput putK
  rw [any_dget, valV_any]
  rcases ent_atK hk r with ⟨e1, e2⟩ | ⟨q, v', e1, e2, r2⟩
  · rw [e1, e2]
    simp only [Option.isSome_none, Bool.false_eq_true, if_false]
    exact Paired.snoc r ⟨(kP_keyOf hk).symm, rv⟩
  · rw [e1, e2]
    simp only [Option.isSome_some, if_true]
    refine paired_put r fun kv x ⟨q1, q2⟩ => ?_
    by_cases e : kv.1 = p
    · have e' : x.1 = keyOf p := kP_inj (by rw [kP_keyOf hk, ← q1, e])
      simp only [if_pos e, if_pos e']
      exact ⟨q1, rv⟩
    · have e' : ¬ x.1 = keyOf p := fun z => e (by rw [q1, z, kP_keyOf hk])
      simp only [if_neg e, if_neg e']
      exact ⟨q1, q2⟩
theorem len_storedH (xs : List (NestedKey × Addr × Value)) (k : NestedKey) (b : Addr) (u : Value) : (storedH xs k b u).length ≤ xs.length + 1 := by
  unfold storedH
  split <;> simp
theorem len_dput (kvs : List (PV × PV)) (p v : PV) : (dput kvs p v).length ≤ kvs.length + 1 := by
  unfold dput
  split <;> simp
end

/-- o[k] -/
def zIx : Z2
  | .tup xs, .int i, h, Q => ∃ v, atI xs i = some v ∧ Q v h
  | .str x, .int i, h, Q => ∃ c, x.length ≤ sizeLine ∧ atI x i = some c ∧ Q (.str [c]) h
  | .ref a, k, h, Q => match h a, k with
    | some (.lst xs), .int i => ∃ v, atI xs i = some v ∧ Q v h
    | some (.dic t _ kvs), k => keyOk t k = true ∧ ∃ v, dget kvs k = some v ∧ Q v h
    | _, _ => False
  | _, _, _, _ => False
/-- x in c -/
def zIn : Z2
  | x, .tup ys, h, Q => x.flat = true ∧ ys.all PV.flat = true ∧ x.pl = true ∧ PV.pls ys = true ∧ Q (.bl (decide (x ∈ ys))) h
  | x, .ref a, h, Q => match h a with
    | some (.lst ys) => x.pl = true ∧ x.dp ≤ 64 ∧ PV.pls ys = true ∧ PV.dps ys ≤ 63 ∧ Q (.bl (decide (x ∈ ys))) h
    | some (.dic t _ kvs) => keyOk t x = true ∧ Q (.bl (dget kvs x).isSome) h
    | none => False
  | _, _, _, _ => False
section
variable {X : Cx}
theorem atI_rv {K : PySem.W.Frag} {H : Hp} {vs : List V} {ps : List PV} {i : Int} {p : PV} (r : RVs K H vs ps) (e : atI ps i = some p) : ∃ v, atI vs i = some v ∧ RV K H v p := by
  unfold atI at e ⊢
  rw [r.length]
  obtain ⟨j, e1, e2⟩ := Option.bind_eq_some_iff.mp e
  obtain ⟨v, f1, f2⟩ := r.get e2
  exact ⟨v, by rw [e1]; exact f1, f2⟩
/-- a subscript of a dict, by values -/
theorem ix_dic {T id : String} (hl : typeLookup (.type T) "__getitem__" = pure (some (.builtin id))) {value slice : Expr} {A : Around} {E : Value → Shared → Prop} {s : Shared} {o i : Value} {Q : Value → Shared → Prop} (hT : s.TypeIs o T)
    (hs : subscripted slice false o i = operate [o, i] (getItem o i)) (h : wpAny (model X.prog X.w) A (getItem o i) Q E s) : wpAny (model X.prog X.w) A (subscriptTail value slice o i) Q E s := by
  unfold subscriptTail
  refine wpAny_bind ?_
  rw [getitemInPython_of_ne hT.not_modules]
  refine wpAny_bind (wpAny_specialOf hT hl ?_)
  have fin : wpAny (model X.prog X.w) A (subscripted slice false o i) (fun r s₃ => wpAny (model X.prog X.w) A (letTemporaryGo value o r >>= fun _ => pure r) Q E s₃) E s := by
    rw [hs]
    exact wpAny_operating (wpAny_mono h (fun r s₃ h₃ => wpAny_bind (wpAny_letTemporaryGo (wpAny_pure h₃))) fun _ _ x => x)
  first
    | exact wpAny_pure (wpAny_bind fin)
    | exact wpAny_bind (wpAny_pure (wpAny_bind fin))
    | exact wpAny_bind fin
theorem qx_ix (hu : X.A.units + 64 < cLine) : IxR X (L2r X.prog X.w X.K zIx) := by
  intro value slice pins s σ H x y v u Q I rx ry ⟨p, q, h, Qp, r1, r2, rh, z, k⟩ hs
  cases p
  case tup xs =>
    cases q <;> first | (exact False.elim z) | skip
    cases r2
    obtain ⟨pv, e, z⟩ := z
    cases r1 with
    | tup s1 l1 q1 =>
      obtain ⟨w, e2, rw'⟩ := atI_rv q1 e
      exact ix_tup value slice pins s σ H _ _ v u Q I rx ry ⟨_, _, _, w, rfl, rfl, s1, e2, k.now rh rw' z⟩ hs
  case str x =>
    cases q <;> first | (exact False.elim z) | skip
    cases r2; cases r1
    obtain ⟨c, hl, e, z⟩ := z
    exact ix_str value slice pins s σ H _ _ v u Q I rx ry ⟨_, _, c, rfl, rfl, by simpa [Str.length] using hl, by simpa using e, k.now rh (.str [c]) z⟩ hs
  case ref a =>
    simp only [zIx] at z
    cases r1
    cases ea : h a with
    | none => rw [ea] at z; exact False.elim z
    | some o =>
      cases o with
      | lst xs =>
        rw [ea] at z
        cases q <;> first | (exact False.elim z) | skip
        cases r2
        obtain ⟨pv, e, z⟩ := z
        obtain ⟨us, f1, l1, q1⟩ := rh a _ ea
        obtain ⟨w, e2, rw'⟩ := atI_rv q1 e
        exact ix_list value slice pins s σ H _ _ v u Q I rx ry ⟨_, _, _, w, rfl, rfl, SqL.of f1, e2, k.now rh rw' z⟩ hs
      | dic t lk kvs =>
        rw [ea] at z
        obtain ⟨hk, pv, e, z'⟩ := (show keyOk t q = true ∧ ∃ v, dget kvs q = some v ∧ Qp v h by cases q <;> exact z)
        clear z
        cases rx
        cases t with
        | false =>
          obtain ⟨ds, f1, l1, r⟩ := rh a _ ea
          have hk' : q.leaf = true := hk
          rcases ent_atK hk' r with ⟨e1, _⟩ | ⟨q', v', e1, e2, r'⟩
          · rw [e] at e1; cases e1
          · rw [e] at e1; cases e1
            have g : DGet H a y (some v') := .inl ⟨ds, keyOf q, f1.rd, kV_of hk' r2, e2.symm⟩
            exact ix_dic PySem.F.slot_dict_getitem.lookup (dict_typeIs I g) hs (d_getItem (by omega) I g ry fun w' s3 I3 rw' => ⟨v', H, I3, rw', k.now rh r' z'⟩)
        | true =>
          obtain ⟨xs, f1, l1, r⟩ := rh a _ ea
          obtain ⟨k', hk1, hk2⟩ := keyT hk
          obtain ⟨b, eb⟩ := keyT_ref hk r2
          subst eb
          cases ry
          obtain ⟨g1, g2, g3⟩ := dic_of I f1.rd r
          rcases ent_at hk1 r with ⟨e1, _⟩ | ⟨q', b', u', v', e1, e2, r1', r2'⟩
          · rw [e] at e1; cases e1
          · rw [e] at e1; cases e1
            refine ix_dic PySem.F.slot_dict_getitem.lookup g3.typeIs hs (wpAny_getItem_heap (knd := nestedKind X.prog X.w) (by show X.A.units + 1 + 8 < cLine; omega) ⟨r2.nested I _ _ _ _ hk1 rfl, hk2⟩ g3 e2 ?_)
            exact ⟨v', H, I.tok _, r1', k.now rh r2' z'⟩
  all_goals (cases q <;> exact False.elim z)
end
end G

namespace G
open PySem PySem.Spec PyProof.Rows L2

/-- x in c -/
def zHas : PV → PV → PH → (Bool → Prop) → Prop
  | x, .tup ys, h, Q => x.pl = true ∧ x.dp ≤ 64 ∧ PV.pls ys = true ∧ PV.dps ys ≤ 63 ∧ Q (decide (x ∈ ys))
  | x, .ref a, h, Q => match h a with
    | some (.lst ys) => x.pl = true ∧ x.dp ≤ 64 ∧ PV.pls ys = true ∧ PV.dps ys ≤ 63 ∧ Q (decide (x ∈ ys))
    | some (.dic t _ kvs) => keyOk t x = true ∧ Q (dget kvs x).isSome
    | none => False
  | _, _, _, _ => False
def zInn (neg : Bool) : Z2 := fun x c h Q => zHas x c h fun b => Q (.bl (if neg then !b else b)) h
theorem any_eqv {x : PV} (hx : x.pl = true) : ∀ {ys : List PV}, PV.pls ys = true → ((PV.Ds ys).any fun z => PyData.eqv z x.D) = decide (x ∈ ys)
  | [], _ => by simp [PV.Ds]
  | y :: ys, h => by
    simp only [PV.pls, Bool.and_eq_true] at h
    rw [PV.Ds, List.any_cons, PV.D_eqv y x h.1 hx, any_eqv hx h.2, PV.beq_dec, Bool.eq_iff_iff, Bool.or_eq_true, decide_eq_true_eq, decide_eq_true_eq, decide_eq_true_eq, List.mem_cons]
    exact ⟨fun z => z.imp Eq.symm id, fun z => z.imp Eq.symm id⟩
section
variable {X : Cx}
theorem qo_in (hu : X.A.units + 70 < cLine) : QO X (compareOp .In) (zInn false) := by
  intro pins s σ H x y v u Q I rx ry ⟨p, q, h, Qp, r1, r2, rh, z, k⟩
  cases q
  case tup ys =>
    cases r2 with
    | tup s2 l2 q2 =>
      cases ry
      obtain ⟨z1, z2, z3, z4, z⟩ := z
      obtain ⟨as, d1⟩ := Dp.reads I p.D x v (r1.dp _ _ z1) rx
      obtain ⟨bs, d2⟩ := Dp.reads I (.tuple (PV.Ds ys)) _ _ (.tup s2 (q2.dp _ _ z3)) rfl
      refine SeqAt.in_tuple_reads d2 d1 (PV.Ds_lay _ z3) (PV.D_lay _ z1) ?_ ⟨.bl _, H, I, rfl, ?_⟩
      · rw [PV.Ds_depth, PV.D_depth]; show X.A.units + 1 + _ < _; omega
      · rw [any_eqv z1 z3]
        exact k.now rh (.bl _) z
  case ref a =>
    simp only [zInn, zHas] at z
    cases r2
    cases ry
    cases ea : h a with
    | none => rw [ea] at z; exact False.elim z
    | some o =>
      cases o with
      | lst ys =>
        rw [ea] at z
        obtain ⟨z1, z2, z3, z4, z⟩ := z
        obtain ⟨us, f1, l1, q1⟩ := rh a _ ea
        refine op_inD (by omega) pins s σ H x (.ref a) v _ Q I rx rfl ⟨_, _, r1.dp _ _ z1, .lst (SqL.of f1) (q1.dp _ _ z3), PV.shaped z1 z2, PV.shapedL z3 z4, ?_⟩
        rw [any_eqv z1 z3]
        exact k.now rh (.bl _) z
      | dic t lk kvs =>
        rw [ea] at z
        obtain ⟨hk, z⟩ := z
        cases t with
        | false =>
          obtain ⟨ds, f1, l1, r⟩ := rh a _ ea
          have hk' : p.leaf = true := hk
          have e2 : (dget kvs p).isSome = (valV ds (keyOf p)).isSome := by
            rcases ent_atK hk' r with ⟨e1, e2⟩ | ⟨q', v', e1, e2, r'⟩ <;> rw [e1, e2] <;> rfl
          have g : DGet H a x (valV ds (keyOf p)) := .inl ⟨ds, keyOf p, f1.rd, kV_of hk' r1, rfl⟩
          refine d_in (by omega) I g rx fun s3 I3 => ⟨.bl (valV ds (keyOf p)).isSome, H, I3, rfl, ?_⟩
          rw [← e2]
          exact k.now rh (.bl _) z
        | true =>
          obtain ⟨xs, f1, l1, r⟩ := rh a _ ea
          obtain ⟨k', hk1, hk2⟩ := keyT hk
          obtain ⟨b, eb⟩ := keyT_ref hk r1
          subst eb
          cases rx
          obtain ⟨g1, g2, g3⟩ := dic_of I f1.rd r
          have e2 : (dget kvs p).isSome = (atKey xs k').isSome := by
            rcases ent_at hk1 r with ⟨e1, e2⟩ | ⟨q', b', u', v', e1, e2, _⟩ <;> rw [e1, e2] <;> rfl
          refine wpAny_in_heap (knd := nestedKind X.prog X.w) (by show X.A.units + 1 + 8 < cLine; omega) ⟨r1.nested I _ _ _ _ hk1 rfl, hk2⟩ g1 g3 ?_
          exact ⟨.bl (atKey xs k').isSome, H, I.tok _, rfl, by rw [← e2]; exact k.now rh (.bl _) z⟩
  all_goals (cases p <;> exact False.elim z)
theorem qo_notIn (hu : X.A.units + 70 < cLine) : QO X (compareOp .NotIn) (zInn true) := by
  intro pins s σ H x y v u Q I rx ry ⟨p, q, h, Qp, r1, r2, rh, z, k⟩
  cases q
  case tup ys =>
    cases r2 with
    | tup s2 l2 q2 =>
      cases ry
      obtain ⟨z1, z2, z3, z4, z⟩ := z
      obtain ⟨as, d1⟩ := Dp.reads I p.D x v (r1.dp _ _ z1) rx
      obtain ⟨bs, d2⟩ := Dp.reads I (.tuple (PV.Ds ys)) _ _ (.tup s2 (q2.dp _ _ z3)) rfl
      refine SeqAt.notIn_tuple_reads d2 d1 (PV.Ds_lay _ z3) (PV.D_lay _ z1) ?_ ⟨.bl _, H, I, rfl, ?_⟩
      · rw [PV.Ds_depth, PV.D_depth]; show X.A.units + 1 + _ < _; omega
      · rw [any_eqv z1 z3]
        exact k.now rh (.bl _) z
  case ref a =>
    simp only [zInn, zHas] at z
    cases r2
    cases ry
    cases ea : h a with
    | none => rw [ea] at z; exact False.elim z
    | some o =>
      cases o with
      | lst ys =>
        rw [ea] at z
        obtain ⟨z1, z2, z3, z4, z⟩ := z
        obtain ⟨us, f1, l1, q1⟩ := rh a _ ea
        refine op_notInD (by omega) pins s σ H x (.ref a) v _ Q I rx rfl ⟨_, _, r1.dp _ _ z1, .lst (SqL.of f1) (q1.dp _ _ z3), PV.shaped z1 z2, PV.shapedL z3 z4, ?_⟩
        rw [any_eqv z1 z3]
        exact k.now rh (.bl _) z
      | dic t lk kvs =>
        rw [ea] at z
        obtain ⟨hk, z⟩ := z
        cases t with
        | false =>
          obtain ⟨ds, f1, l1, r⟩ := rh a _ ea
          have hk' : p.leaf = true := hk
          have e2 : (dget kvs p).isSome = (valV ds (keyOf p)).isSome := by
            rcases ent_atK hk' r with ⟨e1, e2⟩ | ⟨q', v', e1, e2, r'⟩ <;> rw [e1, e2] <;> rfl
          have g : DGet H a x (valV ds (keyOf p)) := .inl ⟨ds, keyOf p, f1.rd, kV_of hk' r1, rfl⟩
          refine d_notIn (by omega) I g rx fun s3 I3 => ⟨.bl (!(valV ds (keyOf p)).isSome), H, I3, rfl, ?_⟩
          rw [← e2]
          exact k.now rh (.bl _) z
        | true =>
          obtain ⟨xs, f1, l1, r⟩ := rh a _ ea
          obtain ⟨k', hk1, hk2⟩ := keyT hk
          obtain ⟨b, eb⟩ := keyT_ref hk r1
          subst eb
          cases rx
          obtain ⟨g1, g2, g3⟩ := dic_of I f1.rd r
          have e2 : (dget kvs p).isSome = (valueAt (pairsH xs) k').isSome := by
            rw [valueAt_pairsH, Option.isSome_map]
            rcases ent_at hk1 r with ⟨e1, e2⟩ | ⟨q', b', u', v', e1, e2, _⟩ <;> rw [e1, e2] <;> rfl
          refine notIn_keyed (knd := nestedKind X.prog X.w) (by show X.A.units + 1 + 8 < cLine; omega) ⟨r1.nested I _ _ _ _ hk1 rfl, hk2⟩ g1 ⟨xs, g3, rfl⟩ ?_
          exact ⟨.bl (!(valueAt (pairsH xs) k').isSome), H, I.tok _, rfl, by rw [← e2]; exact k.now rh (.bl _) z⟩
  all_goals (cases p <;> exact False.elim z)

/-! ### is -/
def zIs (neg : Bool) : Z2
  | a, .non, h, Q => Q (.bl (if neg then !decide (a = .non) else decide (a = .non))) h
  | .bl a, .bl b, h, Q => Q (.bl (if neg then !decide (a = b) else decide (a = b))) h
  | _, _, _, _ => False
theorem rv_non {K : PySem.W.Frag} {H : Hp} {x : V} {p : PV} (r : RV K H x p) : decide (x = .non) = decide (p = .non) := by
  cases r <;> simp
theorem qo_is : QO X (compareOp .Is) (zIs false) := by
  intro pins s σ H x y v u Q I rx ry ⟨p, q, h, Qp, r1, r2, rh, z, k⟩
  cases q
  case non =>
    cases r2
    refine op_isN pins s σ H x _ v u Q I rx ry ⟨rfl, ?_⟩
    rw [rv_non r1]
    cases p <;> exact k.now rh (.bl _) z
  case bl b =>
    cases p <;> first | (exact False.elim z) | skip
    cases r1; cases r2
    exact op_isBl pins s σ H _ _ v u Q I rx ry ⟨_, _, rfl, rfl, k.now rh (.bl _) z⟩
  all_goals (cases p <;> exact False.elim z)
theorem qo_isNot : QO X (compareOp .IsNot) (zIs true) := by
  intro pins s σ H x y v u Q I rx ry ⟨p, q, h, Qp, r1, r2, rh, z, k⟩
  cases q
  case non =>
    cases r2
    refine op_notN pins s σ H x _ v u Q I rx ry ⟨rfl, ?_⟩
    rw [rv_non r1]
    cases p <;> exact k.now rh (.bl _) z
  case bl b =>
    cases p <;> first | (exact False.elim z) | skip
    cases r1; cases r2
    exact op_notBl pins s σ H _ _ v u Q I rx ry ⟨_, _, rfl, rfl, k.now rh (.bl _) z⟩
  all_goals (cases p <;> exact False.elim z)

/-! ### truth -/
def zTr : PV → PH → (Bool → Prop) → Prop
  | .non, _, Q => Q false
  | .bl b, _, Q => Q b
  | .int i, _, Q => Q (i != 0)
  | .str x, _, Q => x.length ≤ sizeLine ∧ Q (!x.isEmpty)
  | .tup xs, _, Q => Q (!xs.isEmpty)
  | .ref a, h, Q => match h a with
    | some (.lst xs) => Q (!xs.isEmpty)
    | some (.dic false none kvs) => Q (!kvs.isEmpty)
    | _ => False
  | .scr _, _, _ => False
theorem rvs_empty {K : PySem.W.Frag} {H : Hp} {vs : List V} {ps : List PV} (r : RVs K H vs ps) : (!vs.isEmpty) = !ps.isEmpty := by cases r <;> rfl
theorem tru_z {P : Program} {w : World} {K : PySem.W.Frag} {H : Hp} {h : PH} {v : V} {p : PV} {Q : Bool → Prop} (rh : RH P w K H h) (r : RV K H v p) (z : zTr p h Q) : ∃ k, TruV K v H k ∧ Q k := by
  cases p
  case non => cases r; exact ⟨_, rfl, z⟩
  case bl => cases r; exact ⟨_, rfl, z⟩
  case int => cases r; exact ⟨_, rfl, z⟩
  case str x =>
    cases r
    refine ⟨_, ⟨by simpa [Str.length] using z.1, rfl⟩, ?_⟩
    have e : ((((tS x).length : Nat) : Int) != 0) = !x.isEmpty := by cases x <;> simp [Str.length, tS] <;> omega
    rw [e]
    exact z.2
  case tup xs =>
    cases r with
    | tup s l q => exact ⟨_, .inr (.inl ⟨_, s, rfl⟩), by rw [rvs_empty q]; exact z⟩
  case ref a =>
    cases r
    simp only [zTr] at z
    cases ea : h a with
    | none => rw [ea] at z; exact False.elim z
    | some o =>
      rw [ea] at z
      cases o with
      | lst xs =>
        obtain ⟨us, f1, l1, q1⟩ := rh a _ ea
        exact ⟨_, .inl ⟨_, SqL.of f1, rfl⟩, by rw [rvs_empty q1]; exact z⟩
      | dic t lk kvs =>
        cases t <;> cases lk <;> first | (exact False.elim z) | skip
        · obtain ⟨ds, f1, l1, q1⟩ := rh a _ ea
          refine ⟨_, .inr (.inr ⟨_, f1, rfl⟩), ?_⟩
          have e : (!ds.isEmpty) = !kvs.isEmpty := by cases q1 <;> rfl
          rw [e]; exact z
  case scr => exact False.elim z
end
/-- a value as a test -/
def ztOf (t : ZE) : ZT := fun ρ h Q => t ρ h fun p h1 => zTr p h1 fun b => Q b h1
def ztB (t : ZE) : ZT := fun ρ h Q => t ρ h fun p h1 => match p with | .bl k => Q k h1 | _ => False
def ztAnd (a b : ZT) : ZT := fun ρ h Q => a ρ h fun k h1 => if k = true then b ρ h1 Q else Q false h1
def ztOr (a b : ZT) : ZT := fun ρ h Q => a ρ h fun k h1 => if k = true then Q true h1 else b ρ h1 Q
def ztNot (a : ZT) : ZT := fun ρ h Q => a ρ h fun k h1 => Q (!k) h1
def zAnd (a b : ZE) : ZE := fun ρ h Q => a ρ h fun p h1 => zTr p h1 fun k => if k = true then b ρ h1 Q else Q p h1
def zOr (a b : ZE) : ZE := fun ρ h Q => a ρ h fun p h1 => zTr p h1 fun k => if k = true then Q p h1 else b ρ h1 Q
def zNt (a : ZE) : ZE := fun ρ h Q => a ρ h fun p h1 => zTr p h1 fun k => Q (.bl (!k)) h1
def zIf (c : ZT) (a b : ZE) : ZE := fun ρ h Q => c ρ h fun k h1 => if k = true then a ρ h1 Q else b ρ h1 Q
section
variable {X : Cx} {e a b c : Expr} {es rest : List Expr} {t ta tb tc : ZE} {ca cb : ZT} {pos : Pos}
abbrev QW (X : Cx) (e : Expr) (t : ZT) : Prop := PW X e (LT X.prog X.w X.K t)
theorem pwI {X : Cx} {e : Expr} {t t' : TT} (h : PW X e t) (i : ∀ σ H Q, t' σ H Q → t σ H Q) : PW X e t' := ⟨fun wh pins s σ H Q I q => h.run wh pins s σ H Q I (i σ H Q q)⟩
/-- the plain test: its value's truth -/
theorem qt_of (ha : QE X a ta) (he : ∀ whole, isTrue a X.env whole = (do let v ← whole; standAt a.pos; holding [v] (truthy v))) : QT X a (ztOf ta) :=
  ptI (pt_truth ha he) fun σ H Q ⟨ρ, h, Qp, rs, rh, t, k⟩ => ⟨ρ, h, _, rs, rh, t, fun p h1 t1 v H1 s1 r1 rh1 => by
    obtain ⟨b, b1, b2⟩ := tru_z rh1 r1 t1
    exact ⟨b, b1, k b h1 b2 H1 s1 rh1⟩⟩
theorem qt_cmp {op : CmpOp} {r : Z2} (ho : QO X (compareOp op) r) (ha : QE X a ta) (hb : QE X b tb) (hm : behindInMarks op b = false) : QT X (.Compare a [op] [b] pos) (ztB (z2 r ta tb)) :=
  ptI (pt_cmpR ho ha hb hm) fun σ H Q ⟨ρ, h, Qp, rs, rh, t, k⟩ => le_op ⟨ρ, h, _, rs, rh, t, fun p h1 t1 v H1 s1 r1 rh1 => by
    cases p <;> first | (exact False.elim t1) | skip
    cases r1
    exact ⟨_, rfl, k _ _ t1 H1 s1 rh1⟩⟩
theorem qt_not (ha : QT X a ca) : QT X (.UnaryOp .Not a pos) (ztNot ca) :=
  ptI (pt_not ha) fun σ H Q ⟨ρ, h, Qp, rs, rh, t, k⟩ => ⟨ρ, h, _, rs, rh, t, fun b h1 t1 H1 s1 rh1 => k _ _ t1 H1 s1 rh1⟩
theorem qw_and1 (ha : QT X a ca) : QW X (.BoolOp .And [a] pos) ca := pw_and1 ha
theorem qw_or1 (ha : QT X a ca) : QW X (.BoolOp .Or [a] pos) ca := pw_or1 ha
theorem qw_and (ha : QT X a ca) (hb : QW X (.BoolOp .And (b :: rest) pos) cb) : QW X (.BoolOp .And (a :: b :: rest) pos) (ztAnd ca cb) :=
  pwI (pw_and ha hb) fun σ H Q ⟨ρ, h, Qp, rs, rh, t, k⟩ => ⟨ρ, h, _, rs, rh, t, fun b h1 t1 H1 s1 rh1 => by
    cases b with
    | true =>
      rw [if_pos rfl] at t1 ⊢
      exact ⟨ρ, h1, Qp, rs.stp rh s1, rh1, t1, fun b' h2 t2 H2 s2 rh2 => k b' h2 t2 H2 (s1.trans s2) rh2⟩
    | false =>
      rw [if_neg Bool.false_ne_true] at t1 ⊢
      exact k _ _ t1 H1 s1 rh1⟩
theorem qw_or (ha : QT X a ca) (hb : QW X (.BoolOp .Or (b :: rest) pos) cb) : QW X (.BoolOp .Or (a :: b :: rest) pos) (ztOr ca cb) :=
  pwI (pw_or ha hb) fun σ H Q ⟨ρ, h, Qp, rs, rh, t, k⟩ => ⟨ρ, h, _, rs, rh, t, fun b h1 t1 H1 s1 rh1 => by
    cases b with
    | false =>
      rw [if_neg Bool.false_ne_true] at t1 ⊢
      exact ⟨ρ, h1, Qp, rs.stp rh s1, rh1, t1, fun b' h2 t2 H2 s2 rh2 => k b' h2 t2 H2 (s1.trans s2) rh2⟩
    | true =>
      rw [if_pos rfl] at t1 ⊢
      exact k _ _ t1 H1 s1 rh1⟩
theorem qe_one {op} (h : QE X a t) : QE X (.BoolOp op [a] pos) t := pe_one h
theorem qe_and (ha : QE X a ta) (hb : QE X (.BoolOp .And (b :: rest) pos) tb) : QE X (.BoolOp .And (a :: b :: rest) pos) (zAnd ta tb) :=
  peI (pe_andT ha hb) fun σ H Q ⟨ρ, h, Qp, rs, rh, t, k⟩ => ⟨ρ, h, _, rs, rh, t, fun p h1 t1 v H1 s1 r1 rh1 => by
    obtain ⟨b, b1, b2⟩ := tru_z rh1 r1 t1
    refine ⟨b, b1, ?_⟩
    cases b with
    | true =>
      rw [if_pos rfl] at b2 ⊢
      exact ⟨ρ, h1, Qp, rs.stp rh s1, rh1, b2, k.later s1⟩
    | false =>
      rw [if_neg Bool.false_ne_true] at b2 ⊢
      exact (k.later s1).now rh1 r1 b2⟩
theorem qe_or (ha : QE X a ta) (hb : QE X (.BoolOp .Or (b :: rest) pos) tb) : QE X (.BoolOp .Or (a :: b :: rest) pos) (zOr ta tb) :=
  peI (pe_orT ha hb) fun σ H Q ⟨ρ, h, Qp, rs, rh, t, k⟩ => ⟨ρ, h, _, rs, rh, t, fun p h1 t1 v H1 s1 r1 rh1 => by
    obtain ⟨b, b1, b2⟩ := tru_z rh1 r1 t1
    refine ⟨b, b1, ?_⟩
    cases b with
    | false =>
      rw [if_neg Bool.false_ne_true] at b2 ⊢
      exact ⟨ρ, h1, Qp, rs.stp rh s1, rh1, b2, k.later s1⟩
    | true =>
      rw [if_pos rfl] at b2 ⊢
      exact (k.later s1).now rh1 r1 b2⟩
theorem qe_not (ha : QE X a ta) : QE X (.UnaryOp .Not a pos) (zNt ta) :=
  peI (pe_notT ha) fun σ H Q ⟨ρ, h, Qp, rs, rh, t, k⟩ => ⟨ρ, h, _, rs, rh, t, fun p h1 t1 v H1 s1 r1 rh1 => by
    obtain ⟨b, b1, b2⟩ := tru_z rh1 r1 t1
    exact ⟨b, b1, (k.later s1).now rh1 (.bl _) b2⟩⟩
theorem qe_if (hc : QT X c ca) (ha : QE X a ta) (hb : QE X b tb) : QE X (.IfExp c a b pos) (zIf ca ta tb) :=
  peI (pe_ifExp hc ha hb) fun σ H Q ⟨ρ, h, Qp, rs, rh, t, k⟩ => ⟨ρ, h, _, rs, rh, t, fun b h1 t1 H1 s1 rh1 => by
    cases b with
    | true => rw [if_pos rfl] at t1 ⊢; exact ⟨ρ, h1, Qp, rs.stp rh s1, rh1, t1, k.later s1⟩
    | false => rw [if_neg Bool.false_ne_true] at t1 ⊢; exact ⟨ρ, h1, Qp, rs.stp rh s1, rh1, t1, k.later s1⟩⟩
def zNeg (a : ZE) : ZE := fun ρ h Q => a ρ h fun p h1 => match p with | .int i => Q (.int (-i)) h1 | _ => False
theorem qe_neg (ha : QE X a ta) : QE X (.UnaryOp .USub a pos) (zNeg ta) :=
  peI (pe_un un_neg ha) fun σ H Q ⟨ρ, h, Qp, rs, rh, t, k⟩ => ⟨ρ, h, _, rs, rh, t, fun p h1 t1 v H1 s1 r1 rh1 => by
    cases p <;> first | (exact False.elim t1) | skip
    cases r1
    exact ⟨_, rfl, (k.later s1).now rh1 (.int _) t1⟩⟩
/-! ### arguments, displays -/
def zaNil : ZA := fun _ h Q => Q [] h
def zaCons (t : ZE) (r : ZA) : ZA := fun ρ h Q => t ρ h fun p h1 => r ρ h1 fun ps h2 => Q (p :: ps) h2
theorem qa_nil : QA X [] zaNil := paI pa_nil fun σ H Q ⟨ρ, h, Qp, rs, rh, t, k⟩ => k [] h t [] H (Stp.refl h H) .nil rh
theorem qa_cons {r : ZA} (ha : QE X e t) (hr : QA X es r) (hs : starEach (e :: es) X.env = (false, eval e X.env) :: starEach es X.env) : QA X (e :: es) (zaCons t r) :=
  paI (pa_cons ha hr hs) fun σ H Q ⟨ρ, h, Qp, rs, rh, t, k⟩ => ⟨ρ, h, _, rs, rh, t, fun p h1 t1 v H1 s1 r1 rh1 =>
    ⟨ρ, h1, _, rs.stp rh s1, rh1, t1, fun ps h2 t2 vs H2 s2 r2 rh2 => k _ _ t2 _ _ (s1.trans s2) (.cons (r1.stp rh1 s2) r2) rh2⟩⟩
def zTup (t : ZA) : ZE := fun ρ h Q => t ρ h fun ps h1 => ps.length ≤ sizeLine ∧ Q (.tup ps) h1
def zLst (t : ZA) : ZE := fun ρ h Q => t ρ h fun ps h1 => ps.length ≤ sizeLine ∧ ∀ p, h1 p = none → Q (.ref p) (up h1 p (.lst ps))
theorem qe_tup {x1} {r : ZA} (h : QA X es r) : QE X (.Tuple es x1 pos) (zTup r) :=
  peI (pe_tup h) fun σ H Q ⟨ρ, h, Qp, rs, rh, t, k⟩ => ⟨ρ, h, _, rs, rh, t, fun ps h1 t1 vs H1 s1 r1 rh1 =>
    ⟨by rw [r1.length]; exact t1.1, (k.later s1).tup rh1 r1 (by rw [r1.length]; exact t1.1) t1.2⟩⟩
theorem qe_lst {r : ZA} (h : QA X es r) : QE X (.List es pos) (zLst r) :=
  peI (pe_lst h) fun σ H Q ⟨ρ, h, Qp, rs, rh, t, k⟩ => ⟨ρ, h, _, rs, rh, t, fun ps h1 t1 vs H1 s1 r1 rh1 =>
    ⟨by rw [r1.length]; exact t1.1, (k.later s1).lst rh1 r1 (by rw [r1.length]; exact t1.1) t1.2⟩⟩
end
end G

namespace G
open PySem PySem.Spec PyProof.Rows L2

/-! ### slices -/
def cut {α : Type} (xs : List α) (lo hi : Option Int) : List α := (xs.drop (HT.sIx xs.length 0 lo)).take (HT.sIx xs.length xs.length hi - HT.sIx xs.length 0 lo)
theorem cut_length {α : Type} (xs : List α) (lo hi : Option Int) : (cut xs lo hi).length ≤ xs.length := by
  unfold cut
  rw [List.length_take, List.length_drop]
  omega
theorem cut_rvs {K : PySem.W.Frag} {H : Hp} {vs : List V} {ps : List PV} (r : RVs K H vs ps) (lo hi : Option Int) : RVs K H (cutV vs lo hi) (cut ps lo hi) := by
  unfold cutV cut
  rw [r.length]
  exact (r.drop _).take _
abbrev ZO := Ev → PH → (Option Int → PH → Prop) → Prop
def LO (P : Program) (w : World) (K : PySem.W.Frag) (t : ZO) : TO := fun σ H Q => ∃ ρ h Qp, RS K H σ ρ ∧ RH P w K H h ∧ t ρ h Qp ∧ ∀ o h', Qp o h' → ∀ H', Stp h H h' H' → RH P w K H' h' → Q o H'
abbrev QOp (X : Cx) (e : Option Expr) (t : ZO) : Prop := L2.PO X e (LO X.prog X.w X.K t)
def zoNone : ZO := fun _ h Q => Q none h
def zoSome (t : ZE) : ZO := fun ρ h Q => t ρ h fun p h1 => match p with | .int i => Q (some i) h1 | _ => False
theorem poI {X : Cx} {e : Option Expr} {t t' : TO} (h : L2.PO X e t) (i : ∀ σ H Q, t' σ H Q → t σ H Q) : L2.PO X e t' := ⟨fun pins s σ H Q I q => h.run pins s σ H Q I (i σ H Q q)⟩
def zSlV : PV → Option Int → Option Int → PH → QV → Prop
  | .tup xs, lo, hi, h, Q => Q (.tup (cut xs lo hi)) h
  | .str x, lo, hi, h, Q => x.length ≤ sizeLine ∧ Q (.str (cut x lo hi)) h
  | .ref a, lo, hi, h, Q => match h a with
    | some (.lst xs) => ∀ p, h p = none → Q (.ref p) (up h p (.lst (cut xs lo hi)))
    | _ => False
  | _, _, _, _, _ => False
def zSl (t : ZE) (lo hi : ZO) : ZE := fun ρ h Q => t ρ h fun p h1 => lo ρ h1 fun l h2 => hi ρ h2 fun u h3 => zSlV p l u h3 Q
section
variable {X : Cx} {e a b c : Expr} {es rest : List Expr} {t ta tb tc : ZE} {lo hi : Option Expr} {tl th : ZO} {pos p2 : Pos}
theorem qp_none : QOp X none zoNone := poI po_none fun σ H Q ⟨ρ, h, Qp, rs, rh, t, k⟩ => k _ h t H (Stp.refl h H) rh
theorem qp_some (he : QE X e t) : QOp X (some e) (zoSome t) := poI (po_some he) fun σ H Q ⟨ρ, h, Qp, rs, rh, t, k⟩ => ⟨ρ, h, _, rs, rh, t, fun p h1 t1 v H1 s1 r1 rh1 => by
    cases p <;> first | (exact False.elim t1) | skip
    cases r1
    exact ⟨_, rfl, k _ h1 t1 H1 s1 rh1⟩⟩
theorem qs_sl : SlR X (fun x lo hi H Q => ∃ a h Qp, RV X.K H x a ∧ RH X.prog X.w X.K H h ∧ zSlV a lo hi h Qp ∧ Thn X.prog X.w X.K h H Qp Q) := by
  intro pins s σ H x v vl vu lo hi sl Q I rx hs pl pu ⟨a, h, Qp, r, rh, z, k⟩
  cases a <;> first | (exact False.elim z) | skip
  case str y =>
    cases r
    refine sl_str pins s σ H _ v vl vu lo hi sl Q I rx hs pl pu ⟨tS y, rfl, by simpa [Str.length] using z.1, ?_⟩
    have e : cutS (tS y) lo hi = tS (cut y lo hi) := by simp [cutS, cut, tS, Str.length]
    rw [e]
    exact k.now rh (.str _) z.2
  case tup ys =>
    cases r with
    | tup s1 l1 q1 =>
      refine sl_tupA pins s σ H _ v vl vu lo hi sl Q I rx hs pl pu ⟨_, _, rfl, s1, fun hw => ?_, fun hw => k.tup rh (cut_rvs q1 lo hi) (Nat.le_trans (cutV_length _ _ _) l1) z⟩
      have e : cut ys lo hi = ys := by
        have hl := q1.length
        rw [hl] at hw
        unfold cut
        rw [hw.1, hw.2]
        simp
      simp only [zSlV] at z
      rw [e] at z
      exact k.now rh (.tup s1 l1 q1) z
  case ref b =>
    simp only [zSlV] at z
    cases r
    cases ea : h b with
    | none => rw [ea] at z; exact False.elim z
    | some o =>
      cases o with
      | dic t lk kvs => rw [ea] at z; exact False.elim z
      | lst xs =>
        rw [ea] at z
        obtain ⟨us, f1, l1, q1⟩ := rh b _ ea
        exact sl_list pins s σ H _ v vl vu lo hi sl Q I rx hs pl pu ⟨b, us, rfl, SqL.of f1, k.lst rh (cut_rvs q1 lo hi) (Nat.le_trans (cutV_length _ _ _) l1) z⟩
theorem qe_sl (he : QE X e t) (hl : QOp X lo tl) (hu : QOp X hi th) : QE X (.Subscript e (.Slice lo hi none p2) pos) (zSl t tl th) :=
  peI (pe_slice qs_sl he hl hu) fun σ H Q ⟨ρ, h, Qp, rs, rh, t, k⟩ => ⟨ρ, h, _, rs, rh, t, fun p h1 t1 v H1 s1 r1 rh1 => ⟨ρ, h1, _, rs.stp rh s1, rh1, t1, fun l h2 t2 H2 s2 rh2 =>
    ⟨ρ, h2, _, (rs.stp rh s1).stp rh1 s2, rh2, t2, fun u h3 t3 H3 s3 rh3 => ⟨p, h3, Qp, (r1.stp rh1 s2).stp rh2 s3, rh3, t3, ((k.later s1).later s2).later s3⟩⟩⟩⟩
/-- xs[::-1] of a list -/
def zRev (t : ZE) : ZE := fun ρ h Q => t ρ h fun p h1 => match p with
  | .ref a => (match h1 a with | some (.lst xs) => ∀ q, h1 q = none → Q (.ref q) (up h1 q (.lst xs.reverse)) | _ => False)
  | _ => False
theorem qe_rev {k p1 p2 p3} (he : QE X e t) : QE X (.Subscript e (.Slice none none (some (.UnaryOp .USub (.Constant (.int 1) k p1) p2)) p3) pos) (zRev t) :=
  peI (pe_revL he) fun σ H Q ⟨ρ, h, Qp, rs, rh, t, k⟩ => ⟨ρ, h, _, rs, rh, t, fun p h1 t1 v H1 s1 r1 rh1 => by
    cases p <;> first | (exact False.elim t1) | skip
    cases r1
    rename_i a
    simp only at t1
    cases ea : h1 a with
    | none => rw [ea] at t1; exact False.elim t1
    | some o =>
      cases o with
      | dic t lk kvs => rw [ea] at t1; exact False.elim t1
      | lst xs =>
        rw [ea] at t1
        obtain ⟨us, f1, l1, q1⟩ := rh1 a _ ea
        exact ⟨a, us, rfl, SqL.of f1, (k.later s1).lst rh1 q1.reverse (by rw [List.length_reverse]; exact l1) t1⟩⟩
theorem qe_ix (hu : X.A.units + 64 < cLine) (ha : QE X a ta) (hb : QE X b tb) (hs : PlainIx b) : QE X (.Subscript a b pos) (z2 zIx ta tb) := peI (pe_ix (qx_ix hu) ha hb hs) fun _ _ _ x => le_op x

/-! ### chains of comparisons -/
def zCh (r r' : Z2) (ta tb tc : ZE) : ZE := fun ρ h Q => ta ρ h fun p h1 => tb ρ h1 fun q h2 => r p q h2 fun z h3 => match z with
  | .bl k => if k = true then tc ρ h3 fun u h4 => r' q u h4 Q else Q (.bl false) h3
  | _ => False
theorem le_ch {P : Program} {w : World} {K : PySem.W.Frag} {ta tb tc : ZE} {r r' : Z2} {σ : L2.St} {H : Hp} {Q : VK} (x : LE P w K (zCh r r' ta tb tc) σ H Q) : tChain (L2r P w K r) (L2r P w K r') (LE P w K ta) (LE P w K tb) (LE P w K tc) σ H Q := by
  obtain ⟨ρ, h, Qp, rs, rh, t, k⟩ := x
  refine ⟨ρ, h, _, rs, rh, t, fun p h1 t1 v H1 s1 r1 rh1 => ⟨ρ, h1, _, rs.stp rh s1, rh1, t1, fun q h2 t2 u H2 s2 r2 rh2 => ?_⟩⟩
  refine ⟨p, q, h2, _, r1.stp rh1 s2, r2, rh2, t2, fun z h3 t3 zv H3 s3 r3 rh3 => ?_⟩
  cases z <;> first | (exact False.elim t3) | skip
  rename_i b
  cases r3
  refine ⟨b, rfl, ?_⟩
  cases b with
  | false =>
    rw [if_neg Bool.false_ne_true]
    exact (((k.later s1).later s2).later s3).now rh3 (.bl false) t3
  | true =>
    rw [if_pos rfl]
    exact ⟨ρ, h3, _, ((rs.stp rh s1).stp rh1 s2).stp rh2 s3, rh3, t3, fun c h4 t4 cv H4 s4 r4 rh4 => ⟨q, c, h4, Qp, (r2.stp rh2 s3).stp rh3 s4, r4, rh4, t4, (((k.later s1).later s2).later s3).later s4⟩⟩
theorem qe_ch {op op' : CmpOp} {r r' : Z2} (ho : QO X (compareOp op) r) (ho' : QO X (compareOp op') r') (ha : QE X a ta) (hb : QE X b tb) (hc : QE X c tc) (hm : lastMarks [op, op'] [b, c] = false) :
    QE X (.Compare a [op, op'] [b, c] pos) (zCh r r' ta tb tc) := peI (pe_chain ho ho' ha hb hc hm) fun _ _ _ x => le_ch x
theorem qt_ch {op op' : CmpOp} {r r' : Z2} (ho : QO X (compareOp op) r) (ho' : QO X (compareOp op') r') (ha : QE X a ta) (hb : QE X b tb) (hc : QE X c tc) (hm : lastMarks [op, op'] [b, c] = false) :
    QT X (.Compare a [op, op'] [b, c] pos) (ztB (zCh r r' ta tb tc)) := ptI (pt_chain ho ho' ha hb hc hm) fun σ H Q ⟨ρ, h, Qp, rs, rh, t, k⟩ => le_ch ⟨ρ, h, _, rs, rh, t, fun p h1 t1 v H1 s1 r1 rh1 => by
    cases p <;> first | (exact False.elim t1) | skip
    cases r1
    exact ⟨_, rfl, k _ _ t1 H1 s1 rh1⟩⟩

/-! ### calls of built-ins -/
def zCall (r : ZC) (t : ZA) : ZE := fun ρ h Q => t ρ h fun ps h1 => r ps h1 Q
theorem le_cb {P : Program} {w : World} {K : PySem.W.Frag} {t : ZA} {r : ZC} {σ : L2.St} {H : Hp} {Q : VK} (x : LE P w K (zCall r t) σ H Q) : tCB (LC P w K r) (LA P w K t) σ H Q := by
  obtain ⟨ρ, h, Qp, rs, rh, t, k⟩ := x
  exact ⟨ρ, h, _, rs, rh, t, fun ps h1 t1 vs H1 s1 r1 rh1 => ⟨ps, h1, Qp, r1, rh1, t1, k.later s1⟩⟩
theorem qe_callB {id : String} {x : Str} {p : Pos} {r : ZC} {t : ZA} (hc : QC X (.builtin id) r) (hg : Gl X x) (hm : X.mg x = none) (hv : bootBuiltins x = some (.builtin id)) (ha : QA X (e :: es) t) (hn : x ≠ "__name__") (hdb : (x == ("__debug__" : Str)) = false)
    (he : starEach (e :: es) X.env = (false, eval e X.env) :: starEach es X.env) (hpl : (backTo pos (starEach es X.env)).any (·.1) = false) : QE X (.Call (.Name x p) (e :: es) [] pos) (zCall r t) :=
  peI (pe_callB hc hg hm hv ha hn hdb he hpl) fun _ _ _ x => le_cb x
theorem qe_callTy {T : String} {x : Str} {p : Pos} {r : ZC} {t : ZA} (hc : QC X (.type T) r) (hg : Gl X x) (hm : X.mg x = none) (hv : bootBuiltins x = some (.type T)) (ha : QA X (e :: es) t) (hn : x ≠ "__name__") (hdb : (x == ("__debug__" : Str)) = false)
    (he : starEach (e :: es) X.env = (false, eval e X.env) :: starEach es X.env) (hpl : (backTo pos (starEach es X.env)).any (·.1) = false) : QE X (.Call (.Name x p) (e :: es) [] pos) (zCall r t) :=
  peI (pe_callTy hc hg hm hv ha hn hdb he hpl) fun _ _ _ x => le_cb x

def zLen : ZC
  | [.str x], h, Q => x.length ≤ sizeLine ∧ Q (.int x.length) h
  | [.tup xs], h, Q => Q (.int xs.length) h
  | [.ref a], h, Q => match h a with
    | some (.lst xs) => Q (.int xs.length) h
    | some (.dic _ _ kvs) => Q (.int kvs.length) h
    | none => False
  | _, _, _ => False
theorem paired_len {α β : Type} {F : α → β → Prop} : ∀ {l : List α} {m : List β}, Paired F l m → l.length = m.length
  | _, _, .nil => rfl
  | _, _, .cons _ t => congrArg (· + 1) (paired_len t)
theorem rvs_one {K : PySem.W.Frag} {H : Hp} {vs : List V} {p : PV} (r : RVs K H vs [p]) : ∃ v, vs = [v] ∧ RV K H v p := by
  cases r with
  | cons a b => cases b; exact ⟨_, rfl, a⟩
theorem rvs_two {K : PySem.W.Frag} {H : Hp} {vs : List V} {p q : PV} (r : RVs K H vs [p, q]) : ∃ v u, vs = [v, u] ∧ RV K H v p ∧ RV K H u q := by
  cases r with
  | cons a b =>
    obtain ⟨u, rfl, c⟩ := rvs_one b
    exact ⟨_, _, rfl, a, c⟩
theorem qc_len : QC X (.builtin "len") zLen := by
  intro pins s σ H xs us Q I r ⟨ps, h, Qp, rp, rh, z, k⟩
  unfold zLen at z
  split at z
  · obtain ⟨v, rfl, r1⟩ := rvs_one rp
    cases r1
    rename_i x
    exact call_len_str pins s σ H _ us Q I r ⟨_, rfl, by simpa [Str.length] using z.1, by simpa [Str.length] using k.now rh (.int _) z.2⟩
  · obtain ⟨v, rfl, r1⟩ := rvs_one rp
    cases r1 with
    | tup s1 l1 q1 =>
      refine call_len_seq pins s σ H _ us Q I r ⟨_, _, rfl, .inr s1, ?_⟩
      rw [q1.length]
      exact k.now rh (.int _) z
  · rename_i a
    obtain ⟨v, rfl, r1⟩ := rvs_one rp
    cases r1
    split at z
    · rename_i xs ea
      obtain ⟨us', f1, l1, q1⟩ := rh a _ ea
      refine call_len_seq pins s σ H _ us Q I r ⟨_, _, rfl, .inl (SqL.of f1), ?_⟩
      rw [q1.length]
      exact k.now rh (.int _) z
    · rename_i t lk kvs ea
      cases t with
      | false =>
        obtain ⟨ds, f1, l1, q1⟩ := rh a _ ea
        obtain ⟨u, rfl, ru⟩ := vals1 r
        cases ru
        have hl := paired_len q1
        exact d_len I f1.rd fun t s' I' => ⟨.int kvs.length, H, I', ⟨t, by rw [hl]⟩, k.now rh (.int _) z⟩
      | true =>
        obtain ⟨ys, f1, l1, q1⟩ := rh a _ ea
        obtain ⟨g1, g2, g3⟩ := dic_of I f1.rd q1
        obtain ⟨u, rfl, ru⟩ := vals1 r
        cases ru
        have hl : (pairsH ys).length = kvs.length := by rw [pairsH_length, ← paired_len q1]
        have hn : (pairsH ys).length ≤ 16777216 := by rw [pairsH_length]; exact g2
        refine PyProof.Rows.call_len_slot (n := (pairsH ys).length) g3.typeIs PySem.F.slot_dict_len (fun Q' hq => len_keyed g1 ⟨ys, g3, rfl⟩ hq) (by omega) (by omega) ?_
        exact ⟨.int kvs.length, H, I.tok _, ⟨_, by rw [hl]⟩, k.now rh (.int _) z⟩
    · exact False.elim z
  · exact False.elim z
def zAbs : ZC
  | [.int i], h, Q => Q (.int (if i < 0 then -i else i)) h
  | _, _, _ => False
theorem qc_abs : QC X (.builtin "abs") zAbs := by
  intro pins s σ H xs us Q I r ⟨ps, h, Qp, rp, rh, z, k⟩
  unfold zAbs at z
  split at z
  · obtain ⟨v, rfl, r1⟩ := rvs_one rp
    cases r1
    exact call_abs pins s σ H _ us Q I r ⟨_, rfl, k.now rh (.int _) z⟩
  · exact False.elim z
def zInt : ZC
  | [.int i], h, Q => Q (.int i) h
  | [.bl b], h, Q => Q (.int (if b then 1 else 0)) h
  | _, _, _ => False
theorem qc_int : QC X (.type "int") zInt := by
  intro pins s σ H xs us Q I r ⟨ps, h, Qp, rp, rh, z, k⟩
  unfold zInt at z
  split at z
  · obtain ⟨v, rfl, r1⟩ := rvs_one rp
    cases r1
    exact call_int1 pins s σ H _ us Q I r (.inl ⟨_, rfl, k.now rh (.int _) z⟩)
  · obtain ⟨v, rfl, r1⟩ := rvs_one rp
    cases r1
    exact call_int1 pins s σ H _ us Q I r (.inr ⟨_, rfl, k.now rh (.int _) z⟩)
  · exact False.elim z
def zMax2 : ZC
  | [.int i, .int j], h, Q => Q (.int (if j > i then j else i)) h
  | _, _, _ => False
theorem qc_max2 (hc : X.calm = true) : QC X (.builtin "max") zMax2 := by
  intro pins s σ H xs us Q I r ⟨ps, h, Qp, rp, rh, z, k⟩
  unfold zMax2 at z
  split at z
  · obtain ⟨v, u, rfl, r1, r2⟩ := rvs_two rp
    cases r1; cases r2
    exact call_max2 hc pins s σ H _ us Q I r ⟨_, _, rfl, k.now rh (.int _) z⟩
  · exact False.elim z
def zMin2 : ZC
  | [.int i, .int j], h, Q => Q (.int (if j < i then j else i)) h
  | _, _, _ => False
theorem qc_min2 (hc : X.calm = true) : QC X (.builtin "min") zMin2 := by
  intro pins s σ H xs us Q I r ⟨ps, h, Qp, rp, rh, z, k⟩
  unfold zMin2 at z
  split at z
  · obtain ⟨v, u, rfl, r1, r2⟩ := rvs_two rp
    cases r1; cases r2
    exact call_min2 hc pins s σ H _ us Q I r ⟨_, _, rfl, k.now rh (.int _) z⟩
  · exact False.elim z
/-- tuple(x) -/
def zTupC : ZC
  | [.tup xs], h, Q => Q (.tup xs) h
  | [.ref a], h, Q => match h a with
    | some (.lst xs) => Q (.tup xs) h
    | _ => False
  | _, _, _ => False
theorem qc_tup : QC X (.type "tuple") zTupC := by
  intro pins s σ H xs us Q I r ⟨ps, h, Qp, rp, rh, z, k⟩
  unfold zTupC at z
  split at z
  · obtain ⟨v, rfl, r1⟩ := rvs_one rp
    cases r1 with
    | tup s1 l1 q1 => exact call_tuple_of pins s σ H _ us Q I r ⟨_, _, rfl, .inr ⟨s1, k.now rh (.tup s1 l1 q1) z⟩⟩
  · rename_i a
    obtain ⟨v, rfl, r1⟩ := rvs_one rp
    cases r1
    split at z
    · rename_i ys ea
      obtain ⟨us', f1, l1, q1⟩ := rh a _ ea
      exact call_tuple_of pins s σ H _ us Q I r ⟨_, _, rfl, .inl ⟨SqL.of f1, k.tup rh q1 l1 z⟩⟩
    · exact False.elim z
  · exact False.elim z
/-- list(x) -/
def zListC : ZC
  | [.tup xs], h, Q => ∀ p, h p = none → Q (.ref p) (up h p (.lst xs))
  | [.scr ns], h, Q => ns.length ≤ 63 → ∀ p, h p = none → Q (.ref p) (up h p (.lst (ns.map PV.int)))
  | [.ref a], h, Q => match h a with
    | some (.lst xs) => ∀ p, h p = none → Q (.ref p) (up h p (.lst xs))
    | some (.dic false none kvs) => ∀ p, h p = none → Q (.ref p) (up h p (.lst (kvs.map (·.1))))
    | _ => False
  | _, _, _ => False
theorem ents_keys {K : PySem.W.Frag} {H : Hp} : ∀ {kvs : List (PV × PV)} {ds : List (Key × V)}, Paired (EntK K H) kvs ds → RVs K H (ds.map fun kv => kV kv.1) (kvs.map (·.1))
  | _, _, .nil => .nil
  | _, _, .cons (a := kv) (b := x) q t => by
    refine .cons ?_ (ents_keys t)
    show RV K H (kV x.1) kv.1
    rw [q.1]
    cases e : x.1 with
    | inl i => exact .int i
    | inr z => have := RV.str (K := K) (H := H) z.cps.toList; rw [tS_of] at this; exact this
theorem qc_list (hc : X.calm = true) : QC X (.type "list") zListC := by
  intro pins s σ H xs us Q I r ⟨ps, h, Qp, rp, rh, z, k⟩
  unfold zListC at z
  split at z
  · obtain ⟨v, rfl, r1⟩ := rvs_one rp
    cases r1 with
    | tup s1 l1 q1 => exact call_list_of pins s σ H _ us Q I r ⟨_, _, rfl, .inr s1, k.lst rh q1 l1 z⟩
  · obtain ⟨v, rfl, r1⟩ := rvs_one rp
    cases r1 with
    | scr s1 l1 =>
      have hs : sizeLine = 16777216 := sizeLine_eq
      exact call_list_of pins s σ H _ us Q I r ⟨_, _, rfl, .inl s1.sq, k.lst rh RVs.ints (by rw [List.length_map]; omega) (z l1)⟩
  · rename_i a
    obtain ⟨v, rfl, r1⟩ := rvs_one rp
    cases r1
    split at z
    · rename_i ys ea
      obtain ⟨us', f1, l1, q1⟩ := rh a _ ea
      exact call_list_of pins s σ H _ us Q I r ⟨_, _, rfl, .inl (SqL.of f1), k.lst rh q1 l1 z⟩
    · rename_i kvs ea
      obtain ⟨ds, f1, l1, q1⟩ := rh a _ ea
      exact call_list_dK hc pins s σ H _ us Q I r ⟨a, ds, rfl, f1, k.lst rh (ents_keys q1) (by rw [List.length_map, ← paired_len q1]; exact l1) z⟩
    · exact False.elim z
  · exact False.elim z
/-- sum of intsP, all, any of truth values -/
def intsP : List PV → Option (List Int)
  | [] => some []
  | .int i :: r => (intsP r).map (i :: ·)
  | _ => none
def blsP : List PV → Option (List Bool)
  | [] => some []
  | .bl i :: r => (blsP r).map (i :: ·)
  | _ => none
theorem ints_rvs {K : PySem.W.Frag} {H : Hp} : ∀ {ps : List PV} {vs : List V} {ns : List Int}, RVs K H vs ps → intsP ps = some ns → vs = ns.map V.int
  | [], _, _, r, e => by simp [intsP] at e; subst e; cases r; rfl
  | p :: ps, _, _, r, e => by
    cases p <;> simp [intsP] at e
    obtain ⟨ns', e1, e2⟩ := e
    subst e2
    cases r with
    | cons a b => cases a; rw [ints_rvs b e1]; rfl
theorem bls_rvs {K : PySem.W.Frag} {H : Hp} : ∀ {ps : List PV} {vs : List V} {ns : List Bool}, RVs K H vs ps → blsP ps = some ns → vs = ns.map V.bl
  | [], _, _, r, e => by simp [blsP] at e; subst e; cases r; rfl
  | p :: ps, _, _, r, e => by
    cases p <;> simp [blsP] at e
    obtain ⟨ns', e1, e2⟩ := e
    subst e2
    cases r with
    | cons a b => cases a; rw [bls_rvs b e1]; rfl
def zSum : ZC
  | [.ref a], h, Q => match h a with
    | some (.lst xs) => ∃ ns, intsP xs = some ns ∧ Q (.int ns.sum) h
    | _ => False
  | _, _, _ => False
theorem qc_sum (hc : X.calm = true) : QC X (.builtin "sum") zSum := by
  intro pins s σ H xs us Q I r ⟨ps, h, Qp, rp, rh, z, k⟩
  unfold zSum at z
  split at z
  · rename_i a
    obtain ⟨v, rfl, r1⟩ := rvs_one rp
    cases r1
    split at z
    · rename_i ys ea
      obtain ⟨us', f1, l1, q1⟩ := rh a _ ea
      obtain ⟨ns, e, z⟩ := z
      have e2 := ints_rvs q1 e
      subst e2
      exact cr_sum hc pins s σ H _ us Q I r ⟨a, ns, rfl, SqL.of f1, k.now rh (.int _) z⟩
    · exact False.elim z
  · exact False.elim z
def zAll : ZC
  | [.ref a], h, Q => match h a with
    | some (.lst xs) => ∃ ns, blsP xs = some ns ∧ Q (.bl (ns.all id)) h
    | _ => False
  | _, _, _ => False
theorem qc_all (hc : X.calm = true) : QC X (.builtin "all") zAll := by
  intro pins s σ H xs us Q I r ⟨ps, h, Qp, rp, rh, z, k⟩
  unfold zAll at z
  split at z
  · rename_i a
    obtain ⟨v, rfl, r1⟩ := rvs_one rp
    cases r1
    split at z
    · rename_i ys ea
      obtain ⟨us', f1, l1, q1⟩ := rh a _ ea
      obtain ⟨ns, e, z⟩ := z
      have e2 := bls_rvs q1 e
      subst e2
      exact cr_all hc pins s σ H _ us Q I r ⟨a, ns, rfl, SqL.of f1, k.now rh (.bl _) z⟩
    · exact False.elim z
  · exact False.elim z
def zAny : ZC
  | [.ref a], h, Q => match h a with
    | some (.lst xs) => ∃ ns, blsP xs = some ns ∧ Q (.bl (ns.any id)) h
    | _ => False
  | _, _, _ => False
theorem qc_any (hc : X.calm = true) : QC X (.builtin "any") zAny := by
  intro pins s σ H xs us Q I r ⟨ps, h, Qp, rp, rh, z, k⟩
  unfold zAny at z
  split at z
  · rename_i a
    obtain ⟨v, rfl, r1⟩ := rvs_one rp
    cases r1
    split at z
    · rename_i ys ea
      obtain ⟨us', f1, l1, q1⟩ := rh a _ ea
      obtain ⟨ns, e, z⟩ := z
      have e2 := bls_rvs q1 e
      subst e2
      exact cr_any hc pins s σ H _ us Q I r ⟨a, ns, rfl, SqL.of f1, k.now rh (.bl _) z⟩
    · exact False.elim z
  · exact False.elim z
end
end G

namespace G
open PySem PySem.Spec PyProof.Rows L2

/-! ### isinstance(x, T) -/
inductive Ty | int | tuple | str | bool | list | dict
  deriving DecidableEq, Repr
def Ty.name : Ty → String
  | .int => "int" | .tuple => "tuple" | .str => "str" | .bool => "bool" | .list => "list" | .dict => "dict"
def Ty.nm : Ty → Str
  | .int => Str.ofString "int" | .tuple => Str.ofString "tuple" | .str => Str.ofString "str" | .bool => Str.ofString "bool" | .list => Str.ofString "list" | .dict => Str.ofString "dict"
def zIsaV (T : Ty) : PV → PH → (Bool → Prop) → Prop
  | .non, _, Q => Q false
  | .bl _, _, Q => Q (decide (T = .bool) || decide (T = .int))
  | .int _, _, Q => Q (decide (T = .int))
  | .str _, _, Q => Q (decide (T = .str))
  | .tup _, _, Q => Q (decide (T = .tuple))
  | .ref a, h, Q => match h a with
    | some (.lst _) => Q (decide (T = .list))
    | some (.dic false none _) => Q (decide (T = .dict))
    | _ => False
  | .scr _, _, _ => False
def zIsa (T : Ty) (t : ZE) : ZE := fun ρ h Q => t ρ h fun p h1 => zIsaV T p h1 fun b => Q (.bl b) h1
theorem ty_boot (T : Ty) : bootBuiltins T.nm = some (.type T.name) := by cases T <;> decide +kernel
theorem kit_a (a : String) (T : Ty) : a ∈ ["NoneType", "bool", "int", "str", "tuple", "list", "dict"] → kitB a T.name = some (decide (a = T.name) || (decide (a = "bool") && decide (T = .int))) := by
  intro h
  simp only [List.mem_cons, List.not_mem_nil, or_false] at h
  rcases h with rfl | rfl | rfl | rfl | rfl | rfl | rfl <;> cases T <;> decide +kernel
section
variable {X : Cx} {e a b c : Expr} {es rest : List Expr} {t ta tb tc : ZE} {pos p1 p2 : Pos}
theorem rv_ty {P : Program} {w : World} {K : PySem.W.Frag} {H : Hp} {h : PH} {v : V} {p : PV} {T : Ty} {Q : Bool → Prop} (rh : RH P w K H h) (r : RV K H v p) (z : zIsaV T p h Q) :
    ∃ (n : String) (b : Bool), TyX K H v (.type n) ∧ PySem.W.kitOne K (.type n) (.type T.name) = some b ∧ Q b := by
  have k : ∀ n, n ∈ ["NoneType", "bool", "int", "str", "tuple", "list", "dict"] → ∀ b, (decide (n = T.name) || (decide (n = "bool") && decide (T = .int))) = b → PySem.W.kitOne K (.type n) (.type T.name) = some b := fun n hn b e => by
    rw [← e]; exact kit_ty (kit_a n T hn)
  cases p
  case non => cases r; exact ⟨_, _, .base .non, k _ (by simp) false (by cases T <;> decide), z⟩
  case bl => cases r; exact ⟨_, _, .base (.bl _), k _ (by simp) _ (by cases T <;> decide), z⟩
  case int => cases r; exact ⟨_, _, .base (.int _), k _ (by simp) _ (by cases T <;> decide), z⟩
  case str => cases r; exact ⟨_, _, .base (.str _), k _ (by simp) _ (by cases T <;> decide), z⟩
  case tup =>
    cases r with
    | tup s l q =>
      rcases s with (s | ⟨o, s⟩) | ⟨o, its, n, s, c, _⟩
      · exact ⟨_, _, .base (.tup s), k _ (by simp) _ (by cases T <;> decide), z⟩
      · exact ⟨_, _, .fTuple s, k _ (by simp) _ (by cases T <;> decide), z⟩
      · exact ⟨_, _, .kTuple s c, k _ (by simp) _ (by cases T <;> decide), z⟩
  case ref a =>
    cases r
    simp only [zIsaV] at z
    cases ea : h a with
    | none => rw [ea] at z; exact False.elim z
    | some o =>
      rw [ea] at z
      cases o with
      | lst xs =>
        obtain ⟨us, f1, _⟩ := rh a _ ea
        exact ⟨_, _, .base (.lst f1), k _ (by simp) _ (by cases T <;> decide), z⟩
      | dic t lk kvs =>
        cases t <;> cases lk <;> first | (exact False.elim z) | skip
        · obtain ⟨us, f1, _⟩ := rh a _ ea
          exact ⟨_, _, .base (.dK f1), k _ (by simp) _ (by cases T <;> decide), z⟩
  case scr => exact False.elim z
theorem qe_isa {T : Ty} (hg : Gl X "isinstance") (hm : X.mg "isinstance" = none) (hgT : Gl X T.nm) (hmT : X.mg T.nm = none) (hn : T.nm ≠ "__name__") (hdT : (T.nm == ("__debug__" : Str)) = false) (ha : QE X a ta)
    (h1 : starEach [a, .Name T.nm p2] X.env = (false, eval a X.env) :: starEach [.Name T.nm p2] X.env) (h2 : starEach [.Name T.nm p2] X.env = (false, eval (.Name T.nm p2) X.env) :: starEach [] X.env)
    (hpl : (backTo pos (starEach [.Name T.nm p2] X.env)).any (·.1) = false) : QE X (.Call (.Name "isinstance" p1) [a, .Name T.nm p2] [] pos) (zIsa T ta) := by
  have hT : PE X (.Name T.nm p2) (tC (.ty T.name)) := pe_bltn hgT hmT (ty_boot T) rfl hn hdT
  refine peI (pe_callB call_isi hg hm (by decide +kernel) (pa_cons ha (pa_cons hT pa_nil h2) h1) (by decide) (by decide) h1 hpl) fun σ H Q ⟨ρ, h, Qp, rs, rh, t, k⟩ => ⟨ρ, h, _, rs, rh, t, fun p h1 t1 v H1 s1 r1 rh1 => ?_⟩
  obtain ⟨n, b, g1, g2, g3⟩ := rv_ty rh1 r1 t1
  exact ⟨v, .ty T.name, _, _, b, rfl, .ty _, g1, g2, (k.later s1).now rh1 (.bl b) g3⟩

/-! ### methods of built-in types -/
def tyP (T : String) : PV → PH → Prop
  | .str _, _ => T = "str"
  | .ref a, h => match h a with
    | some (.lst _) => T = "list"
    | some (.dic _ _ _) => T = "dict"
    | none => False
  | _, _ => False
theorem tyP_is {pins : List (Addr × Obj)} {σ : L2.St} {H : Hp} {s : Shared} {T : String} {x : V} {v : Value} {p : PV} {h : PH} (I : L2.Inv X pins σ H s) (rh : RH X.prog X.w X.K H h) (r : RelV x v) (rp : RV X.K H x p) (ty : tyP T p h) :
    s.TypeIs v T ∧ ∀ a, v = .ref a → ∃ ob, s.heap.get? a = some ob ∧ ob.dict = none := by
  cases p <;> first | (exact False.elim ty) | skip
  case str z =>
    cases rp
    exact tyV_is I r (show tyV X.K T (.str (tS z)) H from ty)
  case ref a =>
    cases rp
    simp only [tyP] at ty
    cases ea : h a with
    | none => rw [ea] at ty; exact False.elim ty
    | some o =>
      rw [ea] at ty
      cases o with
      | lst xs =>
        obtain ⟨us, f1, _⟩ := rh a _ ea
        exact tyV_is I r (show tyV X.K T (.ref a) H from .inl ⟨ty, us, SqL.of f1⟩)
      | dic t lk kvs =>
        cases t
        · obtain ⟨us, f1, _⟩ := rh a _ ea
          cases r
          cases ty
          obtain ⟨_, hd, vs, _, dd⟩ := dk_rd I.hok f1.rd
          refine ⟨dd.typeIs, fun b eb => ?_⟩
          cases eb
          obtain ⟨o, es, ep, ho, hx, _⟩ := dd
          exact ⟨o, ho, hx.2.1⟩
        · obtain ⟨us, f1, _, q⟩ := rh a _ ea
          cases r
          cases ty
          obtain ⟨g1, g2, g3⟩ := dic_of I f1.rd q
          refine ⟨g3.typeIs, fun b eb => ?_⟩
          cases eb
          obtain ⟨o, es, ep, ho, hx, _⟩ := g3
          exact ⟨o, ho, hx.2.1⟩
abbrev ZM := PV → List PV → PH → QV → Prop
abbrev QM (X : Cx) (id : String) (r : ZM) : Prop := MtR X id (fun x xs H Q => ∃ p ps h Qp, RV X.K H x p ∧ RVs X.K H xs ps ∧ RH X.prog X.w X.K H h ∧ r p ps h Qp ∧ Thn X.prog X.w X.K h H Qp Q)
def zMt (T : String) (r : ZM) (to : ZE) (t : ZA) : ZE := fun ρ h Q => to ρ h fun p h1 => tyP T p h1 ∧ t ρ h1 fun ps h2 => r p ps h2 Q
variable {o : Expr} {to : ZE} {ta' : ZA} {name : Str} {apos cpos : Pos} {T id : String} {r : ZM}
theorem qe_bm (pa : PlainAttrs T) (slot : Slot T name id) (hty : typeOf (.builtin id) = pure (.type "method_descriptor")) (hm : QM X id r) (ho : QE X o to) (ha : QA X (e :: es) ta')
    (hbase : attributeBase o name X.env (eval o X.env) = eval o X.env)
    (hfew : ((backTo cpos (starEach (e :: es) X.env)).all (fun x => !x.1) && (backToKw cpos (keywordEach [] X.env)).all (fun x => x.1.isSome)
      && decide ((e :: es).length + ([] : List Keyword).length + (if ([] : List Keyword).isEmpty then 0 else 1) < 30)) = true)
    (hline : (apos.endLine == cpos.line) = true) (hs : starEach (e :: es) X.env = (false, eval e X.env) :: starEach es X.env) (hplain : (backTo cpos (starEach es X.env)).any (·.1) = false) :
    QE X (.Call (.Attribute o name apos) (e :: es) [] cpos) (zMt T r to ta') := by
  refine ⟨fun pins s σ H Q I hh => ?_⟩
  obtain ⟨ρ, h, Qp, rs, rh, t, k⟩ := hh
  refine wpAny_Call_method_late hbase hfew hline rfl (thn (ho.run pins s σ H (fun x H1 => ∃ p h1, Stp h H h1 H1 ∧ RV X.K H1 x p ∧ RH X.prog X.w X.K H1 h1 ∧ tyP T p h1 ∧ ta' ρ h1 fun ps h2 => r p ps h2 Qp) I ⟨ρ, h, _, rs, rh, t, fun p h1 t1 v H1 s1 r1 rh1 => ⟨p, h1, s1, r1, rh1, t1.1, t1.2⟩⟩)
    fun v s1 ⟨x, H1, I1, r1, p, h1, st1, rp, rh1, ty, q1⟩ => ?_)
  obtain ⟨g1, g2⟩ := tyP_is I1 rh1 r1 rp ty
  refine ⟨T, id, pa, slot, hty, g1, g2, ?_⟩
  have hA := ha.run cpos pins s1 σ H1 (fun vs H2 => ∃ ps h2, Stp h1 H1 h2 H2 ∧ RVs X.K H2 vs ps ∧ RH X.prog X.w X.K H2 h2 ∧ r p ps h2 Qp) I1 ⟨ρ, h1, _, rs.stp rh st1, rh1, q1, fun ps h2 t2 vs H2 s2 r2 rh2 => ⟨ps, h2, s2, r2, rh2, t2⟩⟩
  rw [hs] at hA ⊢
  refine Calls.callWith_builtin (by show (false || (backTo cpos (starEach es X.env)).any (·.1)) = false; rw [hplain] <;> rfl) (Calls.evalArgs_plain ?_)
  exact thn hA fun us s2 ⟨vs, H2, I2, r2, ps, h2, st2, rps, rh2, q2⟩ => hm pins s2 σ H2 x vs v us Q I2 r1 r2 ⟨p, ps, h2, Qp, rp.stp rh1 st2, rps, rh2, q2, (k.later st1).later st2⟩
theorem qe_bm0 (pa : PlainAttrs T) (slot : Slot T name id) (hty : typeOf (.builtin id) = pure (.type "method_descriptor")) (hm : QM X id r) (ho : QE X o to)
    (hbase : attributeBase o name X.env (eval o X.env) = eval o X.env) (hline : (apos.endLine == cpos.line) = true) : QE X (.Call (.Attribute o name apos) [] [] cpos) (zMt T r to zaNil) := by
  refine ⟨fun pins s σ H Q I hh => ?_⟩
  obtain ⟨ρ, h, Qp, rs, rh, t, k⟩ := hh
  refine wpAny_Call_method0_late hbase hline (thn (ho.run pins s σ H (fun x H1 => ∃ p h1, Stp h H h1 H1 ∧ RV X.K H1 x p ∧ RH X.prog X.w X.K H1 h1 ∧ tyP T p h1 ∧ r p [] h1 Qp) I ⟨ρ, h, _, rs, rh, t, fun p h1 t1 v H1 s1 r1 rh1 => ⟨p, h1, s1, r1, rh1, t1.1, t1.2⟩⟩)
    fun v s1 ⟨x, H1, I1, r1, p, h1, st1, rp, rh1, ty, q1⟩ => ?_)
  obtain ⟨g1, g2⟩ := tyP_is I1 rh1 r1 rp ty
  exact ⟨T, id, pa, slot, hty, g1, g2, Calls.callWith_builtin rfl (PySem.evalArgs_none (hm pins s1 σ H1 x [] v [] Q I1 r1 .nil ⟨p, [], h1, Qp, rp, .nil, rh1, q1, k.later st1⟩))⟩

def zAppend : ZM
  | .ref l, [y], h, Q => match h l with
    | some (.lst xs) => xs.length < sizeLine ∧ Q .non (up h l (.lst (xs ++ [y])))
    | _ => False
  | _, _, _, _ => False
theorem qm_append : QM X "list.append" zAppend := by
  intro pins s σ H x xs v us Q I rx rv ⟨p, ps, h, Qp, rp, rps, rh, z, k⟩
  unfold zAppend at z
  split at z
  · rename_i l y
    cases rp
    obtain ⟨u, rfl, ru⟩ := rvs_one rps
    split at z
    · rename_i ys ea
      obtain ⟨us', f1, l1, q1⟩ := rh l _ ea
      refine mt_append pins s σ H _ _ v us Q I rx rv ⟨l, us', u, rfl, rfl, f1, by rw [q1.length]; exact z.1, ?_⟩
      exact k.put rh ea (q1.append (.cons ru .nil)) (by rw [List.length_append, List.length_singleton, q1.length]; exact z.1) .non z.2
    · exact False.elim z
  · exact False.elim z
/-- list.extend of a tuple, whatever else the tuple's object bears -/
theorem ext_tup (l : Addr) (xs : Array Value) (n : Nat) (b : Addr) (ys : Array Value) (m : Nat) (dd : Option Addr) (sl : Array (Option Value)) (c1 : ¬(!xs.isEmpty && Builtin.List.listTooLong (xs.size + ys.size)) = true) (c2 : xs.size ≤ sizeLine) (c3 : xs.size + ys.size ≤ sizeLine + 1) :
    Meets (Builtin.«list.extend» ⟨[.ref l, .ref b], []⟩) (fun _ R s => s.heap.get? l = some { cls := .type "list", data := .seq xs n } ∧
      s.heap.get? b = some { cls := .type "tuple", dict := dd, data := .seq ys m, slots := sl } ∧ R (.ok (.ret Value.none)) { s with heap := s.heap.update l (Obj.mapSeq fun x => x ++ ys), toks := s.toks }) :=
  .of_wp fun prog w A R s hx => by
    obtain ⟨hp, gg, dr, tk, os⟩ := s
    obtain ⟨hl, hb, hx⟩ := hx
    have e1 := AutoSeq1.idx_int
    have e2 := AutoSeq1.sub_tuple_tuple
    have e3 := AutoSeq1.sub_list_list
    have e4 := AutoSeq1.sub_tuple_list
    have e5 := AutoSeq1.sub_list_tuple
    have ez : (xs ++ ys).size ≤ sizeLine + 1 := by simpa using c3
    wp_walk using (wpAny_updateSeq hl rfl (hz := c2) (_hz' := ez)), wpAny_loadPart' hl, wpAny_loadPart' hb
    exact ⟨_, rfl, hx⟩
def zExtend : ZM
  | .ref l, [.ref b], h, Q => match h l, h b with
    | some (.lst xs), some (.lst ys) => xs.length + ys.length ≤ sizeLine ∧ Q .non (up h l (.lst (xs ++ ys)))
    | _, _ => False
  | .ref l, [.tup ys], h, Q => match h l with
    | some (.lst xs) => xs.length + ys.length ≤ sizeLine ∧ Q .non (up h l (.lst (xs ++ ys)))
    | _ => False
  | _, _, _, _ => False
theorem qm_extend : QM X "list.extend" zExtend := by
  intro pins s σ H x xs v us Q I rx rv ⟨p, ps, h, Qp, rp, rps, rh, z, k⟩
  unfold zExtend at z
  split at z
  · rename_i l b
    cases rp
    obtain ⟨u, rfl, ru⟩ := rvs_one rps
    cases ru
    split at z
    · rename_i ys zs ea eb
      obtain ⟨us', f1, l1, q1⟩ := rh l _ ea
      obtain ⟨ws', f2, l2, q2⟩ := rh b _ eb
      refine mt_extend pins s σ H _ _ v us Q I rx rv ⟨l, b, us', ws', rfl, rfl, f1, f2, by rw [q1.length, q2.length]; exact z.1, ?_⟩
      exact k.put rh ea (q1.append q2) (by rw [List.length_append, q1.length, q2.length]; exact z.1) .non z.2
    · exact False.elim z
  · rename_i l ys
    cases rp
    obtain ⟨u, rfl, ru⟩ := rvs_one rps
    cases ru with
    | tup s1 l2 q2 =>
    split at z
    · rename_i zs ea
      obtain ⟨us', f1, l1, q1⟩ := rh l _ ea
      cases rx
      obtain ⟨w', rfl, rw'⟩ := rv.one
      cases rw'
      obtain ⟨zz, its, n, r, hl, e⟩ := I.lstM f1
      obtain ⟨its2, r2, ⟨⟨c2, d2, dt2, sl2⟩, e2, hc2, n2, hd2⟩, hz2⟩ := I.tuple s1
      simp only at hc2 hd2
      subst hc2 hd2
      have hl2 := r2.length
      have hlq := q2.length
      have hlq1 := q1.length
      have hsz : its.toArray.size + its2.toArray.size ≤ sizeLine := by rw [List.size_toArray, List.size_toArray]; omega
      have hlong : ¬ (!its.toArray.isEmpty && Builtin.List.listTooLong (its.toArray.size + its2.toArray.size)) = true := by
        rw [notLongL hsz, Bool.and_false]
        exact Bool.false_ne_true
      refine call_meets F.slot_list_extend ⟨_, e, rfl⟩ F.entry_list_extend (F.args_list_extend_2 _ _) (ext_tup l its.toArray n _ its2.toArray n2 d2 sl2 hlong (by rw [List.size_toArray]; omega) (by omega)) ⟨e, e2, ?_⟩
      refine ⟨.non, _, I.lset (its' := its ++ its2) f1 e (by simp) (r.append r2) ?_, rfl, ?_⟩
      · rw [List.length_append]
        simp only [List.size_toArray] at hsz
        omega
      · exact k.put rh ea (q1.append q2) (by rw [List.length_append, hlq, hlq1]; exact z.1) .non z.2
    · exact False.elim z
  · exact False.elim z
def zInsert : ZM
  | .ref l, [.int i, y], h, Q => match h l with
    | some (.lst xs) => xs.length < sizeLine ∧ 0 ≤ i ∧ i < 2 ^ 63 ∧ Q .non (up h l (.lst (xs.take i.toNat ++ [y] ++ xs.drop i.toNat)))
    | _ => False
  | _, _, _, _ => False
theorem qm_insert : QM X "list.insert" zInsert := by
  intro pins s σ H x xs v us Q I rx rv ⟨p, ps, h, Qp, rp, rps, rh, z, k⟩
  unfold zInsert at z
  split at z
  · rename_i l i y
    cases rp
    obtain ⟨u, u2, rfl, ru, ru2⟩ := rvs_two rps
    cases ru
    split at z
    · rename_i ys ea
      obtain ⟨us', f1, l1, q1⟩ := rh l _ ea
      refine mt_insert pins s σ H _ _ v us Q I rx rv ⟨l, us', i, u2, rfl, rfl, f1, by rw [q1.length]; exact z.1, z.2.1, z.2.2.1, ?_⟩
      refine k.put rh ea (((q1.take _).append (.cons ru2 .nil)).append (q1.drop _)) ?_ .non z.2.2.2
      have := q1.length
      have := z.1
      rw [List.length_append, List.length_append, List.length_take, List.length_drop, List.length_singleton]; omega
    · exact False.elim z
  · exact False.elim z
/-- xs.index(y), y is there -/
def zIndex : ZM
  | .ref l, [y], h, Q => match h l with
    | some (.lst xs) => y.pl = true ∧ y.dp ≤ 64 ∧ PV.pls xs = true ∧ PV.dps xs ≤ 63 ∧ y ∈ xs ∧ Q (.int (xs.findIdx (fun x => decide (x = y)) : Nat)) h
    | _ => False
  | _, _, _, _ => False
theorem pls_mem {xs : List PV} (h : PV.pls xs = true) {x : PV} (m : x ∈ xs) : x.pl = true := by
  induction xs with
  | nil => cases m
  | cons y ys ih =>
    simp only [PV.pls, Bool.and_eq_true] at h
    rcases List.mem_cons.mp m with rfl | m
    · exact h.1
    · exact ih h.2 m
theorem Ds_get {xs : List PV} {i : Nat} : (PV.Ds xs)[i]? = (xs[i]?).map PV.D := by
  induction xs generalizing i with
  | nil => simp [PV.Ds]
  | cons x xs ih => cases i <;> simp [PV.Ds, ih]
theorem qm_index (hu : X.A.units + 65 < cLine) : QM X "list.index" zIndex := by
  intro pins s σ H x xs v us Q I rx rv ⟨p, ps, h, Qp, rp, rps, rh, z, k⟩
  unfold zIndex at z
  split at z
  · rename_i l y
    cases rp
    obtain ⟨u, rfl, ru⟩ := rvs_one rps
    split at z
    · rename_i ys ea
      obtain ⟨us', f1, l1, q1⟩ := rh l _ ea
      obtain ⟨z1, z2, z3, z4, z5, z⟩ := z
      have hlt : ys.findIdx (fun x => decide (x = y)) < ys.length := List.findIdx_lt_length_of_exists ⟨y, z5, by simp⟩
      have hat := List.findIdx_getElem (xs := ys) (p := fun x => decide (x = y)) (w := hlt)
      have hat' : ys[ys.findIdx (fun x => decide (x = y))] = y := of_decide_eq_true hat
      refine mt_indexD hu pins s σ H _ _ v us Q I rx rv ⟨l, u, y.D, PV.Ds ys, _, y.D, rfl, rfl, .lst (SqL.of f1) (q1.dp _ _ z3), ru.dp _ _ z1, PV.shapedL z3 z4, PV.shaped z1 z2, ?_, ?_, ?_, k.now rh (.int _) z⟩
      · rw [Ds_get, List.getElem?_eq_getElem hlt, hat']; rfl
      · rw [PV.D_eqv _ _ z1 z1, PV.beq_dec]; simp
      · intro m z' hm hz
        rw [Ds_get, List.getElem?_eq_getElem (Nat.lt_trans hm hlt)] at hz
        cases hz
        have hmem := List.getElem_mem (Nat.lt_trans hm hlt)
        rw [PV.D_eqv _ _ (pls_mem z3 hmem) z1, PV.beq_dec]
        have := List.not_of_lt_findIdx (p := fun x => decide (x = y)) hm
        simpa using this
    · exact False.elim z
  · exact False.elim z
/-- d.get(k), d.get(k, x) -/
def zDget : ZM
  | .ref a, [k], h, Q => match h a with
    | some (.dic t _ kvs) => keyOk t k = true ∧ Q ((dget kvs k).getD .non) h
    | _ => False
  | .ref a, [k, x], h, Q => match h a with
    | some (.dic t _ kvs) => keyOk t k = true ∧ Q ((dget kvs k).getD x) h
    | _ => False
  | _, _, _, _ => False
theorem qm_dget (hu : X.A.units + 64 < cLine) : QM X "dict.get" zDget := by
  intro pins s σ H x xs v us Q I rx rv ⟨p, ps, h, Qp, rp, rps, rh, z, k⟩
  unfold zDget at z
  split at z
  · rename_i a q
    cases rp
    obtain ⟨y, rfl, ry⟩ := rvs_one rps
    split at z
    · rename_i t lk kvs ea
      obtain ⟨hk, z⟩ := z
      cases rx
      obtain ⟨u1, rfl, ru⟩ := rv.one
      cases t with
      | false =>
        obtain ⟨ds, f1, l1, r⟩ := rh a _ ea
        have hk' : q.leaf = true := hk
        have g : DGet H a y (valV ds (keyOf q)) := .inl ⟨ds, keyOf q, f1.rd, kV_of hk' ry, rfl⟩
        refine d_get1 (by omega) I g ru fun w' s3 I3 rw' => ⟨_, H, I3, rw', ?_⟩
        rcases ent_atK hk' r with ⟨e1, e2⟩ | ⟨q', v', e1, e2, r'⟩
        · rw [e1] at z; rw [e2]; exact k.now rh .non z
        · rw [e1] at z; rw [e2]; exact k.now rh r' z
      | true =>
        obtain ⟨ds, f1, l1, r⟩ := rh a _ ea
        obtain ⟨k', hk1, hk2⟩ := keyT hk
        obtain ⟨b, eb⟩ := keyT_ref hk ry
        subst eb
        cases ru
        obtain ⟨g1, g2, g3⟩ := dic_of I f1.rd r
        refine get_keyed (knd := nestedKind X.prog X.w) (by show X.A.units + 1 + 8 < cLine; omega) ⟨ry.nested I _ _ _ _ hk1 rfl, hk2⟩ g1 ⟨ds, g3, rfl⟩ ?_
        rw [valueAt_pairsH]
        rcases ent_at hk1 r with ⟨e1, e2⟩ | ⟨q', b', u', v', e1, e2, r1, r2⟩
        · rw [e1] at z; rw [e2]; exact ⟨.non, H, I.tok _, rfl, k.now rh .non z⟩
        · rw [e1] at z; rw [e2]; exact ⟨v', H, I.tok _, r1, k.now rh r2 z⟩
    · exact False.elim z
  · rename_i a q d
    cases rp
    obtain ⟨y, yd, rfl, ry, rd⟩ := rvs_two rps
    split at z
    · rename_i t lk kvs ea
      obtain ⟨hk, z⟩ := z
      cases rx
      obtain ⟨u1, u2, rfl, ru, ru2⟩ := rv.two
      cases t with
      | false =>
        obtain ⟨ds, f1, l1, r⟩ := rh a _ ea
        have hk' : q.leaf = true := hk
        have g : DGet H a y (valV ds (keyOf q)) := .inl ⟨ds, keyOf q, f1.rd, kV_of hk' ry, rfl⟩
        refine d_get2 (by omega) I g ru ru2 fun w' s3 I3 rw' => ⟨_, H, I3, rw', ?_⟩
        rcases ent_atK hk' r with ⟨e1, e2⟩ | ⟨q', v', e1, e2, r'⟩
        · rw [e1] at z; rw [e2]; exact k.now rh rd z
        · rw [e1] at z; rw [e2]; exact k.now rh r' z
      | true =>
        obtain ⟨ds, f1, l1, r⟩ := rh a _ ea
        obtain ⟨k', hk1, hk2⟩ := keyT hk
        obtain ⟨b, eb⟩ := keyT_ref hk ry
        subst eb
        cases ru
        obtain ⟨g1, g2, g3⟩ := dic_of I f1.rd r
        refine getOr_keyed (knd := nestedKind X.prog X.w) (by show X.A.units + 1 + 8 < cLine; omega) ⟨ry.nested I _ _ _ _ hk1 rfl, hk2⟩ g1 ⟨ds, g3, rfl⟩ ?_
        rw [valueAt_pairsH]
        rcases ent_at hk1 r with ⟨e1, e2⟩ | ⟨q', b', u', v', e1, e2, r1, r2⟩
        · rw [e1] at z; rw [e2]; exact ⟨yd, H, I.tok _, ru2, k.now rh rd z⟩
        · rw [e1] at z; rw [e2]; exact ⟨v', H, I.tok _, r1, k.now rh r2 z⟩
    · exact False.elim z
  · exact False.elim z
end
end G

namespace G
open PySem PySem.Spec PyProof.Rows L2

structure ZEnds where
  nx : Ev → PH → Prop
  rt : QV
  bk : Ev → PH → Prop := fun _ _ => False
  ct : Ev → PH → Prop := fun _ _ => False
abbrev ZS := ZEnds → Ev → PH → Prop
abbrev ZG := PV → Ev → PH → (Ev → PH → Prop) → Prop
abbrev ZGs := List PV → Ev → PH → (Ev → PH → Prop) → Prop
abbrev ZI := Ev → PH → (Nat → Nat → PH → Prop) → Prop
section
variable (P : Program) (w : World) (K : PySem.W.Frag)
def ThnS (h : PH) (H : Hp) (Q : Ev → PH → Prop) (R : L2.St → Hp → Prop) : Prop := ∀ ρ' h', Q ρ' h' → ∀ σ' H', Stp h H h' H' → RS K H' σ' ρ' → RH P w K H' h' → R σ' H'
structure EndsOk (h : PH) (H : Hp) (Z : ZEnds) (D : Ends) : Prop where
  nx : ThnS P w K h H Z.nx D.nx
  rt : Thn P w K h H Z.rt D.rt
  bk : ThnS P w K h H Z.bk D.bk
  ct : ThnS P w K h H Z.ct D.ct
def LS (t : ZS) : TS := fun D σ H => ∃ ρ h Z, RS K H σ ρ ∧ RH P w K H h ∧ t Z ρ h ∧ EndsOk P w K h H Z D
def LG (g : ZG) : TG := fun v σ H Q => ∃ p ρ h Qz, RV K H v p ∧ RS K H σ ρ ∧ RH P w K H h ∧ g p ρ h Qz ∧ ThnS P w K h H Qz Q
def LGs (g : ZGs) : TGs := fun vs σ H Q => ∃ ps ρ h Qz, RVs K H vs ps ∧ RS K H σ ρ ∧ RH P w K H h ∧ g ps ρ h Qz ∧ ThnS P w K h H Qz Q
end
abbrev QS (X : Cx) (s : Stmt) (t : ZS) : Prop := PS X s (LS X.prog X.w X.K t)
abbrev QSs (X : Cx) (s : List Stmt) (t : ZS) : Prop := PSs X s (LS X.prog X.w X.K t)
abbrev QG (X : Cx) (e : Expr) (g : ZG) : Prop := PG X e (LG X.prog X.w X.K g)
abbrev QGs (X : Cx) (e : List Expr) (g : ZGs) : Prop := PGs X e (LGs X.prog X.w X.K g)
theorem psI {X : Cx} {e : Stmt} {t t' : TS} (h : PS X e t) (i : ∀ D σ H, t' D σ H → t D σ H) : PS X e t' := ⟨fun pins s σ H D I q => h.run pins s σ H D I (i D σ H q)⟩
theorem pssI {X : Cx} {e : List Stmt} {t t' : TS} (h : PSs X e t) (i : ∀ D σ H, t' D σ H → t D σ H) : PSs X e t' := ⟨fun pins s σ H D I q => h.run pins s σ H D I (i D σ H q)⟩
theorem pgI {X : Cx} {e : Expr} {t t' : TG} (h : PG X e t) (i : ∀ v σ H Q, t' v σ H Q → t v σ H Q) : PG X e t' := ⟨fun pins s σ H v u Q I r q => h.run pins s σ H v u Q I r (i v σ H Q q)⟩
theorem pgsI {X : Cx} {e : List Expr} {t t' : TGs} (h : PGs X e t) (i : ∀ v σ H Q, t' v σ H Q → t v σ H Q) : PGs X e t' := ⟨fun pins s σ H v u Q I r q => h.run pins s σ H v u Q I r (i v σ H Q q)⟩
section
variable {P : Program} {w : World} {K : PySem.W.Frag} {h h1 : PH} {H H1 : Hp} {Z : ZEnds} {D : Ends}
theorem ThnS.later {Q : Ev → PH → Prop} {R : L2.St → Hp → Prop} (k : ThnS P w K h H Q R) (s : Stp h H h1 H1) : ThnS P w K h1 H1 Q R := fun ρ' h' q σ' H' s' rs rh => k ρ' h' q σ' H' (s.trans s') rs rh
theorem EndsOk.later (k : EndsOk P w K h H Z D) (s : Stp h H h1 H1) : EndsOk P w K h1 H1 Z D := ⟨k.nx.later s, k.rt.later s, k.bk.later s, k.ct.later s⟩
/-- another way on -/
theorem EndsOk.nxt (k : EndsOk P w K h H Z D) {N : Ev → PH → Prop} {M : L2.St → Hp → Prop} (n : ThnS P w K h H N M) : EndsOk P w K h H { Z with nx := N } { D with nx := M } := ⟨n, k.rt, k.bk, k.ct⟩
end
section
variable {X : Cx} {e a b c : Expr} {es : List Expr} {st : Stmt} {rest ss tt : List Stmt} {t u : ZS} {te ta tb : ZE} {tc : ZT} {g : ZG} {gs : ZGs} {pos : Pos}
/-! ### blocks -/
def zNext : ZS := fun D ρ h => D.nx ρ h
def zSeq (t u : ZS) : ZS := fun D ρ h => t { D with nx := u D } ρ h
theorem qss_nil : QSs X [] zNext := pssI pss_nil fun D σ H ⟨ρ, h, Z, rs, rh, t, k⟩ => k.nx _ _ t _ _ (Stp.refl _ _) rs rh
theorem qss_cons (h1 : QS X st t) (h2 : QSs X rest u) : QSs X (st :: rest) (zSeq t u) := pssI (pss_cons h1 h2) fun D σ H ⟨ρ, h, Z, rs, rh, t, k⟩ =>
  ⟨ρ, h, _, rs, rh, t, k.nxt fun ρ' h' q σ' H' s rs' rh' => ⟨ρ', h', Z, rs', rh', q, k.later s⟩⟩
theorem qss_one (h1 : QS X st t) : QSs X [st] t := pss_one h1
def zBrk : ZS := fun D ρ h => D.bk ρ h
def zCont : ZS := fun D ρ h => D.ct ρ h
theorem qs_pass : QS X (.Pass pos) zNext := psI ps_pass fun D σ H ⟨ρ, h, Z, rs, rh, t, k⟩ => k.nx _ _ t _ _ (Stp.refl _ _) rs rh
theorem qs_brk : QS X (.Break pos) zBrk := psI ps_break fun D σ H ⟨ρ, h, Z, rs, rh, t, k⟩ => k.bk _ _ t _ _ (Stp.refl _ _) rs rh
theorem qs_cont : QS X (.Continue pos) zCont := psI ps_continue fun D σ H ⟨ρ, h, Z, rs, rh, t, k⟩ => k.ct _ _ t _ _ (Stp.refl _ _) rs rh
def zDrop (te : ZE) : ZS := fun D ρ h => te ρ h fun _ h1 => D.nx ρ h1
theorem qs_expr (he : QE X e te) (hs : swapsWith e none pos.line X.env = pure false) : QS X (.Expr e pos) (zDrop te) := psI (ps_expr he hs) fun D σ H ⟨ρ, h, Z, rs, rh, t, k⟩ =>
  ⟨ρ, h, _, rs, rh, t, fun p h1 t1 v H1 s1 r1 rh1 => k.nx _ _ t1 _ _ s1 (rs.stp rh s1) rh1⟩
def zRet (te : ZE) : ZS := fun D ρ h => te ρ h D.rt
theorem qs_ret (he : QE X e te) : QS X (.Return (some e) pos) (zRet te) := psI (ps_ret he) fun D σ H ⟨ρ, h, Z, rs, rh, t, k⟩ => ⟨ρ, h, _, rs, rh, t, k.rt⟩
def zRetN : ZS := fun D _ h => D.rt .non h
theorem qs_retN : QS X (.Return none pos) zRetN := psI ps_retN fun D σ H ⟨ρ, h, Z, rs, rh, t, k⟩ => k.rt.now rh .non t
def zIfS (c : ZT) (t u : ZS) : ZS := fun D ρ h => c ρ h fun b h1 => if b = true then t D ρ h1 else u D ρ h1
theorem qs_if (hc : QT X c tc) (ha : QSs X ss t) (hb : QSs X tt u) : QS X (.If c ss tt pos) (zIfS tc t u) := psI (ps_if hc ha hb) fun D σ H ⟨ρ, h, Z, rs, rh, t, k⟩ =>
  ⟨ρ, h, _, rs, rh, t, fun b h1 t1 H1 s1 rh1 => by
    cases b with
    | true => rw [if_pos rfl] at t1 ⊢; exact ⟨ρ, h1, Z, rs.stp rh s1, rh1, t1, k.later s1⟩
    | false => rw [if_neg Bool.false_ne_true] at t1 ⊢; exact ⟨ρ, h1, Z, rs.stp rh s1, rh1, t1, k.later s1⟩⟩
/-! ### targets -/
def zgName (i : Nat) : ZG := fun p ρ h Q => Q (ρ.set i (some p)) h
theorem qg_name {i : Nat} {x : Str} (hN : X.N.Nodup) (hi : X.N[i]? = some x) (hx : Loc X.env.scope x) (hf : X.fn x = true ∨ X.env.scope.names.lookup x = some .local) : QG X (.Name x pos) (zgName i) :=
  pgI (pg_name hN hi hx hf) fun v σ H Q ⟨p, ρ, h, Qz, r, rs, rh, q, k⟩ => k _ _ q _ _ (Stp.refl _ _) (rs.set r i) rh
def zgNil : ZGs := fun ps ρ h Q => ps = [] ∧ Q ρ h
def zgCons (g : ZG) (gs : ZGs) : ZGs := fun ps ρ h Q => match ps with
  | p :: r => g p ρ h fun ρ' h' => gs r ρ' h' Q
  | [] => False
theorem qgs_nil : QGs X [] zgNil := pgsI pgs_nil fun vs σ H Q ⟨ps, ρ, h, Qz, r, rs, rh, ⟨e, q⟩, k⟩ => by
  subst e; cases r
  exact ⟨rfl, k _ _ q _ _ (Stp.refl _ _) rs rh⟩
theorem qgs_cons (h1 : QG X e g) (h2 : QGs X es gs) (hs : (assignEach (e :: es) X.env).map (·.2) = assign e X.env :: (assignEach es X.env).map (·.2)) : QGs X (e :: es) (zgCons g gs) :=
  pgsI (pgs_cons h1 h2 hs) fun vs σ H Q ⟨ps, ρ, h, Qz, r, rs, rh, q, k⟩ => by
    cases r with
    | nil => exact False.elim q
    | cons r1 r2 => exact ⟨_, _, rfl, _, ρ, h, _, r1, rs, rh, q, fun ρ' h' q' σ' H' s rs' rh' => ⟨_, ρ', h', Qz, r2.stp rh s, rs', rh', q', k.later s⟩⟩
def zgTup (n : Nat) (gs : ZGs) : ZG := fun p ρ h Q => match p with
  | .tup xs => xs.length = n ∧ gs xs ρ h Q
  | _ => False
theorem qg_tup {n k : Nat} (hc : X.calm = true) (hg : QGs X es gs) (hn : (assignEach es X.env).length = n) (hst : (assignEach es X.env).findIdx? (·.1) = none) : QG X (.Tuple es k pos) (zgTup n gs) :=
  pgI (pg_tup hc hg hn hst) fun v σ H Q ⟨p, ρ, h, Qz, r, rs, rh, q, k⟩ => by
    cases p <;> first | (exact False.elim q) | skip
    cases r with
    | tup s l qq => exact ⟨_, _, rfl, s, by rw [qq.length]; exact q.1, _, ρ, h, Qz, qq, rs, rh, q.2, k⟩
/-- o[i] = v by values -/
abbrev ZSet := PV → PV → PV → PH → (PH → Prop) → Prop
def zSet : ZSet
  | .ref a, k, v, h, Q => match h a, k with
    | some (.lst xs), .int i => ∃ j, ixN xs.length i = some j ∧ Q (up h a (.lst (xs.set j v)))
    | some (.dic t none kvs), k => keyOk t k = true ∧ kvs.length < sizeLine ∧ Q (up h a (.dic t none (dput kvs k v)))
    | _, _ => False
  | _, _, _, _, _ => False
theorem qset (hu : X.A.units + 64 < cLine) : PSet X (fun o i v H Q => ∃ po pi pv h Qz, RV X.K H o po ∧ RV X.K H i pi ∧ RV X.K H v pv ∧ RH X.prog X.w X.K H h ∧ zSet po pi pv h Qz ∧ ∀ h', Qz h' → ∀ H', Stp h H h' H' → RH X.prog X.w X.K H' h' → Q H') := by
  intro pins s σ H o i v ov iv u Q I ro ri rv ⟨po, pi, pv, h, Qz, qo, qi, qv, rh, z, k⟩
  cases po <;> first | (exact False.elim z) | skip
  rename_i a
  cases qo
  simp only [zSet] at z
  cases ea : h a with
  | none => rw [ea] at z; exact False.elim z
  | some ob =>
    rw [ea] at z
    cases ob with
    | lst xs =>
      cases pi <;> first | (exact False.elim z) | skip
      cases qi
      obtain ⟨j, e, z⟩ := z
      obtain ⟨us, f1, l1, q1⟩ := rh a _ ea
      refine set_list pins s σ H _ _ _ ov iv u Q I ro ri rv ⟨a, us, _, j, rfl, rfl, f1, by rw [q1.length]; exact e, ?_⟩
      have st : Stp h H (up h a (.lst (xs.set j pv))) (upd H a (.lst (us.set j v))) := stp_set ea
      exact k _ z _ st (rh.put st ⟨_, upd_same, by rw [List.length_set]; exact l1, (q1.set qv j).stp rh st⟩)
    | dic t lk kvs =>
      cases lk with
      | some l => cases pi <;> exact False.elim z
      | none =>
        obtain ⟨hk, hl, z'⟩ := (show keyOk t pi = true ∧ kvs.length < sizeLine ∧ Qz (up h a (.dic t none (dput kvs pi pv))) by cases pi <;> exact z)
        clear z
        cases ro
        have hl' := len_dput kvs pi pv
        cases t with
        | false =>
          obtain ⟨ds, f1, l1, r⟩ := rh a _ ea
          have hk' : pi.leaf = true := hk
          have f1' : H a = some (.dK ds) := f1
          have g : DPut H a i v (upd H a (.dK (putK ds (keyOf pi) v))) := .inl ⟨ds, keyOf pi, f1', kV_of hk' qi, by rw [← paired_len r]; exact hl, rfl⟩
          refine d_setItem (by omega) I g ri rv fun s4 I4 => ⟨_, I4, ?_⟩
          have st : Stp h H (up h a (.dic false none (dput kvs pi pv))) (upd H a (.dK (putK ds (keyOf pi) v))) := stp_set ea
          refine k _ z' _ st (rh.put st ⟨_, (show LkAt _ _ none _ from upd_same), by omega, ?_⟩)
          exact Paired.mapP (ent_putK hk' qv r) fun _ _ q => ⟨q.1, q.2.stp rh st⟩
        | true =>
          obtain ⟨xs, f1, l1, r⟩ := rh a _ ea
          obtain ⟨k', hk1, hk2⟩ := keyT hk
          obtain ⟨b, eb⟩ := keyT_ref hk qi
          subst eb
          cases ri
          obtain ⟨g1, g2, g3⟩ := dic_of I f1.rd r
          have f1' : H a = some (.ext (dphi X.prog X.w a xs)) := f1
          have st : Stp h H (up h a (.dic true none (dput kvs pi pv))) (upd H a (.ext (dphi X.prog X.w a (storedH xs k' b u)))) := stp_set ea
          refine wpAny_setItem_heap (knd := nestedKind X.prog X.w) (by show X.A.units + 1 + 8 < cLine; omega) ⟨qi.nested I _ _ _ _ hk1 rfl, hk2⟩ g3 (fun h' hm' hs => ?_) g2
          have hle := len_storedH xs k' b u
          have hxl : xs.length = kvs.length := (paired_len r).symm
          obtain ⟨o', es, ep, ho', hx', hd', he', hi', hn'⟩ := hm'
          have new : ObjOk X.prog X.w (upd H a (.ext (dphi X.prog X.w a (storedH xs k' b u)))) h' a (.ext (dphi X.prog X.w a (storedH xs k' b u))) := by
            refine ⟨⟨g1, by omega, o', es, ep, ho', hx', hd', he', hn'⟩, ⟨o', ho'⟩, fun h1 h2 ⟨c1, c2, o1, es1, ep1, c3, c4⟩ hk => ⟨c1, c2, o1, es1, ep1, hk o1 c3, c4⟩⟩
          have I4 := I.write (x := a) (e := a) (t' := s.toks + (nestedKind X.prog X.w).draws k') (by rw [f1']; trivial) (.inl rfl) (fun c v hc e => (hs.2 c hc).trans e) ⟨o', ho'⟩ new
          refine ⟨_, I4, k _ z' _ st (rh.put st ⟨_, (show LkAt _ _ none _ from upd_same), by omega, ?_⟩)⟩
          exact Paired.mapP (ent_put hk1 hk2 qi rv qv r) fun _ _ ⟨c1, c2, c3, v', c4, c5⟩ => ⟨c1, c2, c3.stp rh st, v', c4, c5.stp rh st⟩
def zgSub (to ti : ZE) : ZG := fun p ρ h Q => to ρ h fun o h1 => ti ρ h1 fun i h2 => zSet o i p h2 fun h3 => Q ρ h3
theorem qg_sub {o i : Expr} {to ti : ZE} (hu : X.A.units + 64 < cLine) (ho : QE X o to) (hi : QE X i ti)
    (ha : ∀ v, assign (.Subscript o i pos) X.env v = (do
      let ov ← holding [v] (eval o X.env)
      let iv ← holding [v, ov] (eval i X.env)
      standAt pos
      holding [v, ov, iv] (setItem ov iv v)
      release [v, ov, iv] [])) : QG X (.Subscript o i pos) (zgSub to ti) :=
  pgI (pg_sub ho hi (qset hu) ha) fun v σ H Q ⟨p, ρ, h, Qz, r, rs, rh, q, k⟩ => ⟨ρ, h, _, rs, rh, q, fun po h1 t1 ov H1 s1 r1 rh1 => ⟨ρ, h1, _, rs.stp rh s1, rh1, t1, fun pi h2 t2 iv H2 s2 r2 rh2 =>
    ⟨po, pi, p, h2, _, r1.stp rh1 s2, r2, (r.stp rh s1).stp rh1 s2, rh2, t2, fun h' q' H' s' rh' => k _ _ q' _ _ ((s1.trans s2).trans s') (((rs.stp rh s1).stp rh1 s2).stp rh2 s') rh'⟩⟩⟩
/-- target = value -/
def zAsg (te : ZE) (g : ZG) : ZS := fun D ρ h => te ρ h fun p h1 => g p ρ h1 D.nx
theorem qs_asg {tg : Expr} (he : QE X e te) (hg : QG X tg g) (hs : swapsWithSole [tg] e pos.line X.env = pure false) (hw : swappedStores [tg] e X.env = pure none) (h1 : (assignEach [tg] X.env).map (·.2) = [assign tg X.env]) :
    QS X (.Assign [tg] e pos) (zAsg te g) := psI (ps_asg he hg hs hw h1) fun D σ H ⟨ρ, h, Z, rs, rh, t, k⟩ => ⟨ρ, h, _, rs, rh, t, fun p h1 t1 v H1 s1 r1 rh1 => ⟨p, ρ, h1, Z.nx, r1, rs.stp rh s1, rh1, t1, k.nx.later s1⟩⟩
theorem qs_set {i : Nat} {x : Str} {pos' : Pos} (hN : X.N.Nodup) (hi : X.N[i]? = some x) (hx : Loc X.env.scope x) (he : QE X e te) (hs : swapsWith e (some (.Name x pos')) pos.line X.env = pure false) (hf : X.fn x = true ∨ X.env.scope.names.lookup x = some .local) :
    QS X (.Assign [.Name x pos'] e pos) (zAsg te (zgName i)) := psI (ps_set hN hi hx he hs hf) fun D σ H ⟨ρ, h, Z, rs, rh, t, k⟩ => ⟨ρ, h, _, rs, rh, t, fun p h1 t1 v H1 s1 r1 rh1 => k.nx _ _ t1 _ _ s1 ((rs.stp rh s1).set r1 i) rh1⟩
/-- a, b = x, y -/
def zPar (i j : Nat) (ta : ZA) : ZS := fun D ρ h => ta ρ h fun ps h1 => match ps with
  | [p, q] => D.nx ((ρ.set i (some p)).set j (some q)) h1
  | _ => False
theorem qs_par {i j : Nat} {x y : Str} {ta : ZA} {px py pt : Pos} {kt k2 pt2} (hc : X.calm = true) (hN : X.N.Nodup) (hi : X.N[i]? = some x) (hj : X.N[j]? = some y) (hij : i ≠ j)
    (hx : X.env.scope.names.lookup x = some .local) (hy : X.env.scope.names.lookup y = some .local) (ha : QA X [a, b] ta)
    (hw : swappedStores [.Tuple [.Name x px, .Name y py] kt pt] (.Tuple [a, b] k2 pt2) X.env = pure (some [x, y]))
    (hs : swapsWithSole [.Tuple [.Name x px, .Name y py] kt pt] (.Tuple [a, b] k2 pt2) pos.line X.env = pure false) :
    QS X (.Assign [.Tuple [.Name x px, .Name y py] kt pt] (.Tuple [a, b] k2 pt2) pos) (zPar i j ta) := psI (ps_par hc hN hi hj hij hx hy ha hw hs) fun D σ H ⟨ρ, h, Z, rs, rh, t, k⟩ =>
  ⟨ρ, h, _, rs, rh, t, fun ps h1 t1 vs H1 s1 r1 rh1 => by
    split at t1
    · obtain ⟨v, u, rfl, q1, q2⟩ := rvs_two r1
      exact ⟨v, u, rfl, k.nx _ _ t1 _ _ s1 (((rs.stp rh s1).set q1 i).set q2 j) rh1⟩
    · exact False.elim t1⟩
/-- name += e, of ints -/
def zAug (i : Nat) (te : ZE) (f : Int → Int → Int) : ZS := fun D ρ h => ∃ x, ρ[i]? = some (some (.int x)) ∧ te ρ h fun p h1 => match p with
  | .int y => D.nx (ρ.set i (some (.int (f x y)))) h1
  | _ => False
theorem qs_aug {i : Nat} {x : Str} {op : Operator} {f : Int → Int → Int} {pos' : Pos} (hN : X.N.Nodup) (hi : X.N[i]? = some x) (hx : Loc X.env.scope x) (he : QE X e te) (ho : PIp X op (ipI f)) (hf : X.fn x = true ∨ X.env.scope.names.lookup x = some .local) :
    QS X (.AugAssign (.Name x pos') op e pos) (zAug i te f) := psI (ps_aug hN hi hx he ho hf) fun D σ H ⟨ρ, h, Z, rs, rh, ⟨n, e1, t⟩, k⟩ => by
  obtain ⟨v, e2, r⟩ := rs.2 _ _ e1
  cases r
  refine ⟨_, e2, ρ, h, _, rs, rh, t, fun p h1 t1 v H1 s1 r1 rh1 => ?_⟩
  cases p <;> first | (exact False.elim t1) | skip
  cases r1
  exact ⟨_, _, rfl, rfl, k.nx _ _ t1 _ _ s1 ((rs.stp rh s1).set (.int _) i) rh1⟩
/-! ### while -/
def zWhile (c : ZT) (tb : ZS) : ZS := fun D ρ h => ∃ W : Nat → Ev → PH → Prop, (∃ m, W m ρ h) ∧ ∀ m ρ h, W m ρ h →
  c ρ h fun b h1 => if b = true then ∃ N : Ev → PH → Prop, (∀ ρ' h', N ρ' h' → ∃ m' h2, m' < m ∧ Sub h2 h' ∧ W m' ρ' h2) ∧ tb { D with nx := N, ct := N, bk := D.nx } ρ h1 else D.nx ρ h1
theorem stp_sub {h h' h2 : PH} {H H' : Hp} (s : Stp h H h' H') (u : Sub h2 h') : Stp h H h2 H' := fun b o e n => by
  obtain ⟨a1, a2⟩ := s b o e n
  refine ⟨a1, ?_⟩
  cases q : h2 b with
  | none => rfl
  | some v => rw [u b v q] at a2; cases a2
theorem qs_while {body : List Stmt} (hp : PassesOwn (model X.prog X.w) X.A X.env X.xe) (hc : QT X c tc) (hb : QSs X body t) : QS X (.While c body [] pos) (zWhile tc t) :=
  psI (ps_while hp hc hb) fun D σ H ⟨ρ, h, Z, rs, rh, ⟨W, ⟨m0, w0⟩, turn⟩, k⟩ => by
    refine ⟨fun m σ' H' => ∃ ρ' h', RS X.K H' σ' ρ' ∧ RH X.prog X.w X.K H' h' ∧ Stp h H h' H' ∧ W m ρ' h', ⟨m0, ρ, h, rs, rh, Stp.refl _ _, w0⟩, ?_⟩
    rintro m σ1 H1 ⟨ρ1, h1, rs1, rh1, s1, w1⟩
    refine ⟨ρ1, h1, _, rs1, rh1, turn m ρ1 h1 w1, fun b h2 t2 H2 s2 rh2 => ?_⟩
    cases b with
    | false =>
      rw [if_neg Bool.false_ne_true] at t2 ⊢
      exact k.nx _ _ t2 _ _ (s1.trans s2) (rs1.stp rh1 s2) rh2
    | true =>
      rw [if_pos rfl] at t2 ⊢
      obtain ⟨N, hN, t2⟩ := t2
      have s12 := s1.trans s2
      have nn : ThnS X.prog X.w X.K h2 H2 N (fun σ' H' => ∃ ρ' h', RS X.K H' σ' ρ' ∧ RH X.prog X.w X.K H' h' ∧ Stp h H h' H' ∧ N ρ' h') := fun ρ' h' q σ' H' s rs' rh' => ⟨ρ', h', rs', rh', s12.trans s, q⟩
      refine ⟨fun σ' H' => ∃ ρ' h', RS X.K H' σ' ρ' ∧ RH X.prog X.w X.K H' h' ∧ Stp h H h' H' ∧ N ρ' h', ?_, ρ1, h2, _, rs1.stp rh1 s2, rh2, t2, ⟨nn, k.rt.later s12, k.nx.later s12, nn⟩⟩
      rintro σ' H' ⟨ρ', h', rs', rh', s', n'⟩
      obtain ⟨m', h3, hm, u, w'⟩ := hN ρ' h' n'
      exact ⟨m', hm, ρ', h3, rs', rh'.sub u, stp_sub s' u, w'⟩
end
end G

namespace G
open PySem PySem.Spec PyProof.Rows L2

/-! ### what a loop walks -/
structure ZIt where
  go : Nat → PH → Prop
  yld : Nat → PH → PV → Prop
  stop : Nat → PH → Prop
/-- fixed values -/
def ZitV (ps : List PV) : ZIt := ⟨fun i _ => i < ps.length, fun i _ p => ps[i]? = some p, fun i _ => ps.length ≤ i⟩
/-- the list at a as it stands at each turn -/
def ZitL (a : Addr) : ZIt := ⟨fun i h => ∃ xs x, h a = some (.lst xs) ∧ xs[i]? = some x, fun i h p => ∀ xs, h a = some (.lst xs) → xs[i]? = some p, fun i h => ∃ xs, h a = some (.lst xs) ∧ xs.length ≤ i⟩
/-- lo, lo + 1, .. -/
def ZitR (lo : Int) (n : Nat) : ZIt := ⟨fun i _ => i < n, fun i _ p => p = .int (lo + i), fun i _ => n ≤ i⟩
/-- the keys of the locked dict at a -/
def ZitK (a : Addr) (t : Bool) (lk : Obj × HO) (kvs : List (PV × PV)) : ZIt :=
  ⟨fun i h => h a = some (.dic t (some lk) kvs) ∧ i < kvs.length, fun i _ p => ∃ kv, kvs[i]? = some kv ∧ p = kv.1, fun i h => h a = some (.dic t (some lk) kvs) ∧ kvs.length ≤ i⟩
def Cor (P : Program) (w : World) (K : PySem.W.Frag) (h0 : PH) (H0 : Hp) (J : It) (Z : ZIt) : Prop := ∀ i h H, Stp h0 H0 h H → RH P w K H h →
  (Z.go i h → J.go i H) ∧ (Z.stop i h → J.stop i H) ∧ (Z.go i h → ∀ x H', J.yld i H x H' → ∃ p, Z.yld i h p ∧ Stp h H h H' ∧ RV K H' x p ∧ RH P w K H' h)
abbrev ZSrc := Ev → PH → (ZIt → PH → Prop) → Prop
def LIs (P : Program) (w : World) (K : PySem.W.Frag) (wz : ZSrc) : TI := fun σ H R => ∃ ρ h Rz, RS K H σ ρ ∧ RH P w K H h ∧ wz ρ h Rz ∧ ∀ Z h', Rz Z h' → ∀ J H', Stp h H h' H' → RH P w K H' h' → Cor P w K h' H' J Z → R J H'
abbrev QI (X : Cx) (tg iter : Expr) (wz : ZSrc) : Prop := PI X tg iter (LIs X.prog X.w X.K wz)
theorem piI {X : Cx} {tg e : Expr} {t t' : TI} (h : PI X tg e t) (i : ∀ σ H Q, t' σ H Q → t σ H Q) : PI X tg e t' := ⟨fun pins s σ H Q I q => h.run pins s σ H Q I (i σ H Q q)⟩
section
variable {X : Cx} {tg e a b : Expr} {te : ZE} {ta : ZA} {pos : Pos}
/-- any of: a list, a tuple, a locked dict -/
def iAnyV (K : PySem.W.Frag) (tl : TE) : TI := fun σ H R => tl σ H fun x H1 => ∃ a, x = .ref a ∧ ((∃ xs, SqL K H1 a xs ∧ R (Itl K a) H1) ∨ (∃ xs, SqT K H1 a xs ∧ R (Itt K a) H1) ∨ ∃ o kvs, H1 a = some (.frz o (.dK kvs)) ∧ R (Itk a o kvs) H1)
theorem pi_anyV {l : Expr} {tl : TE} (hl : PE X l tl) : PI X tg l (iAnyV X.K tl) := by
  refine ⟨fun pins s σ H R I h => ?_⟩
  refine thn (hl.run pins s σ H _ I h) fun v s1 ⟨x, H1, I1, r1, q1⟩ => ?_
  obtain ⟨a, e, q⟩ := q1
  subst e
  cases r1
  rcases q with ⟨xs, hq, q⟩ | ⟨xs, hq, q⟩ | ⟨o, kvs, hd, q⟩
  · obtain ⟨its, rv, p, hz⟩ := I1.list hq
    exact wpAny_pyIter_list p.isList (pi_one (tk := s1.toks) I1 _ (turn_list a _) ⟨_, Heap.get?_push_size _ rfl, rfl, rfl⟩ q)
  · obtain ⟨its, rv, p, hz⟩ := I1.tuple hq
    exact wpAny_pyIter_tuple (show s1.heap.IsTuple a its.toArray from p) (pi_one (tk := s1.toks) I1 _ (turn_tuple a _) ⟨_, Heap.get?_push_size _ rfl, rfl, rfl⟩ q)
  · obtain ⟨hs, hgd, hx, es, ep, vs, hdt, hsz, kv, hm⟩ := I1.frzK hd
    refine iter_keys hs hgd hx hdt (pi_one (tk := s1.toks) I1 _ (turn_keys _ hdt) ⟨_, Heap.get?_push_size _ rfl, rfl, ?_⟩ q)
    rw [hsz] <;> rfl
def zsAny (te : ZE) : ZSrc := fun ρ h R => te ρ h fun p h1 => match p with
  | .tup ps => R (ZitV ps) h1
  | .ref a => (match h1 a with
    | some (.lst _) => R (ZitL a) h1
    | some (.dic false (some lk) kvs) => R (ZitK a false lk kvs) h1
    | _ => False)
  | _ => False
theorem cor_tup {P : Program} {w : World} {K : PySem.W.Frag} {h0 : PH} {H0 : Hp} {a : Addr} {xs : List V} {ps : List PV} (rh0 : RH P w K H0 h0) (s : SqT K H0 a xs) (inj : ∀ {H : Hp} {ys : List V}, SqT K H a xs → SqT K H a ys → ys = xs) (r : RVs K H0 xs ps) : Cor P w K h0 H0 (Itt K a) (ZitV ps) := fun i h H st rh => by
  have s1 := SqT.stp rh0 st s
  have r1 := r.stp rh0 st
  refine ⟨fun g => ?_, fun g => ⟨xs, s1, by rw [r1.length]; exact g⟩, fun g x H' y => ?_⟩
  · have hlt : i < xs.length := by rw [r1.length]; exact g
    exact ⟨xs, xs[i], s1, List.getElem?_eq_getElem hlt⟩
  · obtain ⟨rfl, y⟩ := y
    obtain ⟨p, e, rv⟩ := r1.getV (y xs s1)
    exact ⟨p, e, Stp.refl _ _, rv, rh⟩
theorem cor_tup' {P : Program} {w : World} {K : PySem.W.Frag} {h0 : PH} {H0 : Hp} {a : Addr} {xs : List V} {ps : List PV} (rh0 : RH P w K H0 h0) (s : SqT K H0 a xs) (r : RVs K H0 xs ps) : Cor P w K h0 H0 (Itt K a) (ZitV ps) := fun i h H st rh => by
  have s1 := SqT.stp rh0 st s
  have r1 := r.stp rh0 st
  refine ⟨fun g => ?_, fun g => ⟨xs, s1, by rw [r1.length]; exact g⟩, fun g x H' y => ?_⟩
  · have hlt : i < xs.length := by rw [r1.length]; exact g
    exact ⟨xs, xs[i], s1, List.getElem?_eq_getElem hlt⟩
  · obtain ⟨rfl, y⟩ := y
    obtain ⟨p, e, rv⟩ := r1.getV (y xs s1)
    exact ⟨p, e, Stp.refl _ _, rv, rh⟩
theorem cor_list {P : Program} {w : World} {K : PySem.W.Frag} {h0 : PH} {H0 : Hp} {a : Addr} : Cor P w K h0 H0 (Itl K a) (ZitL a) := fun i h H st rh => by
  refine ⟨fun ⟨ps, p, e, e2⟩ => ?_, fun ⟨ps, e, hl⟩ => ?_, fun ⟨ps, p, e, e2⟩ x H' y => ?_⟩
  · obtain ⟨us, f1, l1, q1⟩ := rh a _ e
    obtain ⟨v, g1, g2⟩ := q1.get e2
    exact ⟨us, v, SqL.of f1, g1⟩
  · obtain ⟨us, f1, l1, q1⟩ := rh a _ e
    exact ⟨us, SqL.of f1, by rw [q1.length]; exact hl⟩
  · obtain ⟨rfl, y⟩ := y
    obtain ⟨us, f1, l1, q1⟩ := rh a _ e
    obtain ⟨v, g1, g2⟩ := q1.get e2
    have : x = v := Option.some.inj ((y us (SqL.of f1)).symm.trans g1)
    subst this
    exact ⟨p, fun xs ex => by rw [e] at ex; cases ex; exact e2, Stp.refl _ _, g2, rh⟩
theorem cor_keys {P : Program} {w : World} {K : PySem.W.Frag} {h0 : PH} {H0 : Hp} {a : Addr} {o : Obj} {ds : List (Key × V)} {kvs : List (PV × PV)} (r : Paired (EntK K H0) kvs ds) : Cor P w K h0 H0 (Itk a o ds) (ZitK a false (o, .dK ds) kvs) := fun i h H st rh => by
  have hl := paired_len r
  have at_ : h a = some (.dic false (some (o, .dK ds)) kvs) → H a = some (.frz o (.dK ds)) := fun e => by
    obtain ⟨ds', f1, _⟩ := rh a _ e
    obtain ⟨f1, f2⟩ := f1
    cases f1
    exact f2
  refine ⟨fun ⟨e, e2⟩ => ⟨at_ e, by omega⟩, fun ⟨e, e2⟩ => ⟨at_ e, by omega⟩, fun ⟨e, e2⟩ x H' y => ?_⟩
  obtain ⟨rfl, k, v, y1, rfl⟩ := y
  obtain ⟨kv, f1, f2⟩ : ∃ kv, kvs[i]? = some kv ∧ EntK K H0 kv (k, v) := by
    have hlt : i < kvs.length := e2
    obtain ⟨b, g1, g2⟩ := paired_get r (List.getElem?_eq_getElem hlt)
    rw [y1] at g1; cases g1
    exact ⟨_, List.getElem?_eq_getElem hlt, g2⟩
  refine ⟨kv.1, ⟨kv, f1, rfl⟩, Stp.refl _ _, ?_, rh⟩
  have e3 : kv.1 = kP k := f2.1
  rw [e3]
  cases k with
  | inl i => exact .int i
  | inr z => have := RV.str (K := K) (H := H') z.cps.toList; rw [tS_of] at this; exact this
theorem qi_any (he : QE X e te) : QI X tg e (zsAny te) :=
  piI (pi_anyV he) fun σ H R ⟨ρ, h, Rz, rs, rh, t, k⟩ => ⟨ρ, h, _, rs, rh, t, fun p h1 t1 v H1 s1 r1 rh1 => by
    cases p <;> first | (exact False.elim t1) | skip
    case tup ps =>
      cases r1 with
      | tup s l q => exact ⟨_, rfl, .inr (.inl ⟨_, s, k _ _ t1 _ _ s1 rh1 (cor_tup' rh1 s q)⟩)⟩
    case ref a =>
      simp only at t1
      cases r1
      split at t1
      · rename_i xs ea
        obtain ⟨us, f1, l1, q1⟩ := rh1 a _ ea
        exact ⟨a, rfl, .inl ⟨us, SqL.of f1, k _ _ t1 _ _ s1 rh1 cor_list⟩⟩
      · rename_i lk kvs ea
        obtain ⟨ds, f1, l1, q1⟩ := rh1 a _ ea
        obtain ⟨o, u⟩ := lk
        obtain ⟨f1, f2⟩ := f1
        subst f1
        exact ⟨a, rfl, .inr (.inr ⟨o, ds, f2, k _ _ t1 _ _ s1 rh1 (cor_keys q1)⟩)⟩
      · exact False.elim t1⟩
def zsR1 (ta : ZA) : ZSrc := fun ρ h R => ta ρ h fun ps h1 => match ps with
  | [.int j] => -(2 ^ 62) ≤ j ∧ j < 2 ^ 62 ∧ R (ZitR 0 j.toNat) h1
  | _ => False
def zsR2 (ta : ZA) : ZSrc := fun ρ h R => ta ρ h fun ps h1 => match ps with
  | [.int i, .int j] => (-(2 ^ 62) ≤ i ∧ i < 2 ^ 62 ∧ -(2 ^ 62) ≤ j ∧ j < 2 ^ 62) ∧ R (ZitR i (j - i).toNat) h1
  | _ => False
theorem cor_rng {P : Program} {w : World} {K : PySem.W.Frag} {h0 : PH} {H0 : Hp} {lo : Int} {n : Nat} : Cor P w K h0 H0 (Itr lo n) (ZitR lo n) := fun i h H st rh =>
  ⟨fun g => g, fun g => g, fun g x H' ⟨y1, y2⟩ => by subst y1; subst y2; exact ⟨_, rfl, Stp.refl _ _, .int _, rh⟩⟩
theorem qi_r1 {p : Pos} (hg : Gl X "range") (hm : X.mg "range" = none) (ha : QA X [a] ta) (hs : starEach [a] X.env = [(false, eval a X.env)]) : QI X tg (.Call (.Name "range" p) [a] [] pos) (zsR1 ta) :=
  piI (pi_range1 hg hm ha hs) fun σ H R ⟨ρ, h, Rz, rs, rh, t, k⟩ => ⟨ρ, h, _, rs, rh, t, fun ps h1 t1 vs H1 s1 r1 rh1 => by
    split at t1
    · obtain ⟨v, rfl, q⟩ := rvs_one r1
      cases q
      exact ⟨_, rfl, t1.1, t1.2.1, k _ _ t1.2.2 _ _ s1 rh1 cor_rng⟩
    · exact False.elim t1⟩
theorem qi_r2 {p : Pos} (hg : Gl X "range") (hm : X.mg "range" = none) (ha : QA X [a, b] ta) (hs : starEach [a, b] X.env = [(false, eval a X.env), (false, eval b X.env)]) (hs2 : starEach [b] X.env = [(false, eval b X.env)]) : QI X tg (.Call (.Name "range" p) [a, b] [] pos) (zsR2 ta) :=
  piI (pi_range2 hg hm ha hs hs2) fun σ H R ⟨ρ, h, Rz, rs, rh, t, k⟩ => ⟨ρ, h, _, rs, rh, t, fun ps h1 t1 vs H1 s1 r1 rh1 => by
    split at t1
    · obtain ⟨v, u, rfl, q, q2⟩ := rvs_two r1
      cases q; cases q2
      exact ⟨_, _, rfl, t1.1, k _ _ t1.2 _ _ s1 rh1 cor_rng⟩
    · exact False.elim t1⟩
/-! ### for -/
def zFor (wz : ZSrc) (g : ZG) (tb : ZS) : ZS := fun D ρ h => wz ρ h fun Z h1 => ∃ W : Nat → Nat → Ev → PH → Prop, (∃ m, W 0 m ρ h1) ∧ ∀ i m ρ h, W i m ρ h →
  (Z.stop i h ∧ D.nx ρ h) ∨ (Z.go i h ∧ ∃ N : Ev → PH → Prop, (∀ ρ' h', N ρ' h' → ∃ m' h2, m' < m ∧ Sub h2 h' ∧ W (i + 1) m' ρ' h2) ∧ ∀ p, Z.yld i h p → g p ρ h fun ρ2 h2 => tb { D with nx := N, ct := N, bk := D.nx } ρ2 h2)
theorem qs_for {iter : Expr} {body : List Stmt} {wz : ZSrc} {g : ZG} {tb : ZS} (hp : PassesOwn (model X.prog X.w) X.A X.env X.xe) (hc : X.calm = true) (hi : QI X tg iter wz) (hg : QG X tg g) (hb : QSs X body tb) (hs : ∀ x, foldedSetIterable iter X.env x = pure x) :
    QS X (.For tg iter body [] pos) (zFor wz g tb) := psI (ps_for hp hc hi hg hb hs) fun D σ H ⟨ρ, h, Zd, rs, rh, t, k⟩ => ⟨ρ, h, _, rs, rh, t, fun Z h1 t1 J H1 s1 rh1 cor => by
  obtain ⟨W, ⟨m0, w0⟩, turn⟩ := t1
  refine ⟨fun i m σ' H' => ∃ ρ' h', RS X.K H' σ' ρ' ∧ RH X.prog X.w X.K H' h' ∧ Stp h1 H1 h' H' ∧ W i m ρ' h', ⟨m0, ρ, h1, rs.stp rh s1, rh1, Stp.refl _ _, w0⟩, ?_⟩
  rintro i m σ2 H2 ⟨ρ2, h2, rs2, rh2, s2, w2⟩
  obtain ⟨c1, c2, c3⟩ := cor i h2 H2 s2 rh2
  rcases turn i m ρ2 h2 w2 with ⟨st, q⟩ | ⟨go, N, hN, step⟩
  · exact .inl ⟨c2 st, k.nx _ _ q _ _ (s1.trans s2) rs2 rh2⟩
  · refine .inr ⟨c1 go, fun σ' H' => ∃ ρ' h', RS X.K H' σ' ρ' ∧ RH X.prog X.w X.K H' h' ∧ Stp h1 H1 h' H' ∧ N ρ' h', ?_, fun x H3 y => ?_⟩
    · rintro σ' H' ⟨ρ', h', rs', rh', s', n'⟩
      obtain ⟨m', h3, hm, u, w'⟩ := hN ρ' h' n'
      exact ⟨m', hm, ρ', h3, rs', rh'.sub u, stp_sub s' u, w'⟩
    · obtain ⟨p, y1, s3, rx, rh3⟩ := c3 go x H3 y
      have s123 := (s1.trans s2).trans s3
      refine ⟨p, ρ2, h2, _, rx, rs2.stp rh2 s3, rh3, step p y1, fun ρ4 h4 q4 σ4 H4 s4 rs4 rh4 => ⟨ρ4, h4, _, rs4, rh4, q4, ?_⟩⟩
      have sA := s123.trans s4
      have sB := (s2.trans s3).trans s4
      have nn : ThnS X.prog X.w X.K h4 H4 N (fun σ' H' => ∃ ρ' h', RS X.K H' σ' ρ' ∧ RH X.prog X.w X.K H' h' ∧ Stp h1 H1 h' H' ∧ N ρ' h') := fun ρ' h' q σ' H' s rs' rh' => ⟨ρ', h', rs', rh', sB.trans s, q⟩
      exact ⟨nn, k.rt.later sA, k.nx.later sA, nn⟩⟩
/-- the loop over what is known ahead, turn by turn -/
def forV (g : ZG) (tb : ZS) (D : ZEnds) : List PV → Ev → PH → Prop
  | [], ρ, h => D.nx ρ h
  | p :: ps, ρ, h => g p ρ h fun ρ2 h2 => tb { D with nx := fun ρ' h' => ∃ h2, Sub h2 h' ∧ forV g tb D ps ρ' h2, ct := fun ρ' h' => ∃ h2, Sub h2 h' ∧ forV g tb D ps ρ' h2, bk := D.nx } ρ2 h2
theorem for_vals {g : ZG} {tb : ZS} {D : ZEnds} {ps : List PV} {ρ : Ev} {h : PH} (x : forV g tb D ps ρ h) :
    ∃ W : Nat → Nat → Ev → PH → Prop, (∃ m, W 0 m ρ h) ∧ ∀ i m ρ h, W i m ρ h → ((ZitV ps).stop i h ∧ D.nx ρ h) ∨ ((ZitV ps).go i h ∧ ∃ N : Ev → PH → Prop, (∀ ρ' h', N ρ' h' → ∃ m' h2, m' < m ∧ Sub h2 h' ∧ W (i + 1) m' ρ' h2) ∧
      ∀ p, (ZitV ps).yld i h p → g p ρ h fun ρ2 h2 => tb { D with nx := N, ct := N, bk := D.nx } ρ2 h2) := by
  refine ⟨fun i m ρ h => m = ps.length - i ∧ i ≤ ps.length ∧ forV g tb D (ps.drop i) ρ h, ⟨ps.length, by simp, Nat.zero_le _, x⟩, ?_⟩
  rintro i m ρ h ⟨rfl, hi, q⟩
  by_cases hlt : i < ps.length
  · refine .inr ⟨hlt, fun ρ' h' => ∃ h2, Sub h2 h' ∧ forV g tb D (ps.drop (i + 1)) ρ' h2, fun ρ' h' ⟨h2, u, n⟩ => ⟨ps.length - (i + 1), h2, by omega, u, rfl, hlt, n⟩, fun p y => ?_⟩
    have e : ps[i]? = some p := y
    rw [List.drop_eq_getElem_cons hlt] at q
    rw [List.getElem?_eq_getElem hlt] at e
    cases e
    exact q
  · have e : i = ps.length := by omega
    subst e
    rw [List.drop_length] at q
    exact .inl ⟨Nat.le_refl _, q⟩
/-- .. over a range -/
theorem for_rng {g : ZG} {tb : ZS} {D : ZEnds} {lo : Int} {n : Nat} {ρ : Ev} {h : PH} (x : forV g tb D ((List.range n).map fun i : Nat => PV.int (lo + (i : Int))) ρ h) :
    ∃ W : Nat → Nat → Ev → PH → Prop, (∃ m, W 0 m ρ h) ∧ ∀ i m ρ h, W i m ρ h → ((ZitR lo n).stop i h ∧ D.nx ρ h) ∨ ((ZitR lo n).go i h ∧ ∃ N : Ev → PH → Prop, (∀ ρ' h', N ρ' h' → ∃ m' h2, m' < m ∧ Sub h2 h' ∧ W (i + 1) m' ρ' h2) ∧
      ∀ p, (ZitR lo n).yld i h p → g p ρ h fun ρ2 h2 => tb { D with nx := N, ct := N, bk := D.nx } ρ2 h2) := by
  obtain ⟨W, w0, turn⟩ := for_vals x
  refine ⟨W, w0, fun i m ρ h w => ?_⟩
  rcases turn i m ρ h w with ⟨a, b⟩ | ⟨a, N, b, c⟩
  · exact .inl ⟨by simpa [ZitV, ZitR] using a, b⟩
  · have a' : i < n := by simpa [ZitV] using a
    exact .inr ⟨a', N, b, fun p y => c p (by
      have y' : p = .int (lo + i) := y
      subst y'
      simp [ZitV, a'])⟩
/-- .. over a list that the body leaves as it is: it is asked at each turn -/
def forL (g : ZG) (tb : ZS) (D : ZEnds) (a : Addr) (all : List PV) : List PV → Ev → PH → Prop
  | [], ρ, h => h a = some (.lst all) ∧ D.nx ρ h
  | p :: ps, ρ, h => h a = some (.lst all) ∧ g p ρ h fun ρ2 h2 => tb { D with nx := fun ρ' h' => ∃ h2, Sub h2 h' ∧ forL g tb D a all ps ρ' h2, ct := fun ρ' h' => ∃ h2, Sub h2 h' ∧ forL g tb D a all ps ρ' h2, bk := D.nx } ρ2 h2
theorem for_list {g : ZG} {tb : ZS} {D : ZEnds} {a : Addr} {ps : List PV} {ρ : Ev} {h : PH} (x : forL g tb D a ps ps ρ h) :
    ∃ W : Nat → Nat → Ev → PH → Prop, (∃ m, W 0 m ρ h) ∧ ∀ i m ρ h, W i m ρ h → ((ZitL a).stop i h ∧ D.nx ρ h) ∨ ((ZitL a).go i h ∧ ∃ N : Ev → PH → Prop, (∀ ρ' h', N ρ' h' → ∃ m' h2, m' < m ∧ Sub h2 h' ∧ W (i + 1) m' ρ' h2) ∧
      ∀ p, (ZitL a).yld i h p → g p ρ h fun ρ2 h2 => tb { D with nx := N, ct := N, bk := D.nx } ρ2 h2) := by
  refine ⟨fun i m ρ h => m = ps.length - i ∧ i ≤ ps.length ∧ forL g tb D a ps (ps.drop i) ρ h, ⟨ps.length, by simp, Nat.zero_le _, x⟩, ?_⟩
  rintro i m ρ h ⟨rfl, hi, q⟩
  by_cases hlt : i < ps.length
  · rw [List.drop_eq_getElem_cons hlt] at q
    refine .inr ⟨⟨ps, _, q.1, List.getElem?_eq_getElem hlt⟩, fun ρ' h' => ∃ h2, Sub h2 h' ∧ forL g tb D a ps (ps.drop (i + 1)) ρ' h2, fun ρ' h' ⟨h2, u, n⟩ => ⟨ps.length - (i + 1), h2, by omega, u, rfl, hlt, n⟩, fun p y => ?_⟩
    have e := y ps q.1
    rw [List.getElem?_eq_getElem hlt] at e
    cases e
    exact q.2
  · have e : i = ps.length := by omega
    subst e
    rw [List.drop_length] at q
    exact .inl ⟨⟨ps, q.1, Nat.le_refl _⟩, q.2⟩
/-- .. over the keys of a locked dict -/
def forK (g : ZG) (tb : ZS) (D : ZEnds) (a : Addr) (o : PO) : List PV → Ev → PH → Prop
  | [], ρ, h => h a = some o ∧ D.nx ρ h
  | p :: ps, ρ, h => h a = some o ∧ g p ρ h fun ρ2 h2 => tb { D with nx := fun ρ' h' => ∃ h2, Sub h2 h' ∧ forK g tb D a o ps ρ' h2, ct := fun ρ' h' => ∃ h2, Sub h2 h' ∧ forK g tb D a o ps ρ' h2, bk := D.nx } ρ2 h2
theorem for_keys {g : ZG} {tb : ZS} {D : ZEnds} {a : Addr} {t : Bool} {lk : Obj × HO} {kvs : List (PV × PV)} {ρ : Ev} {h : PH} (x : forK g tb D a (.dic t (some lk) kvs) (kvs.map Prod.fst) ρ h) :
    ∃ W : Nat → Nat → Ev → PH → Prop, (∃ m, W 0 m ρ h) ∧ ∀ i m ρ h, W i m ρ h → ((ZitK a t lk kvs).stop i h ∧ D.nx ρ h) ∨ ((ZitK a t lk kvs).go i h ∧ ∃ N : Ev → PH → Prop, (∀ ρ' h', N ρ' h' → ∃ m' h2, m' < m ∧ Sub h2 h' ∧ W (i + 1) m' ρ' h2) ∧
      ∀ p, (ZitK a t lk kvs).yld i h p → g p ρ h fun ρ2 h2 => tb { D with nx := N, ct := N, bk := D.nx } ρ2 h2) := by
  refine ⟨fun i m ρ h => m = kvs.length - i ∧ i ≤ kvs.length ∧ forK g tb D a (.dic t (some lk) kvs) ((kvs.map Prod.fst).drop i) ρ h, ⟨kvs.length, by simp, Nat.zero_le _, x⟩, ?_⟩
  rintro i m ρ h ⟨rfl, hi, q⟩
  by_cases hlt : i < kvs.length
  · have hlt' : i < (kvs.map Prod.fst).length := by simpa using hlt
    rw [List.drop_eq_getElem_cons hlt'] at q
    refine .inr ⟨⟨q.1, hlt⟩, fun ρ' h' => ∃ h2, Sub h2 h' ∧ forK g tb D a (.dic t (some lk) kvs) ((kvs.map Prod.fst).drop (i + 1)) ρ' h2, fun ρ' h' ⟨h2, u, n⟩ => ⟨kvs.length - (i + 1), h2, by omega, u, rfl, hlt, n⟩, fun p y => ?_⟩
    obtain ⟨kv, e, rfl⟩ := y
    rw [List.getElem?_eq_getElem hlt] at e
    cases e
    have q2 := q.2
    rw [List.getElem_map] at q2
    exact q2
  · have e : i = kvs.length := by omega
    subst e
    rw [List.drop_of_length_le (by simp)] at q
    exact .inl ⟨⟨q.1, Nat.le_refl _⟩, q.2⟩
/-! ### locks -/
def zLock (t : ZS) : ZS := fun D ρ h => ∃ a tt kvs, h a = some (.dic tt none kvs) ∧ ∀ lk, t ⟨fun ρ' h' => h' a = some (.dic tt (some lk) kvs) ∧ D.nx ρ' (up h' a (.dic tt none kvs)), fun v h' => h' a = some (.dic tt (some lk) kvs) ∧ D.rt v (up h' a (.dic tt none kvs)),
  fun ρ' h' => h' a = some (.dic tt (some lk) kvs) ∧ D.bk ρ' (up h' a (.dic tt none kvs)), fun ρ' h' => h' a = some (.dic tt (some lk) kvs) ∧ D.ct ρ' (up h' a (.dic tt none kvs))⟩ ρ (up h a (.dic tt (some lk) kvs))
theorem lk_of {P : Program} {w : World} {K : PySem.W.Frag} {h : PH} {H : Hp} {a : Addr} {t : Bool} {kvs : List (PV × PV)} (rh : RH P w K H h) (e : h a = some (.dic t none kvs)) : ∃ u, H a = some u ∧ Mut (some u) ∧ ∀ od, RO P w K (upd H a (.frz od u)) a (.dic t (some (od, u)) kvs) ∧ Stp h H (up h a (.dic t (some (od, u)) kvs)) (upd H a (.frz od u)) := by
  cases t with
  | false =>
    obtain ⟨ds, f1, l1, r⟩ := rh a _ e
    refine ⟨.dK ds, f1, trivial, fun od => ?_⟩
    have st : Stp h H (up h a (.dic false (some (od, .dK ds)) kvs)) (upd H a (.frz od (.dK ds))) := stp_set e
    exact ⟨⟨ds, ⟨rfl, upd_same⟩, l1, Paired.mapP r fun _ _ q => ⟨q.1, q.2.stp rh st⟩⟩, st⟩
  | true =>
    obtain ⟨ds, f1, l1, r⟩ := rh a _ e
    refine ⟨.ext (dphi P w a ds), f1, trivial, fun od => ?_⟩
    have st : Stp h H (up h a (.dic true (some (od, .ext (dphi P w a ds))) kvs)) (upd H a (.frz od (.ext (dphi P w a ds)))) := stp_set e
    exact ⟨⟨ds, ⟨rfl, upd_same⟩, l1, Paired.mapP r fun _ _ ⟨c1, c2, c3, v', c4, c5⟩ => ⟨c1, c2, c3.stp rh st, v', c4, c5.stp rh st⟩⟩, st⟩
theorem unlk_of {P : Program} {w : World} {K : PySem.W.Frag} {h : PH} {H : Hp} {a : Addr} {t : Bool} {od : Obj} {u : HO} {kvs : List (PV × PV)} (rh : RH P w K H h) (e : h a = some (.dic t (some (od, u)) kvs)) :
    H a = some (.frz od u) ∧ Stp h H (up h a (.dic t none kvs)) (upd H a u) ∧ RH P w K (upd H a u) (up h a (.dic t none kvs)) := by
  have st : Stp h H (up h a (.dic t none kvs)) (upd H a u) := stp_set e
  cases t with
  | false =>
    obtain ⟨ds, ⟨f1, f2⟩, l1, r⟩ := rh a _ e
    subst f1
    exact ⟨f2, st, rh.put st ⟨ds, upd_same, l1, Paired.mapP r fun _ _ q => ⟨q.1, q.2.stp rh st⟩⟩⟩
  | true =>
    obtain ⟨ds, ⟨f1, f2⟩, l1, r⟩ := rh a _ e
    subst f1
    exact ⟨f2, st, rh.put st ⟨ds, upd_same, l1, Paired.mapP r fun _ _ ⟨c1, c2, c3, v', c4, c5⟩ => ⟨c1, c2, c3.stp rh st, v', c4, c5.stp rh st⟩⟩⟩
theorem qs_lock {st : Stmt} {t : ZS} (hs : QS X st t) : QS X st (zLock t) := psI (ps_lock hs) fun D σ H ⟨ρ, h, Z, rs, rh, ⟨a, tt, kvs, e, q⟩, k⟩ => by
  obtain ⟨u, e1, mu, ro⟩ := lk_of rh e
  refine ⟨a, u, e1, mu, fun od => ?_⟩
  obtain ⟨ro, s0⟩ := ro od
  have rh0 := rh.put s0 ro
  refine ⟨ρ, _, _, rs.stp rh s0, rh0, q (od, u), ⟨fun ρ' h' n σ' H' s rs' rh' => ?_, fun p h' n v H' s r' rh' => ?_, fun ρ' h' n σ' H' s rs' rh' => ?_, fun ρ' h' n σ' H' s rs' rh' => ?_⟩⟩
  · obtain ⟨n1, n2⟩ := n
    obtain ⟨g1, g2, g3⟩ := unlk_of rh' n1
    exact ⟨g1, k.nx _ _ n2 _ _ ((s0.trans s).trans g2) (rs'.stp rh' g2) g3⟩
  · obtain ⟨n1, n2⟩ := n
    obtain ⟨g1, g2, g3⟩ := unlk_of rh' n1
    exact ⟨g1, k.rt _ _ n2 _ _ ((s0.trans s).trans g2) (r'.stp rh' g2) g3⟩
  · obtain ⟨n1, n2⟩ := n
    obtain ⟨g1, g2, g3⟩ := unlk_of rh' n1
    exact ⟨g1, k.bk _ _ n2 _ _ ((s0.trans s).trans g2) (rs'.stp rh' g2) g3⟩
  · obtain ⟨n1, n2⟩ := n
    obtain ⟨g1, g2, g3⟩ := unlk_of rh' n1
    exact ⟨g1, k.ct _ _ n2 _ _ ((s0.trans s).trans g2) (rs'.stp rh' g2) g3⟩
def zLockE (t : ZE) : ZE := fun ρ h Q => ∃ a tt kvs, h a = some (.dic tt none kvs) ∧ ∀ lk, t ρ (up h a (.dic tt (some lk) kvs)) fun v h' => h' a = some (.dic tt (some lk) kvs) ∧ Q v (up h' a (.dic tt none kvs))
theorem qe_lock {e : Expr} {t : ZE} (hs : QE X e t) : QE X e (zLockE t) := peI (pe_lock hs) fun σ H Q ⟨ρ, h, Qp, rs, rh, ⟨a, tt, kvs, e, q⟩, k⟩ => by
  obtain ⟨u, e1, mu, ro⟩ := lk_of rh e
  refine ⟨a, u, e1, mu, fun od => ?_⟩
  obtain ⟨ro, s0⟩ := ro od
  have rh0 := rh.put s0 ro
  refine ⟨ρ, _, _, rs.stp rh s0, rh0, q (od, u), fun p h' n v H' s r' rh' => ?_⟩
  obtain ⟨n1, n2⟩ := n
  obtain ⟨g1, g2, g3⟩ := unlk_of rh' n1
  exact ⟨g1, k _ _ n2 _ _ ((s0.trans s).trans g2) (r'.stp rh' g2) g3⟩
end
end G

namespace G
open PySem PySem.Spec PyProof.Rows L2

/-! ### targets of loops: names, tuples of targets -/
mutual
inductive Tg where
  | nm (i : Nat)
  | tp (ts : Tgs)
inductive Tgs where
  | nil
  | cons (t : Tg) (ts : Tgs)
end
def Tgs.len : Tgs → Nat
  | .nil => 0
  | .cons _ ts => ts.len + 1
mutual
def Tg.z : Tg → ZG
  | .nm i => zgName i
  | .tp ts => zgTup ts.len (Tgs.z ts)
def Tgs.z : Tgs → ZGs
  | .nil => zgNil
  | .cons t ts => zgCons (Tg.z t) (Tgs.z ts)
end
mutual
def Tg.t (K : PySem.W.Frag) : Tg → TG
  | .nm i => gName i
  | .tp ts => gTup K ts.len (Tgs.t K ts)
def Tgs.t (K : PySem.W.Frag) : Tgs → TGs
  | .nil => gNil
  | .cons t ts => gCons (Tg.t K t) (Tgs.t K ts)
end
mutual
def Tg.slots : Tg → List Nat
  | .nm i => [i]
  | .tp ts => Tgs.slots ts
def Tgs.slots : Tgs → List Nat
  | .nil => []
  | .cons t ts => Tg.slots t ++ Tgs.slots ts
end
def zwipe (ρ : Ev) : List Nat → Ev
  | [] => ρ
  | v :: vs => (zwipe ρ vs).set v none
theorem wipe_set {i : Nat} {x : Option V} : ∀ {vs : List Nat} {σ : L2.St}, i ∈ vs → wipe (σ.set i x) vs = wipe σ vs
  | [], _, h => by cases h
  | v :: vs, σ, h => by
    simp only [wipe]
    by_cases hv : i ∈ vs
    · rw [wipe_set hv]
    · rcases List.mem_cons.mp h with rfl | h
      · have : ∀ (us : List Nat) (τ : L2.St), i ∉ us → wipe (τ.set i x) us = (wipe τ us).set i x := by
          intro us
          induction us with
          | nil => intro τ _; rfl
          | cons u us ih =>
            intro τ hn
            simp only [List.mem_cons, not_or] at hn
            simp only [wipe]
            rw [ih τ hn.2, List.set_comm _ _ hn.1]
        rw [this vs σ hv, List.set_set]
      · exact absurd h hv
section
variable {P : Program} {w : World} {K : PySem.W.Frag}
mutual
theorem Tg.ok : ∀ (t : Tg) {v : V} {p : PV} {σ : L2.St} {ρ : Ev} {H : Hp} {h : PH} {Qz : Ev → PH → Prop} {Q : L2.St → Hp → Prop} {vs : List Nat}, (∀ i ∈ t.slots, i ∈ vs) → RV K H v p → RS K H σ ρ → RH P w K H h → t.z p ρ h Qz →
    (∀ ρ' h', Qz ρ' h' → ∀ σ', RS K H σ' ρ' → wipe σ' vs = wipe σ vs → h' = h → Q σ' H) → t.t K v σ H Q
  | .nm i, v, p, σ, ρ, H, h, Qz, Q, vs, hs, rv, rs, rh, z, k => k _ _ z _ (rs.set rv i) (wipe_set (hs i (by simp [Tg.slots]))) rfl
  | .tp ts, v, p, σ, ρ, H, h, Qz, Q, vs, hs, rv, rs, rh, z, k => by
    simp only [Tg.z] at z
    cases p <;> first | (exact False.elim z) | skip
    rename_i ps
    cases rv with
    | tup s l q => exact ⟨_, _, rfl, s, by rw [q.length]; exact z.1, Tgs.ok ts hs q rs rh z.2 k⟩
theorem Tgs.ok : ∀ (t : Tgs) {v : List V} {p : List PV} {σ : L2.St} {ρ : Ev} {H : Hp} {h : PH} {Qz : Ev → PH → Prop} {Q : L2.St → Hp → Prop} {vs : List Nat}, (∀ i ∈ t.slots, i ∈ vs) → RVs K H v p → RS K H σ ρ → RH P w K H h → t.z p ρ h Qz →
    (∀ ρ' h', Qz ρ' h' → ∀ σ', RS K H σ' ρ' → wipe σ' vs = wipe σ vs → h' = h → Q σ' H) → t.t K v σ H Q
  | .nil, v, p, σ, ρ, H, h, Qz, Q, vs, hs, rv, rs, rh, z, k => by
    simp only [Tgs.z, zgNil] at z
    obtain ⟨e, z⟩ := z
    subst e; cases rv
    exact ⟨rfl, k _ _ z _ rs rfl rfl⟩
  | .cons t ts, v, p, σ, ρ, H, h, Qz, Q, vs, hs, rv, rs, rh, z, k => by
    simp only [Tgs.z] at z
    cases rv with
    | nil => exact False.elim z
    | cons r1 r2 =>
      refine ⟨_, _, rfl, Tg.ok t (fun i hi => hs i (by simp [Tgs.slots, hi])) r1 rs rh z fun ρ' h' q' σ' rs' hw e => ?_⟩
      subst e
      refine Tgs.ok ts (fun i hi => hs i (by simp [Tgs.slots, hi])) r2 rs' rh q' fun ρ2 h2 q2 σ2 rs2 hw2 e2 => ?_
      exact k ρ2 h2 q2 σ2 rs2 (hw2.trans hw) e2
end
theorem RS.wipe {H : Hp} {σ : L2.St} {ρ : Ev} (rs : RS K H σ ρ) : ∀ vs : List Nat, RS K H (wipe σ vs) (zwipe ρ vs)
  | [] => rs
  | v :: vs => by
    have ih := RS.wipe rs vs
    simp only [L2.wipe, zwipe]
    refine ⟨by rw [List.length_set, List.length_set]; exact ih.1, fun i p e => ?_⟩
    by_cases hi : v = i
    · subst hi
      by_cases hl : v < (zwipe ρ vs).length
      · rw [List.getElem?_set_self hl] at e; cases e
      · rw [List.getElem?_eq_none (by simpa using hl)] at e; cases e
    · rw [List.getElem?_set_ne hi] at e
      obtain ⟨u, a, b⟩ := ih.2 i p e
      exact ⟨u, by rw [List.getElem?_set_ne hi]; exact a, b⟩
end
abbrev QTs (X : Cx) (ifs : List Expr) (t : ZT) : Prop := PTs X ifs (LT X.prog X.w X.K t)
def ztYes : ZT := fun _ h Q => Q true h
theorem qts_nil {X : Cx} : QTs X [] ztYes := ⟨fun pins s σ H Q I ⟨ρ, h, Qp, rs, rh, t, k⟩ => pts_nil.run pins s σ H Q I (k _ _ t H (Stp.refl _ _) rh)⟩
theorem qts_one {X : Cx} {c : Expr} {t : ZT} (h : QT X c t) : QTs X [c] t := pts_one h

/-! ### list comprehensions -/
def zLc (wz : ZSrc) (g : ZG) (tt : ZT) (te : ZE) (vs : List Nat) : ZE := fun ρ h Q => wz ρ h fun Z h1 => ∃ W : Nat → Nat → List PV → PH → Prop, (∃ m, W 0 m [] h1) ∧ ∀ i m acc h, W i m acc h →
  (Z.stop i h ∧ ∀ D, h D = none → Q (.ref D) (up h D (.lst acc))) ∨ (Z.go i h ∧ acc.length < sizeLine ∧ ∃ Nx : List PV → PH → Prop, (∀ acc' h', Nx acc' h' → ∃ m' h2, m' < m ∧ Sub h2 h' ∧ W (i + 1) m' acc' h2) ∧
    ∀ p, Z.yld i h p → g p (zwipe ρ vs) h fun ρ2 h2 => tt ρ2 h2 fun b h3 => if b = true then te ρ2 h3 fun y h4 => Nx (acc ++ [y]) h4 else Nx acc h3)
section
variable {X : Cx}
theorem sub_free {h h2 : PH} {D : Addr} (u : Sub h2 h) (n : h D = none) : h2 D = none := by
  cases e : h2 D with
  | none => rfl
  | some o => rw [u D o e] at n; cases n
theorem rh_hid {P : Program} {w : World} {K : PySem.W.Frag} {H : Hp} {h : PH} {D : Addr} {us : List V} {acc : List PV} (rh : RH P w K H h) (nD : h D = none) (e : H D = some (.lst us)) (ru : RVs K H us acc) (hl : us.length ≤ sizeLine) : RH P w K H (up h D (.lst acc)) := fun a v ea => by
  by_cases ha : a = D
  · subst ha; rw [up_same] at ea; cases ea; exact ⟨us, e, hl, ru⟩
  · rw [up_ne ha] at ea; exact rh a v ea
theorem rh_hid_put {P : Program} {w : World} {K : PySem.W.Frag} {H : Hp} {h : PH} {D : Addr} {us : List V} {acc : List PV} {o : HO} (rh : RH P w K H h) (nD : h D = none) (e : H D = some (.lst us)) (ru : RVs K H us acc) (hl : us.length ≤ sizeLine) : RH P w K (upd H D o) h := fun a v ea => by
  have ha : a ≠ D := fun z => by rw [z, nD] at ea; cases ea
  exact (rh a v ea).keep (rh_hid rh nD e ru hl) (stp_set (u := .lst []) up_same) (upd_ne ha)
/-- the heart: from the trees' reading to the values' -/
theorem le_lc {P : Program} {w : World} {K : PySem.W.Frag} {wz : ZSrc} {t : Tg} {tt : ZT} {te : ZE} {vs : List Nat} {σ : L2.St} {H : Hp} {Q : VK} (hv : ∀ i ∈ t.slots, i ∈ vs) (x : LE P w K (zLc wz t.z tt te vs) σ H Q) :
    tLc (LIs P w K wz) (t.t K) (LT P w K tt) (LE P w K te) vs σ H Q := by
  obtain ⟨ρ, h, Qp, rs, rh, x, k⟩ := x
  refine ⟨ρ, h, _, rs, rh, x, fun Z h1 t1 J H1 s1 rh1 cor D nD => ?_⟩
  obtain ⟨W, ⟨m0, w0⟩, turn⟩ := t1
  have nD1 : h1 D = none := rh1.free nD
  have sD : Stp h1 H1 h1 (upd H1 D (.lst [])) := stp_new0 nD
  -- what holds between turns
  refine ⟨fun i m H2 => ∃ acc us h2, RH P w K H2 h2 ∧ Stp h1 H1 h2 H2 ∧ h2 D = none ∧ H2 D = some (.lst us) ∧ RVs K H2 us acc ∧ us.length ≤ sizeLine ∧ W i m acc h2, ⟨m0, [], [], h1, rh1.new0 nD, sD, nD1, upd_same, .nil, Nat.zero_le _, w0⟩, ?_⟩
  rintro i m H2 ⟨acc, us, h2, rh2, s2, nD2, eD, ru, hl, w2⟩
  have s12 := s1.trans s2
  obtain ⟨c1, c2, c3⟩ := cor i h2 H2 s2 rh2
  rcases turn i m acc h2 w2 with ⟨st, q⟩ | ⟨go, hacc, Nx, hN, step⟩
  · refine .inl ⟨c2 st, ?_⟩
    have s3 : Stp h H (up h2 D (.lst acc)) H2 := fun b o e n => by
      obtain ⟨e1, n1⟩ := s1 b o e n
      obtain ⟨e2, n2⟩ := s2 b o e1 n1
      have hb : b ≠ D := fun z => by rw [z, nD] at e1; cases e1
      exact ⟨e2, by rw [up_ne hb]; exact n2⟩
    exact k _ _ (q D nD2) _ _ s3 (.ref D) (rh_hid rh2 nD2 eD ru hl)
  · refine .inr ⟨c1 go, fun H' => ∃ acc us h2, RH P w K H' h2 ∧ Stp h1 H1 h2 H' ∧ h2 D = none ∧ H' D = some (.lst us) ∧ RVs K H' us acc ∧ us.length ≤ sizeLine ∧ Nx acc h2, ?_, fun x H3 y => ?_⟩
    · rintro H' ⟨acc', us', h', rh', s', n', e', r', l', nx⟩
      obtain ⟨m', h3, hm, u, w'⟩ := hN acc' h' nx
      exact ⟨m', hm, acc', us', h3, rh'.sub u, stp_sub s' u, sub_free u n', e', r', l', w'⟩
    · obtain ⟨p, y1, s3, rx, rh3⟩ := c3 go x H3 y
      have rs3 := ((rs.stp rh s1).stp rh1 s2).stp rh2 s3
      obtain ⟨eD3, _⟩ := s3 D _ eD nD2
      have ru3 := ru.stp rh2 s3
      refine Tg.ok t hv rx (rs3.wipe vs) rh3 (step p y1) fun ρ4 h4 q4 σ4 rs4 hw e4 => ?_
      subst e4
      refine ⟨?_, ρ4, _, _, rs4, rh3, q4, fun b h5 q5 H5 s5 rh5 => ?_⟩
      · rw [hw]
        have idem : ∀ (us : List Nat) (τ : L2.St), wipe (wipe τ us) us = wipe τ us := by
          intro us
          induction us with
          | nil => intro τ; rfl
          | cons u us ih =>
            intro τ
            simp only [wipe]
            by_cases hu : u ∈ us
            · rw [wipe_set hu, ih]
            · have : ∀ (ws : List Nat) (τ : L2.St), u ∉ ws → wipe (τ.set u none) ws = (wipe τ ws).set u none := by
                intro ws
                induction ws with
                | nil => intro τ _; rfl
                | cons z ws ih2 =>
                  intro τ hn
                  simp only [List.mem_cons, not_or] at hn
                  simp only [wipe]
                  rw [ih2 τ hn.2, List.set_comm _ _ hn.1]
              rw [this us _ hu, ih, List.set_set]
        exact idem vs σ
      · obtain ⟨eD5, nD5⟩ := s5 D _ eD3 nD2
        have s125 := (s2.trans s3).trans s5
        cases b with
        | false =>
          rw [if_neg Bool.false_ne_true] at q5 ⊢
          exact ⟨acc, us, h5, rh5, s125, nD5, eD5, ru3.stp rh3 s5, hl, q5⟩
        | true =>
          rw [if_pos rfl] at q5 ⊢
          refine ⟨ρ4, h5, _, rs4.stp rh3 s5, rh5, q5, fun yv h6 q6 v6 H6 s6 r6 rh6 => ?_⟩
          obtain ⟨eD6, nD6⟩ := s6 D _ eD5 nD5
          have hlen : us.length < sizeLine := by rw [ru.length]; exact hacc
          have ru6 := (ru3.stp rh3 s5).stp rh5 s6
          have nD1' : H1 D = none := nD
          refine ⟨us, eD6, hlen, acc ++ [yv], us ++ [v6], h6, rh_hid_put rh6 nD6 eD6 ru6 hl, fun b o e n => ?_, nD6, upd_same, ?_, by rw [List.length_append, List.length_singleton]; omega, q6⟩
          · obtain ⟨e1, n1⟩ := (s125.trans s6) b o e n
            have hb : b ≠ D := fun z => by rw [z, nD1'] at e; cases e
            exact ⟨by rw [upd_ne hb]; exact e1, n1⟩
          · exact (ru6.append (.cons r6 .nil)).stp (rh_hid rh6 nD6 eD6 ru6 hl) (stp_set (u := .lst []) up_same)
end
end G

namespace G
open PySem PySem.Spec PyProof.Rows L2
section
variable {X : Cx}
theorem peI' {X : Cx} {e : Expr} {t t' : TE} (h : PE X e t) (i : ∀ σ H Q, t' σ H Q → t σ H Q) : PE X e t' := peI h i
variable {elt kx vx tg iter : Expr} {ifs : List Expr} {scope : Scope} {own : List (Str × Nat)} {pos spos : Pos} {wz : ZSrc} {t : Tg} {tt : ZT} {te tk tv : ZE}
/-- within the block -/
abbrev InB (X : Cx) (scope : Scope) (M : Cx → Prop) : Prop := ∀ (s : Shared) (H : Hp) (C : Addr) (cl : List (Str × Addr)) (fp : List Addr), M (X.blk s H scope (compEnvC scope cl C X.env) fp)
theorem qe_lc (hc : X.calm = true) (hN : X.N.Nodup) (hi : QI X tg iter wz) (ok : blkC X.N X.env.scope scope own = true) (hv : (t.slots.all fun i => (own.map (·.2)).contains i) = true)
    (hg : InB X scope fun Y => PG Y tg (t.t X.K)) (ht : InB X scope fun Y => QTs Y ifs tt) (he : InB X scope fun Y => QE Y elt te) (hs : ∀ x, foldedSetIterable iter X.env x = pure x) :
    QE X (.ListComp elt [⟨tg, iter, ifs, 0⟩] scope pos) (zLc wz t.z tt te (own.map (·.2))) := by
  have hv' : ∀ i ∈ t.slots, i ∈ own.map (·.2) := fun i hi => by simpa using List.all_eq_true.mp hv i hi
  exact peI (pe_lc (wi := LIs X.prog X.w X.K wz) (g := t.t X.K) (tt := LT X.prog X.w X.K tt) (te := LE X.prog X.w X.K te) hc hN hi (blkOk_by ok) hg ht he hs) fun σ H Q x => le_lc hv' x
theorem le_asg {P : Program} {w : World} {K : PySem.W.Frag} {te : ZE} {i : Nat} {D : Ends} {σ : L2.St} {H : Hp} (x : LS P w K (zAsg te (zgName i)) D σ H) : LE P w K te σ H fun v H1 => D.nx (σ.set i (some v)) H1 := by
  obtain ⟨ρ, h, Z, rs, rh, t, k⟩ := x
  exact ⟨ρ, h, _, rs, rh, t, fun p h1 t1 v H1 s1 r1 rh1 => k.nx _ _ t1 _ _ s1 ((rs.stp rh s1).set r1 i) rh1⟩
theorem qs_setLc {i : Nat} {y : Str} {py : Pos} (hc : X.calm = true) (hN : X.N.Nodup) (hy : X.N[i]? = some y) (hyl : X.env.scope.names.lookup y = some .local)
    (hsw : swapsWith (.ListComp elt [⟨tg, iter, ifs, 0⟩] scope pos) (some (.Name y py)) spos.line X.env = pure true)
    (hi : QI X tg iter wz) (ok : blkC X.N X.env.scope scope own = true) (hv : (t.slots.all fun i => (own.map (·.2)).contains i) = true)
    (hg : InB X scope fun Y => PG Y tg (t.t X.K)) (ht : InB X scope fun Y => QTs Y ifs tt) (he : InB X scope fun Y => QE Y elt te) (hs : ∀ x, foldedSetIterable iter X.env x = pure x) :
    QS X (.Assign [.Name y py] (.ListComp elt [⟨tg, iter, ifs, 0⟩] scope pos) spos) (zAsg (zLc wz t.z tt te (own.map (·.2))) (zgName i)) := by
  have hv' : ∀ i ∈ t.slots, i ∈ own.map (·.2) := fun i hi => by simpa using List.all_eq_true.mp hv i hi
  exact psI (ps_setLc (i := i) (wi := LIs X.prog X.w X.K wz) (g := t.t X.K) (tt := LT X.prog X.w X.K tt) (te := LE X.prog X.w X.K te) hc hN hy hyl hsw hi (blkOk_by ok) hg ht he hs) fun D σ H x => le_lc hv' (le_asg x)

/-! ### dict comprehensions, the keys whole numbers or texts -/
def zDc (wz : ZSrc) (g : ZG) (tt : ZT) (tk tv : ZE) (vs : List Nat) : ZE := fun ρ h Q => wz ρ h fun Z h1 => ∃ W : Nat → Nat → List (PV × PV) → PH → Prop, (∃ m, W 0 m [] h1) ∧ ∀ i m acc h, W i m acc h →
  (Z.stop i h ∧ ∀ D, h D = none → Q (.ref D) (up h D (.dic false none acc))) ∨ (Z.go i h ∧ acc.length < sizeLine ∧ ∃ Nx : List (PV × PV) → PH → Prop, (∀ acc' h', Nx acc' h' → ∃ m' h2, m' < m ∧ Sub h2 h' ∧ W (i + 1) m' acc' h2) ∧
    ∀ p, Z.yld i h p → g p (zwipe ρ vs) h fun ρ2 h2 => tt ρ2 h2 fun b h3 => if b = true then tk ρ2 h3 fun y h4 => tv ρ2 h4 fun z h5 => y.leaf = true ∧ Nx (dput acc y z) h5 else Nx acc h3)
theorem wipe_idem (vs : List Nat) (τ : L2.St) : wipe (wipe τ vs) vs = wipe τ vs := by
  induction vs generalizing τ with
  | nil => rfl
  | cons u us ih =>
    simp only [wipe]
    by_cases hu : u ∈ us
    · rw [wipe_set hu, ih]
    · have : ∀ (ws : List Nat) (τ : L2.St), u ∉ ws → wipe (τ.set u none) ws = (wipe τ ws).set u none := by
        intro ws
        induction ws with
        | nil => intro τ _; rfl
        | cons z ws ih2 =>
          intro τ hn
          simp only [List.mem_cons, not_or] at hn
          simp only [wipe]
          rw [ih2 τ hn.2, List.set_comm _ _ hn.1]
      rw [this us _ hu, ih, List.set_set]
theorem rh_hidD {P : Program} {w : World} {K : PySem.W.Frag} {H : Hp} {h : PH} {D : Addr} {ds : List (Key × V)} {acc : List (PV × PV)} (rh : RH P w K H h) (nD : h D = none) (e : H D = some (.dK ds)) (ru : Paired (EntK K H) acc ds) (hl : acc.length ≤ sizeLine) : RH P w K H (up h D (.dic false none acc)) := fun a v ea => by
  by_cases ha : a = D
  · subst ha; rw [up_same] at ea; cases ea; exact ⟨ds, e, hl, ru⟩
  · rw [up_ne ha] at ea; exact rh a v ea
theorem rh_hidD_put {P : Program} {w : World} {K : PySem.W.Frag} {H : Hp} {h : PH} {D : Addr} {ds : List (Key × V)} {acc : List (PV × PV)} {o : HO} (rh : RH P w K H h) (nD : h D = none) (e : H D = some (.dK ds)) (ru : Paired (EntK K H) acc ds) (hl : acc.length ≤ sizeLine) : RH P w K (upd H D o) h := fun a v ea => by
  have ha : a ≠ D := fun z => by rw [z, nD] at ea; cases ea
  exact (rh a v ea).keep (rh_hidD rh nD e ru hl) (stp_set (u := .lst []) up_same) (upd_ne ha)
theorem ents_stp {P : Program} {w : World} {K : PySem.W.Frag} {h h' : PH} {H H' : Hp} (rh : RH P w K H h) (s : Stp h H h' H') {acc : List (PV × PV)} {ds : List (Key × V)} (r : Paired (EntK K H) acc ds) : Paired (EntK K H') acc ds :=
  Paired.mapP r fun _ _ z => ⟨z.1, z.2.stp rh s⟩
theorem le_dc {P : Program} {w : World} {K : PySem.W.Frag} {vs : List Nat} {σ : L2.St} {H : Hp} {Q : VK} (hv : ∀ i ∈ t.slots, i ∈ vs) (x : LE P w K (zDc wz t.z tt tk tv vs) σ H Q) :
    tDc (LIs P w K wz) (t.t K) (LT P w K tt) (LE P w K tk) (LE P w K tv) vs σ H Q := by
  obtain ⟨ρ, h, Qp, rs, rh, x, k⟩ := x
  refine ⟨ρ, h, _, rs, rh, x, fun Z h1 t1 J H1 s1 rh1 cor D nD => ?_⟩
  obtain ⟨W, ⟨m0, w0⟩, turn⟩ := t1
  have nD1 : h1 D = none := rh1.free nD
  have sD : Stp h1 H1 h1 (upd H1 D (.dK [])) := stp_new0 nD
  refine ⟨fun i m H2 => ∃ acc us h2, RH P w K H2 h2 ∧ Stp h1 H1 h2 H2 ∧ h2 D = none ∧ H2 D = some (.dK us) ∧ Paired (EntK K H2) acc us ∧ acc.length ≤ sizeLine ∧ W i m acc h2, ⟨m0, [], [], h1, rh1.new0 nD, sD, nD1, upd_same, .nil, Nat.zero_le _, w0⟩, ?_⟩
  rintro i m H2 ⟨acc, us, h2, rh2, s2, nD2, eD, ru, hl, w2⟩
  have s12 := s1.trans s2
  obtain ⟨c1, c2, c3⟩ := cor i h2 H2 s2 rh2
  rcases turn i m acc h2 w2 with ⟨st, q⟩ | ⟨go, hacc, Nx, hN, step⟩
  · refine .inl ⟨c2 st, ?_⟩
    have s3 : Stp h H (up h2 D (.dic false none acc)) H2 := fun b o e n => by
      obtain ⟨e1, n1⟩ := s1 b o e n
      obtain ⟨e2, n2⟩ := s2 b o e1 n1
      have hb : b ≠ D := fun z => by rw [z, nD] at e1; cases e1
      exact ⟨e2, by rw [up_ne hb]; exact n2⟩
    exact k _ _ (q D nD2) _ _ s3 (.ref D) (rh_hidD rh2 nD2 eD ru hl)
  · refine .inr ⟨c1 go, fun H' => ∃ acc us h2, RH P w K H' h2 ∧ Stp h1 H1 h2 H' ∧ h2 D = none ∧ H' D = some (.dK us) ∧ Paired (EntK K H') acc us ∧ acc.length ≤ sizeLine ∧ Nx acc h2, ?_, fun x H3 y => ?_⟩
    · rintro H' ⟨acc', us', h', rh', s', n', e', r', l', nx⟩
      obtain ⟨m', h3, hm, u, w'⟩ := hN acc' h' nx
      exact ⟨m', hm, acc', us', h3, rh'.sub u, stp_sub s' u, sub_free u n', e', r', l', w'⟩
    · obtain ⟨p, y1, s3, rx, rh3⟩ := c3 go x H3 y
      have rs3 := ((rs.stp rh s1).stp rh1 s2).stp rh2 s3
      obtain ⟨eD3, _⟩ := s3 D _ eD nD2
      have ru3 := ents_stp rh2 s3 ru
      refine Tg.ok t hv rx (rs3.wipe vs) rh3 (step p y1) fun ρ4 h4 q4 σ4 rs4 hw e4 => ?_
      subst e4
      refine ⟨?_, ρ4, _, _, rs4, rh3, q4, fun b h5 q5 H5 s5 rh5 => ?_⟩
      · rw [hw]; exact wipe_idem vs σ
      · obtain ⟨eD5, nD5⟩ := s5 D _ eD3 nD2
        have s125 := (s2.trans s3).trans s5
        have ru5 := ents_stp rh3 s5 ru3
        cases b with
        | false =>
          rw [if_neg Bool.false_ne_true] at q5 ⊢
          exact ⟨acc, us, h5, rh5, s125, nD5, eD5, ru5, hl, q5⟩
        | true =>
          rw [if_pos rfl] at q5 ⊢
          refine ⟨ρ4, h5, _, rs4.stp rh3 s5, rh5, q5, fun yk h6 q6 v6 H6 s6 r6 rh6 => ⟨ρ4, h6, _, (rs4.stp rh3 s5).stp rh5 s6, rh6, q6, fun yv h7 q7 v7 H7 s7 r7 rh7 => ?_⟩⟩
          obtain ⟨eD6, nD6⟩ := s6 D _ eD5 nD5
          obtain ⟨eD7, nD7⟩ := s7 D _ eD6 nD6
          have ru7 := ents_stp rh6 s7 (ents_stp rh5 s6 ru5)
          have nD1' : H1 D = none := nD
          obtain ⟨hk, q7⟩ := q7
          have st0 : Stp (up h7 D (.dic false none acc)) H7 (up (up h7 D (.dic false none acc)) D (.lst [])) (upd H7 D (.dK (putK us (keyOf yk) v7))) := stp_set up_same
          refine ⟨us, keyOf yk, kV_of hk (r6.stp rh6 s7), eD7, by rw [← paired_len ru7]; exact hacc, dput acc yk yv, _, h7, rh_hidD_put rh7 nD7 eD7 ru7 hl, fun b o e n => ?_, nD7, upd_same, ?_, by have := len_dput acc yk yv; omega, q7⟩
          · obtain ⟨e1, n1⟩ := ((s125.trans s6).trans s7) b o e n
            have hb : b ≠ D := fun z => by rw [z, nD1'] at e; cases e
            exact ⟨by rw [upd_ne hb]; exact e1, n1⟩
          · exact ents_stp (rh_hidD rh7 nD7 eD7 ru7 hl) st0 (ent_putK hk r7 ru7)
theorem qe_dc (hc : X.calm = true) (hN : X.N.Nodup) (hi : QI X tg iter wz) (ok : blkC X.N X.env.scope scope own = true) (hv : (t.slots.all fun i => (own.map (·.2)).contains i) = true)
    (hg : InB X scope fun Y => PG Y tg (t.t X.K)) (ht : InB X scope fun Y => QTs Y ifs tt) (hk : InB X scope fun Y => QE Y kx tk) (he : InB X scope fun Y => QE Y vx tv) (hs : ∀ x, foldedSetIterable iter X.env x = pure x) :
    QE X (.DictComp kx vx [⟨tg, iter, ifs, 0⟩] scope pos) (zDc wz t.z tt tk tv (own.map (·.2))) := by
  have hv' : ∀ i ∈ t.slots, i ∈ own.map (·.2) := fun i hi => by simpa using List.all_eq_true.mp hv i hi
  exact peI (pe_dc (wi := LIs X.prog X.w X.K wz) (g := t.t X.K) (tt := LT X.prog X.w X.K tt) (tk := LE X.prog X.w X.K tk) (tv := LE X.prog X.w X.K tv) hc hN hi (blkOk_by ok) hg ht hk he hs) fun σ H Q x => le_dc hv' x
theorem ps_setDc {i : Nat} {y : Str} {py : Pos} {wi : TI} {g : TG} {tt : TT} {tk tv : TE} (hc : X.calm = true) (hN : X.N.Nodup) (hy : X.N[i]? = some y) (hyl : X.env.scope.names.lookup y = some .local)
    (hsw : swapsWith (.DictComp kx vx [⟨tg, iter, ifs, 0⟩] scope pos) (some (.Name y py)) spos.line X.env = pure true) (hi : PI X tg iter wi) (ok : BlkOk X.N X.env.scope scope own)
    (hg : InB X scope fun Y => PG Y tg g) (ht : InB X scope fun Y => PTs Y ifs tt) (hk : InB X scope fun Y => PE Y kx tk) (he : InB X scope fun Y => PE Y vx tv) (hs : ∀ x, foldedSetIterable iter X.env x = pure x) :
    PS X (.Assign [.Name y py] (.DictComp kx vx [⟨tg, iter, ifs, 0⟩] scope pos) spos) (tAsg (tDc wi g tt tk tv (own.map (·.2))) (gName i)) := by
  refine ⟨fun pins s σ H D I h => ?_⟩
  rw [exec_Assign_Name_used _ _ _ _ hsw]
  refine wpAny_bind (wpAny_standAt (wpAny_bind ?_))
  show wpAny _ X.A (do let _ ← comprehension (.DictComp kx vx [⟨tg, iter, ifs, 0⟩] scope pos) scope X.env (firstIterPos [⟨tg, iter, ifs, 0⟩] pos) newDict false (eval iter X.env) (some (assign (.Name y py) X.env))) _ _ s
  have h : tDc wi g tt tk tv (own.map (·.2)) σ H (fun x H1 => gName i x σ H1 D.nx) := h
  refine wpAny_bind (thn (dc_core (Qf := fun _ s' => SP X pins D .next s') hc hN I hi ok hg ht hk he hs h fun L C s' m H' I' q hn f => ?_) fun _ s' hq => wpAny_pure (wpAny_pure hq))
  show wpAny _ _ (assign (.Name y py) X.env (.ref L)) _ _ _
  refine wpAny_assign_Name (store_ok2 (v := V.ref L) I' hN hy (.inl hyl) rfl (fun s2 I2 ⟨a, sb, ha⟩ => ?_) (.inr hyl))
  obtain ⟨f0, f1, f2, f3, f4, f5⟩ := f
  have haC : C ≠ a := by
    rcases ha with z | z
    · rw [z]; exact f1
    · exact fun e => f4 y a z e.symm
  refine ⟨m, hn.sameBut sb haC, fun h3 sb3 => ?_⟩
  exact ⟨_, H', I2.turned (t' := s2.toks) (fun b o hb e => (sb3.2 b hb).trans e) f0 f1 f3 f4 f5, q⟩
theorem sw_trueD {elt elt2 : Expr} {gs : List Comprehension} {scope : Scope} {pos py : Pos} {y : Str} {l : Nat} {env : Env} (hk : env.scope.kind = .function) (hy : env.scope.names.lookup y = some .local) (hl : (py.line == pos.line) = true)
    (ha : (scope.names.any fun (n, k) => n == y && (k == .local || k == .cell)) = false) : swapsWith (.DictComp elt elt2 gs scope pos) (some (.Name y py)) l env = pure true := by
  have ky : env.kindOf y = some .local := hy
  have hb : env.blockKind = .function := by unfold Env.blockKind; rw [hk]; rfl
  unfold swapsWith
  simp only [hb, ky, ha, Expr.pos, hl]
  rfl
theorem qs_setDc {i : Nat} {y : Str} {py : Pos} (hc : X.calm = true) (hN : X.N.Nodup) (hy : X.N[i]? = some y) (hyl : X.env.scope.names.lookup y = some .local)
    (hsw : swapsWith (.DictComp kx vx [⟨tg, iter, ifs, 0⟩] scope pos) (some (.Name y py)) spos.line X.env = pure true)
    (hi : QI X tg iter wz) (ok : blkC X.N X.env.scope scope own = true) (hv : (t.slots.all fun i => (own.map (·.2)).contains i) = true)
    (hg : InB X scope fun Y => PG Y tg (t.t X.K)) (ht : InB X scope fun Y => QTs Y ifs tt) (hk : InB X scope fun Y => QE Y kx tk) (he : InB X scope fun Y => QE Y vx tv) (hs : ∀ x, foldedSetIterable iter X.env x = pure x) :
    QS X (.Assign [.Name y py] (.DictComp kx vx [⟨tg, iter, ifs, 0⟩] scope pos) spos) (zAsg (zDc wz t.z tt tk tv (own.map (·.2))) (zgName i)) := by
  have hv' : ∀ i ∈ t.slots, i ∈ own.map (·.2) := fun i hi => by simpa using List.all_eq_true.mp hv i hi
  exact psI (ps_setDc (i := i) (wi := LIs X.prog X.w X.K wz) (g := t.t X.K) (tt := LT X.prog X.w X.K tt) (tk := LE X.prog X.w X.K tk) (tv := LE X.prog X.w X.K tv) hc hN hy hyl hsw hi (blkOk_by ok) hg ht hk he hs) fun D σ H x => le_dc hv' (le_asg x)

/-! ### {} -/
def zDn : ZE := fun _ h Q => ∃ t, ∀ p, h p = none → Q (.ref p) (up h p (.dic t none []))
theorem qe_dn : QE X (.Dict [] [] pos) zDn := by
  refine ⟨fun pins s σ H Q I ⟨ρ, h, Qp, rs, rh, ⟨t, q⟩, k⟩ => wpAny_Dict_empty ?_⟩
  have n := I.hok.fresh (Nat.le_refl s.heap.objs.size)
  cases t with
  | false =>
    have st : Stp h H (up h s.heap.objs.size (.dic false none [])) (upd H s.heap.objs.size (.dK [])) := stp_new rh n
    exact ⟨.ref s.heap.objs.size, _, I.laid (a := s.heap.objs.size) (o := .dK []) (t' := s.toks) (fun _ _ q => Heap.get?_push_of_some _ q) (Nat.le_refl _) (dk_empty s.heap I.big), rfl,
      k _ _ (q _ (rh.free n)) _ _ st (.ref _) (rh.put st ⟨[], (show LkAt _ _ none _ from upd_same), Nat.zero_le _, .nil⟩)⟩
  | true =>
    have st : Stp h H (up h s.heap.objs.size (.dic true none [])) (upd H s.heap.objs.size (.ext (dphi X.prog X.w s.heap.objs.size []))) := stp_new rh n
    refine ⟨.ref s.heap.objs.size, _, I.laid (a := s.heap.objs.size) (o := .ext (dphi X.prog X.w s.heap.objs.size [])) (h' := s.heap.push { cls := .type "dict", data := .dict #[] }) (t' := s.toks) (fun _ _ q => Heap.get?_push_of_some _ q) (Nat.le_refl _) ?_, rfl,
      k _ _ (q _ (rh.free n)) _ _ st (.ref _) (rh.put st ⟨[], (show LkAt _ _ none _ from upd_same), Nat.zero_le _, .nil⟩)⟩
    refine ⟨⟨beq_eq_false_iff_ne.mpr (Ne.symm (Nat.ne_of_lt I.big)), Nat.zero_le _, _, #[], 0, Heap.get?_push_size _ rfl, ⟨rfl, rfl, rfl⟩, rfl, rfl, List.nodup_nil⟩, ⟨_, Heap.get?_push_size _ rfl⟩, fun h1 h2 ⟨c1, c2, o1, es1, ep1, c3, c4⟩ hk => ⟨c1, c2, o1, es1, ep1, hk o1 c3, c4⟩⟩
end
end G

namespace G
open PySem PySem.Spec PyProof.Rows L2

/-! ### {k: v, ..} -/
def zPairs : List (ZE × ZE) → Ev → PH → (List (PV × PV) → PH → Prop) → Prop
  | [], _, h, Q => Q [] h
  | (tk, tv) :: r, ρ, h, Q => tk ρ h fun x h1 => tv ρ h1 fun y h2 => zPairs r ρ h2 fun ps h3 => Q ((x, y) :: ps) h3
def dputs (kvs more : List (PV × PV)) : List (PV × PV) := more.foldl (fun acc kv => dput acc kv.1 kv.2) kvs
def zDisp (trs : List (ZE × ZE)) : ZE := fun ρ h Q => zPairs trs ρ h fun ps h2 => (ps.all fun kv => kv.1.leaf) = true ∧ ∀ p, h2 p = none → Q (.ref p) (up h2 p (.dic false none (dputs [] ps)))
section
variable {P : Program} {w : World} {K : PySem.W.Frag}
abbrev RPs (K : PySem.W.Frag) (H : Hp) : List (PV × PV) → List (V × V) → Prop := Paired fun p v => RV K H v.1 p.1 ∧ RV K H v.2 p.2
theorem RPs.stp {h h' : PH} {H H' : Hp} (rh : RH P w K H h) (s : Stp h H h' H') {ps : List (PV × PV)} {vs : List (V × V)} (r : RPs K H ps vs) : RPs K H' ps vs := Paired.mapP r fun _ _ z => ⟨z.1.stp rh s, z.2.stp rh s⟩
theorem le_pairs : ∀ (trs : List (ZE × ZE)) {σ : L2.St} {H : Hp} {ρ : Ev} {h : PH} {Qp : List (PV × PV) → PH → Prop} {Q : List (V × V) → Hp → Prop}, RS K H σ ρ → RH P w K H h → zPairs trs ρ h Qp →
    (∀ ps h', Qp ps h' → ∀ vs H', Stp h H h' H' → RPs K H' ps vs → RH P w K H' h' → Q vs H') → tPairs (trs.map fun t => (LE P w K t.1, LE P w K t.2)) σ H Q
  | [], σ, H, ρ, h, Qp, Q, rs, rh, t, k => k _ _ t _ _ (Stp.refl _ _) .nil rh
  | (tk, tv) :: r, σ, H, ρ, h, Qp, Q, rs, rh, t, k => ⟨ρ, h, _, rs, rh, t, fun x h1 t1 v1 H1 s1 r1 rh1 => ⟨ρ, h1, _, rs.stp rh s1, rh1, t1, fun y h2 t2 v2 H2 s2 r2 rh2 =>
    le_pairs r ((rs.stp rh s1).stp rh1 s2) rh2 t2 fun ps h' q vs H' s r' rh' => k _ _ q _ _ ((s1.trans s2).trans s) (.cons ⟨(r1.stp rh1 s2).stp rh2 s, r2.stp rh2 s⟩ r') rh'⟩⟩
theorem ents_puts {H : Hp} {ps : List (PV × PV)} {vs : List (V × V)} (q : RPs K H ps vs) : ∀ {acc : List (PV × PV)} {ds : List (Key × V)}, (ps.all fun kv => kv.1.leaf) = true → Paired (EntK K H) acc ds →
    ∃ kvs : List (Key × V), vs = kvs.map (fun kv => (kV kv.1, kv.2)) ∧ Paired (EntK K H) (dputs acc ps) (mergeK ds kvs) := by
  unfold RPs at q
  induction q with
  | nil => intro acc ds _ r; exact ⟨[], rfl, r⟩
  | cons q t ih =>
    rename_i kv v _ _
    intro acc ds hl r
    simp only [List.all_cons, Bool.and_eq_true] at hl
    obtain ⟨kvs, e, r'⟩ := ih (acc := dput acc kv.1 kv.2) (ds := putK ds (keyOf kv.1) v.2) hl.2 (ent_putK hl.1 q.2 r)
    refine ⟨(keyOf kv.1, v.2) :: kvs, ?_, r'⟩
    rw [List.map_cons, ← e, ← kV_of hl.1 q.1]
theorem len_dputs : ∀ (ps acc : List (PV × PV)), (dputs acc ps).length ≤ acc.length + ps.length
  | [], acc => Nat.le_refl _
  | p :: ps, acc => by
    have h1 := len_dputs ps (dput acc p.1 p.2)
    have h2 := len_dput acc p.1 p.2
    show (dputs (dput acc p.1 p.2) ps).length ≤ _
    rw [List.length_cons]; omega
theorem zPairs_len : ∀ (trs : List (ZE × ZE)) {ρ : Ev} {h : PH} {Q : List (PV × PV) → PH → Prop}, True := fun _ _ _ _ => trivial
end
section
variable {X : Cx} {pos : Pos} {keys : List (Option Expr)} {values : List Expr}
abbrev QPs (X : Cx) (pos : Pos) (keys : List (Option Expr)) (values : List Expr) (trs : List (ZE × ZE)) : Prop := PPs X pos keys values (trs.map fun t => (LE X.prog X.w X.K t.1, LE X.prog X.w X.K t.2))
theorem qps_nil : QPs X pos [] [] [] := pps_nil
theorem qps_cons {k v : Expr} {ks : List (Option Expr)} {vs : List Expr} {tk tv : ZE} {trs : List (ZE × ZE)} (hk : QE X k tk) (hv : QE X v tv) (hr : QPs X pos ks vs trs) : QPs X pos (some k :: ks) (v :: vs) ((tk, tv) :: trs) := pps_cons hk hv hr
/-- a display of at most 15 -/
def zDispN (n : Nat) (trs : List (ZE × ZE)) : ZE := fun ρ h Q => zPairs trs ρ h fun ps h2 => ps.length ≤ 15 ∧ (ps.all fun kv => kv.1.leaf) = true ∧ ∀ p, h2 p = none → Q (.ref p) (up h2 p (.dic false none (dputs [] ps)))
theorem qe_disp {trs : List (ZE × ZE)} (h : QPs X pos keys values trs) (hall : keys.all (·.isSome) = true) (hl : keys.length = values.length) (h0 : keys ≠ []) (h15 : keys.length ≤ 15) : QE X (.Dict keys values pos) (zDispN 15 trs) :=
  peI (pe_disp h hall hl h0 h15) fun σ H Q ⟨ρ, h, Qp, rs, rh, t, k⟩ p n => by
    have s0 : Stp h H h (upd H p (.dK [])) := stp_new0 n
    have rh0 := rh.new0 (o := .dK []) n
    refine le_pairs trs (rs.stp rh s0) rh0 t fun ps h' ⟨q15, q1, q2⟩ vs H' s r' rh' => ?_
    obtain ⟨e1, n1⟩ := s p _ upd_same (rh.free n)
    obtain ⟨kvs, e, r''⟩ := ents_puts r' (acc := []) (ds := []) q1 .nil
    have hk : kvs.length = ps.length := by
      have a1 := paired_len r'
      have a2 := congrArg List.length e
      rw [List.length_map] at a2
      omega
    refine ⟨e1, kvs, e, by omega, ?_⟩
    have ln := len_dputs ps []
    have st1 : Stp (up h' p (.dic false none [])) H' (up (up h' p (.dic false none [])) p (.lst [])) (upd H' p (.dK (mergeK [] kvs))) := stp_set up_same
    have rhh : RH X.prog X.w X.K H' (up h' p (.dic false none [])) := rh_hidD rh' n1 e1 .nil (Nat.zero_le _)
    have st2 : Stp h H (up h' p (.dic false none (dputs [] ps))) (upd H' p (.dK (mergeK [] kvs))) := fun b o eb nb => by
      have hb : b ≠ p := fun z => by rw [z, n] at eb; cases eb
      obtain ⟨e2, n2⟩ := (s0.trans s) b o eb nb
      exact ⟨by rw [upd_ne hb]; exact e2, by rw [up_ne hb]; exact n2⟩
    refine k _ _ (q2 p n1) _ _ st2 (.ref p) ?_
    have rz : RH X.prog X.w X.K (upd H' p (.dK (mergeK [] kvs))) h' := rh_hidD_put rh' n1 e1 .nil (Nat.zero_le _)
    refine rh_hidD rz n1 upd_same (ents_stp rhh st1 r'') (by rw [sizeLine_eq]; simp at ln; omega)

/-! ### a module's constant -/
theorem qe_glob {x : Str} {v : V} {u : Value} {p : PV} (hg : Gl X x) (hm : X.mg x = some u) (r : RelV v u) (rv : ∀ H, RV X.K H v p) (hd : (x == ("__debug__" : Str)) = false) : QE X (.Name x pos) (zC p) :=
  peI (pe_glob hg hm r hd) fun σ H Q ⟨ρ, h, Qp, rs, rh, q, k⟩ => k.now rh (rv H) q
end

/-! ### defs of the text -/
/-- what a def's body answers: v behind it, some of the heap forgotten -/
def zFn (n m : Nat) (zb : ZS) : ZC := fun ps h Q => ps.length = m ∧ zb ⟨fun _ h' => ∃ h2, Sub h2 h' ∧ Q .non h2, fun v h' => ∃ h2, Sub h2 h' ∧ Q v h2, fun _ _ => False, fun _ _ => False⟩ (ps.map some ++ List.replicate (n - m) none) h
def spOf (P : Program) (w : World) (K : PySem.W.Frag) (r : ZC) : Sp := fun vs H Q _ => LC P w K r vs H Q
/-- the def x can be called; it does r -/
structure QF (P : Program) (w : World) (K : PySem.W.Frag) (mg : Str → Option Value) (base : Heap) (k : Nat) (x : Str) (n : Nat) (r : ZC) : Prop where
  ex : ∃ (f : Addr) (fd : FuncData) (ps : List Str), FnOk P w K mg base CX0 k f fd ps (spOf P w K r) ∧ mg x = some (.ref f) ∧ PySem.W.keepIn K (.ref f) = true ∧ Binds K fd ps []
theorem rs_start {K : PySem.W.Frag} {H : Hp} {vs : List V} {ps : List PV} (r : RVs K H vs ps) (N : List Str) : RS K H (L2.start N vs) (ps.map some ++ List.replicate (N.length - ps.length) none) := by
  have hl := r.length
  refine ⟨by unfold L2.start; simp [hl], fun i p e => ?_⟩
  by_cases hi : i < ps.length
  · rw [List.getElem?_append_left (by simpa using hi), List.getElem?_map] at e
    obtain ⟨q, e1, e2⟩ := Option.map_eq_some_iff.mp e
    cases e2
    obtain ⟨v, f1, f2⟩ := r.get e1
    refine ⟨v, ?_, f2⟩
    unfold L2.start
    rw [List.getElem?_append_left (by rw [List.length_map, hl]; exact hi), List.getElem?_map, f1]
    rfl
  · rw [List.getElem?_append_right (by simpa using hi), List.getElem?_replicate] at e
    split at e <;> cases e
section
variable {P : Program} {w : World} {K : PySem.W.Frag} {mg : Str → Option Value} {base : Heap}
theorem qf_def {x : Str} {st : Stmt} {f : Addr} {fd : FuncData} {N ps : List Str} {k n m : Nat} {zb : ZS} (F : Fun K x x st f fd) (S : FnScope N ps (defScope st)) (hb : Binds K fd ps []) (hg : mg x = some (.ref f)) (hn : N.length = n) (hm : ps.length = m)
    (body : ∀ (X : Cx), X.prog = P → X.w = w → X.K = K → X.mg = mg → X.base = base → Room k X.A → X.env.scope = defScope st → X.N = N → X.calm = true → (∀ y, X.fn y = true) → X.xe = (fun _ _ => False) → QSs X (defBody st) zb) :
    QF P w K mg base (k + 1) x m (zFn n m zb) := by
  refine ⟨f, fd, ps, F.ok S (fun vs H Q E h => ?_) (fun cdv A outer s H vs Q E hr h => ?_), hg, F.kp, hb⟩
  · obtain ⟨ps', h, Qp, rv, rh, ⟨hz1, hz⟩, kk⟩ := h
    rw [rv.length, hm]; exact hz1
  obtain ⟨ps', h, Qp, rv, rh, ⟨hz1, hz⟩, kk⟩ := h
  refine ⟨_, body _ rfl rfl rfl rfl rfl hr rfl rfl rfl (fun _ => rfl) rfl, _, h, _, rs_start rv N, rh, by rw [hz1, hn]; exact hz, ?_⟩
  refine ⟨fun ρ' h' ⟨h2, u, q⟩ σ' H' s rs rh' => ?_, fun p h' ⟨h2, u, q⟩ v H' s rv rh' => ?_, fun _ _ z => z.elim, fun _ _ z => z.elim⟩
  · exact kk _ _ q _ _ (stp_sub s u) .non (rh'.sub u)
  · exact kk _ _ q _ _ (stp_sub s u) rv (rh'.sub u)
variable {X : Cx} {e : Expr} {es : List Expr} {pos : Pos}
theorem qf_zero {x : Str} {st : Stmt} {f : Addr} {fd : FuncData} {ps : List Str} {m : Nat} (F : Fun K x x st f fd) (hb : Binds K fd ps []) (hg : mg x = some (.ref f)) : QF P w K mg base 0 x m (fun _ _ _ => False) := by
  refine ⟨f, fd, ps, ⟨fun vs H Q E h => ?_, fun A outer s H args us vs Q E hr e0 hb' r h => ?_⟩, hg, F.kp, hb⟩
  · obtain ⟨ps', h, Qp, rv, rh, z, kk⟩ := h; exact z.elim
  · obtain ⟨ps', h, Qp, rv, rh, z, kk⟩ := h; exact z.elim
theorem qe_own {x : Str} {k n : Nat} {r : ZC} {ta : ZA} {p : Pos} (F : QF X.prog X.w X.K X.mg X.base k x n r) (hr : Room k X.A) (hg : Gl X x) (ha : QA X (e :: es) ta)
    (hdb : (x == ("__debug__" : Str)) = false) (he : starEach (e :: es) X.env = (false, eval e X.env) :: starEach es X.env) (hpl : (backTo pos (starEach es X.env)).any (·.1) = false) : QE X (.Call (.Name x p) (e :: es) [] pos) (zCall r ta) := by
  obtain ⟨f, fd, ps, F, hm, kp, hb⟩ := F.ex
  exact peI (pe_call (E := E0) F hr hg hm kp hb .nil pass0 ha hdb he hpl) fun σ H Q ⟨ρ, h, Qp, rs, rh, t, k⟩ => ⟨ρ, h, _, rs, rh, t, fun ps' h1 t1 vs H1 s1 r1 rh1 => by
    show spOf X.prog X.w X.K r (vs ++ []) H1 Q E0
    rw [List.append_nil]
    exact ⟨ps', h1, Qp, r1, rh1, t1, k.later s1⟩⟩
theorem qe_own0 {x : Str} {k : Nat} {r : ZC} {p : Pos} (F : QF X.prog X.w X.K X.mg X.base k x 0 r) (hr : Room k X.A) (hg : Gl X x) (hdb : (x == ("__debug__" : Str)) = false) : QE X (.Call (.Name x p) [] [] pos) (zCall r zaNil) := by
  obtain ⟨f, fd, ps, F, hm, kp, hb⟩ := F.ex
  exact peI (pe_call0 (E := E0) F hr hg hm kp hb .nil pass0 hdb) fun σ H Q ⟨ρ, h, Qp, rs, rh, t, k⟩ => ⟨[], h, Qp, .nil, rh, t, k⟩
end
end G

namespace G
open PySem PySem.Spec PyProof.Rows L2

/-! ### the order of trees -/
mutual
def PV.lt? : PV → PV → Option Bool
  | .int a, .int b => some (decide (a < b))
  | .str x, .str y => some (decide (x < y))
  | .tup xs, .tup ys => PV.lts? xs ys
  | _, _ => none
def PV.lts? : List PV → List PV → Option Bool
  | [], ys => some (!ys.isEmpty)
  | _ :: _, [] => some false
  | x :: xs, y :: ys => if x = y then PV.lts? xs ys else PV.lt? x y
end
def tkc : List Nat → List Int
  | [] => [0]
  | c :: cs => ((c : Int) + 1) :: tkc cs
mutual
def PV.tk : PV → List Int
  | .int i => [0, i]
  | .str x => 1 :: tkc x
  | .tup xs => 2 :: PV.tks xs
  | .non => [3]
  | _ => [4]
def PV.tks : List PV → List Int
  | [] => [0]
  | x :: xs => 1 :: (PV.tk x ++ PV.tks xs)
end
/-- p ahead of q -/
def PV.o (p q : PV) : Bool := decide (p.tk < q.tk)
theorem app_lt (p a b : List Int) : (p ++ a < p ++ b) ↔ a < b := by
  induction p with
  | nil => exact Iff.rfl
  | cons x p ih => rw [List.cons_append, List.cons_append, List.cons_lt_cons_iff]; simp [ih]
theorem tkc_lt : ∀ {x y : List Nat}, x ≠ y → ∀ l m : List Int, (tkc x ++ l < tkc y ++ m) ↔ x < y
  | [], [], h, _, _ => absurd rfl h
  | [], c :: cs, _, l, m => by
    simp only [tkc, List.cons_append, List.nil_append, List.cons_lt_cons_iff]
    constructor
    · intro _; exact List.nil_lt_cons _ _
    · intro _; left; omega
  | c :: cs, [], _, l, m => by
    simp only [tkc, List.cons_append, List.nil_append, List.cons_lt_cons_iff]
    constructor
    · rintro (h | h) <;> omega
    · intro h; exact absurd h (by simp)
  | c :: cs, d :: ds, h, l, m => by
    simp only [tkc, List.cons_append, List.cons_lt_cons_iff]
    by_cases e : c = d
    · subst e
      have h' : cs ≠ ds := fun z => h (by rw [z])
      rw [tkc_lt h' l m]
      simp
    · constructor
      · rintro (h | h)
        · left; omega
        · omega
      · rintro (h | h)
        · left; omega
        · exact absurd h.1 e
mutual
theorem PV.lt_tk : ∀ (p q : PV) (k : Bool), PV.lt? p q = some k → p ≠ q → ∀ l m : List Int, decide (p.tk ++ l < q.tk ++ m) = k
  | .int a, q, k, h, ne, l, m => by
    cases q <;> simp only [PV.lt?, reduceCtorEq] at h
    rename_i b
    cases h
    have hab : a ≠ b := fun z => ne (by rw [z])
    simp only [PV.tk, List.cons_append, List.cons_lt_cons_iff, List.nil_append]
    rw [decide_eq_decide]
    constructor
    · rintro (h | ⟨_, h | h⟩) <;> omega
    · intro h; right; exact ⟨trivial, .inl h⟩
  | .str x, q, k, h, ne, l, m => by
    cases q <;> simp only [PV.lt?, reduceCtorEq] at h
    rename_i b
    cases h
    have hab : x ≠ b := fun z => ne (by rw [z])
    simp only [PV.tk, List.cons_append, List.cons_lt_cons_iff]
    rw [decide_eq_decide, tkc_lt hab]
    constructor
    · rintro (h | ⟨_, h⟩)
      · omega
      · exact h
    · intro h; right; exact ⟨trivial, h⟩
  | .tup xs, q, k, h, ne, l, m => by
    cases q <;> simp only [PV.lt?, reduceCtorEq] at h
    rename_i ys
    have hab : xs ≠ ys := fun z => ne (by rw [z])
    have := PV.lts_tk xs ys k h hab l m
    simp only [PV.tk, List.cons_append, List.cons_lt_cons_iff]
    rw [← this, decide_eq_decide]
    constructor
    · rintro (h | ⟨_, h⟩)
      · omega
      · exact h
    · intro h; right; exact ⟨trivial, h⟩
  | .non, q, _, h, _, _, _ => by cases q <;> simp [PV.lt?] at h
  | .bl _, q, _, h, _, _, _ => by cases q <;> simp [PV.lt?] at h
  | .ref _, q, _, h, _, _, _ => by cases q <;> simp [PV.lt?] at h
  | .scr _, q, _, h, _, _, _ => by cases q <;> simp [PV.lt?] at h
theorem PV.lts_tk : ∀ (p q : List PV) (k : Bool), PV.lts? p q = some k → p ≠ q → ∀ l m : List Int, decide (PV.tks p ++ l < PV.tks q ++ m) = k
  | [], [], _, _, ne, _, _ => absurd rfl ne
  | [], y :: ys, k, h, _, l, m => by
    simp only [PV.lts?, List.isEmpty_cons, Bool.not_false, Option.some.injEq] at h
    subst h
    simp [PV.tks, List.cons_lt_cons_iff]
  | x :: xs, [], k, h, _, l, m => by
    simp only [PV.lts?, Option.some.injEq] at h
    subst h
    simp [PV.tks, List.cons_lt_cons_iff]
  | x :: xs, y :: ys, k, h, ne, l, m => by
    simp only [PV.lts?] at h
    simp only [PV.tks, List.cons_append, List.append_assoc]
    by_cases e : x = y
    · subst e
      rw [if_pos rfl] at h
      have ne' : xs ≠ ys := fun z => ne (by rw [z])
      rw [← PV.lts_tk xs ys k h ne' l m, decide_eq_decide, List.cons_lt_cons_iff, app_lt]
      simp
    · rw [if_neg e] at h
      rw [← PV.lt_tk x y k h e (PV.tks xs ++ l) (PV.tks ys ++ m), decide_eq_decide, List.cons_lt_cons_iff]
      simp
end
mutual
theorem PV.lt_self : ∀ (p : PV) (k : Bool), PV.lt? p p = some k → k = false
  | .int a, k, h => by simp [PV.lt?] at h; exact h
  | .str x, k, h => by
    simp only [PV.lt?, Option.some.injEq] at h
    rw [← h]
    exact decide_eq_false (List.lt_irrefl x)
  | .tup xs, k, h => PV.lts_self xs k (by simpa [PV.lt?] using h)
  | .non, _, h => by simp [PV.lt?] at h
  | .bl _, _, h => by simp [PV.lt?] at h
  | .ref _, _, h => by simp [PV.lt?] at h
  | .scr _, _, h => by simp [PV.lt?] at h
theorem PV.lts_self : ∀ (p : List PV) (k : Bool), PV.lts? p p = some k → k = false
  | [], k, h => by simp [PV.lts?] at h; exact h
  | x :: xs, k, h => PV.lts_self xs k (by simpa [PV.lts?] using h)
end
theorem PV.o_of {p q : PV} {k : Bool} (h : PV.lt? p q = some k) : PV.o p q = k := by
  by_cases e : p = q
  · subst e
    rw [PV.lt_self _ _ h]
    unfold PV.o
    rw [decide_eq_false_iff_not]
    exact List.lt_irrefl _
  · have := PV.lt_tk p q k h e [] []
    rw [List.append_nil, List.append_nil] at this
    exact this
theorem PV.swo : SrtO.Swo PV.o := by
  refine ⟨fun x y h => ?_, fun x y z h1 h2 => ?_⟩
  · have := of_decide_eq_true h
    exact decide_eq_false (List.lt_asymm this)
  · have a := of_decide_eq_false h1
    have b := of_decide_eq_false h2
    refine decide_eq_false ?_
    rw [List.not_lt] at a b ⊢
    exact List.le_trans a b

/-! ### insertion sort -/
def insO (acc : List PV) (y : PV) : List PV := acc.takeWhile (fun x => !PV.o y x) ++ y :: acc.dropWhile (fun x => !PV.o y x)
def isort (xs : List PV) : List PV := xs.foldl insO []
theorem drop_all {y : PV} : ∀ {l : List PV}, SrtO.Srtd PV.o l → ∀ x ∈ l.dropWhile (fun x => !PV.o y x), PV.o y x = true
  | [], _, x, hx => by cases hx
  | z :: l, hs, x, hx => by
    rw [List.dropWhile_cons] at hx
    split at hx
    · exact drop_all (List.pairwise_cons.mp hs).2 x hx
    · rename_i h
      have hy : PV.o y z = true := by simpa using h
      exact PV.swo.lt_all hs hy x hx
theorem insO_ok {acc O1 : List PV} {y : PV} (hs : SrtO.Srtd PV.o acc) (hb : SrtO.Stb PV.o acc O1) : SrtO.Srtd PV.o (insO acc y) ∧ SrtO.Stb PV.o (insO acc y) (O1 ++ [y]) := by
  have e : acc.takeWhile (fun x => !PV.o y x) ++ acc.dropWhile (fun x => !PV.o y x) = acc := List.takeWhile_append_dropWhile
  have h1 : ∀ x ∈ acc.takeWhile (fun x => !PV.o y x), PV.o y x = false := fun x hx => by
    have := List.all_takeWhile (p := fun x => !PV.o y x) (l := acc)
    have := List.all_eq_true.mp this x hx
    simpa using this
  have h2 := drop_all (y := y) hs
  refine ⟨SrtO.ins_srtd PV.swo (by rw [e]; exact hs) h1 h2, SrtO.ins_stb PV.swo h2 (by rw [e]; exact hb)⟩
theorem isort_go : ∀ (xs acc O1 : List PV), SrtO.Srtd PV.o acc → SrtO.Stb PV.o acc O1 → SrtO.Srtd PV.o (xs.foldl insO acc) ∧ SrtO.Stb PV.o (xs.foldl insO acc) (O1 ++ xs)
  | [], acc, O1, h1, h2 => by rw [List.append_nil]; exact ⟨h1, h2⟩
  | x :: xs, acc, O1, h1, h2 => by
    obtain ⟨a, b⟩ := insO_ok (y := x) h1 h2
    have := isort_go xs _ _ a b
    rw [List.append_assoc] at this
    exact this
theorem isort_ok (xs : List PV) : SrtO.Srtd PV.o (isort xs) ∧ SrtO.Stb PV.o (isort xs) xs := isort_go xs [] [] List.Pairwise.nil (SrtO.Stb.refl _)
theorem isort_perm (xs : List PV) : (isort xs).Perm xs := (isort_ok xs).2.perm

/-! ### trees as they lie in the heap -/
mutual
def VP (h : Heap) : PV → Value → Prop
  | .non, u => u = .none
  | .int i, u => ∃ t, u = .int i t
  | .str x, u => ∃ t, u = .str (tS x) t
  | .tup ps, u => ∃ a o n vs, u = .ref a ∧ h.get? a = some o ∧ o.cls = .type "tuple" ∧ o.data = .seq vs n ∧ VPs h ps vs.toList
  | _, _ => False
def VPs (h : Heap) : List PV → List Value → Prop
  | [], us => us = []
  | p :: ps, us => ∃ u ur, us = u :: ur ∧ VP h p u ∧ VPs h ps ur
end
mutual
theorem VP.reads {h : Heap} : ∀ (p : PV) (u : Value), VP h p u → p.pl = true → ∃ as, Reads h u p.D as
  | .non, u, v, _ => by simp only [VP] at v; subst v; exact ⟨_, .none⟩
  | .int i, u, v, _ => by simp only [VP] at v; obtain ⟨t, rfl⟩ := v; exact ⟨_, .int _ _⟩
  | .str i, u, v, _ => by simp only [VP] at v; obtain ⟨t, rfl⟩ := v; exact ⟨_, .str _ _⟩
  | .tup ps, u, v, hp => by
    simp only [VP] at v
    obtain ⟨a, o, n, vs, rfl, e, c, d, r⟩ := v
    obtain ⟨as, q⟩ := VPs.reads ps _ r (by simpa [PV.pl] using hp)
    exact ⟨_, .tuple e c d q⟩
  | .bl _, _, v, _ => by simp [VP] at v
  | .ref _, _, v, _ => by simp [VP] at v
  | .scr _, _, v, _ => by simp [VP] at v
theorem VPs.reads {h : Heap} : ∀ (ps : List PV) (us : List Value), VPs h ps us → PV.pls ps = true → ∃ as, ReadsAll h us (PV.Ds ps) as
  | [], us, v, _ => by simp only [VPs] at v; subst v; exact ⟨_, .nil⟩
  | p :: ps, us, v, hp => by
    simp only [VPs] at v
    obtain ⟨u, ur, rfl, v1, v2⟩ := v
    simp only [PV.pls, Bool.and_eq_true] at hp
    obtain ⟨as, q⟩ := VP.reads p u v1 hp.1
    obtain ⟨bs, q2⟩ := VPs.reads ps ur v2 hp.2
    exact ⟨_, .cons q q2⟩
end
mutual
theorem VP.uniq {h : Heap} : ∀ (p q : PV) (u : Value), VP h p u → VP h q u → p = q
  | .non, q, u, v, w => by
    simp only [VP] at v; subst v
    cases q <;> simp [VP] at w ⊢
  | .int i, q, u, v, w => by
    simp only [VP] at v; obtain ⟨t, rfl⟩ := v
    cases q <;> simp [VP] at w ⊢
    exact w
  | .str i, q, u, v, w => by
    simp only [VP] at v; obtain ⟨t, rfl⟩ := v
    cases q <;> simp [VP] at w ⊢
    exact w
  | .tup ps, q, u, v, w => by
    simp only [VP] at v
    obtain ⟨a, o, n, vs, rfl, e, c, d, r⟩ := v
    cases q <;> simp only [VP, reduceCtorEq, exists_const] at w
    rename_i qs
    obtain ⟨a', o', n', vs', e1, e', c', d', r'⟩ := w
    cases e1
    rw [e] at e'; cases e'
    rw [d] at d'; cases d'
    rw [VPs.uniq ps qs _ r r']
  | .bl _, _, _, v, _ => by simp [VP] at v
  | .ref _, _, _, v, _ => by simp [VP] at v
  | .scr _, _, _, v, _ => by simp [VP] at v
theorem VPs.uniq {h : Heap} : ∀ (p q : List PV) (u : List Value), VPs h p u → VPs h q u → p = q
  | [], q, u, v, w => by
    simp only [VPs] at v; subst v
    cases q with
    | nil => rfl
    | cons _ _ => simp [VPs] at w
  | p :: ps, q, u, v, w => by
    simp only [VPs] at v
    obtain ⟨u, ur, rfl, v1, v2⟩ := v
    cases q with
    | nil => simp [VPs] at w
    | cons q qs =>
      simp only [VPs] at w
      obtain ⟨u', ur', e, w1, w2⟩ := w
      cases e
      rw [VP.uniq p q _ v1 w1, VPs.uniq ps qs _ v2 w2]
end
mutual
theorem VP.keep {h h' : Heap} (k : ∀ b o, h.get? b = some o → o.cls = .type "tuple" → h'.get? b = some o) : ∀ (p : PV) (u : Value), VP h p u → VP h' p u
  | .non, u, v => by simpa only [VP] using v
  | .int i, u, v => by simpa only [VP] using v
  | .str i, u, v => by simpa only [VP] using v
  | .tup ps, u, v => by
    simp only [VP] at v ⊢
    obtain ⟨a, o, n, vs, rfl, e, c, d, r⟩ := v
    exact ⟨a, o, n, vs, rfl, k _ _ e c, c, d, VPs.keep k ps _ r⟩
  | .bl _, _, v => by simp [VP] at v
  | .ref _, _, v => by simp [VP] at v
  | .scr _, _, v => by simp [VP] at v
theorem VPs.keep {h h' : Heap} (k : ∀ b o, h.get? b = some o → o.cls = .type "tuple" → h'.get? b = some o) : ∀ (p : List PV) (u : List Value), VPs h p u → VPs h' p u
  | [], u, v => by simpa only [VPs] using v
  | p :: ps, u, v => by
    simp only [VPs] at v ⊢
    obtain ⟨u, ur, rfl, v1, v2⟩ := v
    exact ⟨u, ur, rfl, VP.keep k p u v1, VPs.keep k ps ur v2⟩
end
theorem VPs.len {h : Heap} : ∀ {p : List PV} {u : List Value}, VPs h p u → u.length = p.length
  | [], u, v => by simp only [VPs] at v; subst v; rfl
  | p :: ps, u, v => by
    simp only [VPs] at v
    obtain ⟨u, ur, rfl, v1, v2⟩ := v
    simp [VPs.len v2]
section
variable {X : Cx} {pins : List (Addr × Obj)} {σ : L2.St} {H : Hp} {s : Shared}
mutual
theorem RV.vp (I : L2.Inv X pins σ H s) : ∀ (p : PV) (v : V) (u : Value), RV X.K H v p → p.pl = true → RelV v u → VP s.heap p u
  | .non, _, _, h, _, r => by cases h; simp only [VP]; exact r
  | .int i, _, _, h, _, r => by cases h; simp only [VP]; exact r
  | .str x, _, _, h, _, r => by cases h; simp only [VP]; exact r
  | .tup xs, _, _, h, hp, r => by
    cases h with
    | tup hs hl hr =>
      cases r
      obtain ⟨its, rv, ⟨o, ho, hc, n, hd⟩, _⟩ := I.tuple hs
      simp only [VP]
      exact ⟨_, o, n, _, rfl, ho, hc, hd, by simpa using RVs.vp I xs _ _ hr (by simpa [PV.pl] using hp) rv⟩
  | .bl _, _, _, _, h, _ => by simp [PV.pl] at h
  | .ref _, _, _, _, h, _ => by simp [PV.pl] at h
  | .scr _, _, _, _, h, _ => by simp [PV.pl] at h
theorem RVs.vp (I : L2.Inv X pins σ H s) : ∀ (ps : List PV) (vs : List V) (us : List Value), RVs X.K H vs ps → PV.pls ps = true → Vals vs us → VPs s.heap ps us
  | [], _, _, h, _, r => by cases h; cases r; simp only [VPs]
  | p :: ps, _, _, h, hp, r => by
    simp only [PV.pls, Bool.and_eq_true] at hp
    cases h with
    | cons h1 h2 =>
      cases r with
      | cons r1 r2 => simp only [VPs]; exact ⟨_, _, rfl, RV.vp I p _ _ h1 hp.1 r1, RVs.vp I ps _ _ h2 hp.2 r2⟩
end
end
end G

namespace G
open PySem PySem.Spec PyProof.Rows L2
open PySem.SeqAt
open AutoSeq1 (wpAny_loadPart')
open MeetsSeq MeetsSeq2 MeetsSeq3 SeqRoads2

/-! ### tuples compared: what lies behind the first place that differs is not looked at -/
def TLt (A : Around) (s : Shared) : List Value → List Value → Bool → Prop
  | [], ys, k => k = !ys.isEmpty
  | _ :: _, [], k => k = false
  | x :: xs, y :: ys, k => ∃ e, EqAt A s x y e ∧ (e = true → TLt A s xs ys k) ∧ (e = false → RcLt A s x y k)
theorem TLt.fin {A : Around} {s : Shared} : ∀ {xs ys : List Value} {k : Bool}, TLt A s xs ys k → xs = [] ∨ ys = [] → k = decide (xs.length < ys.length)
  | [], ys, k, h, _ => by
    have h' : k = !ys.isEmpty := h
    rw [h']; cases ys <;> simp
  | _ :: _, [], k, h, _ => by have h' : k = false := h; rw [h']; simp
  | _ :: _, _ :: _, _, _, h => by rcases h with h | h <;> cases h
section
theorem tup_ltF (l b : Addr) (items items2 : Array Value) (n n2 : Nat) (dd dd2 : Option Addr) (sl sl2 : Array (Option Value)) (k : Bool) :
    Meets (Builtin.«tuple.__lt__» ⟨[.ref l, .ref b], []⟩) fun A R s => s.heap.get? l = some { cls := .type "tuple", dict := dd, data := .seq items n, slots := sl } ∧
      s.heap.get? b = some { cls := .type "tuple", dict := dd2, data := .seq items2 n2, slots := sl2 } ∧ TLt A.in1 s items.toList items2.toList k ∧ R (.ok (.ret (.bool k))) s :=
  .of_wp fun prog w A R s hh => by
    obtain ⟨hp, g, d, tk, os⟩ := s; obtain ⟨hl, hb, ht, hR⟩ := hh
    have f2 := AutoSeq1.sub_tuple_tuple
    have hZ : (items.toList.zip items2.toList).length = min items.size items2.size := by simp
    wp_walk using wpAny_loadPart' hl, wpAny_loadPart' hb, wpAny_forIn_list _ (fun rest b s' => b.1 = none ∧ s' = ⟨hp, g, d, tk, os⟩ ∧ ∃ i, rest = (items.toList.zip items2.toList).drop i ∧ i ≤ min items.size items2.size ∧ TLt A.in1 ⟨hp, g, d, tk, os⟩ (items.toList.drop i) (items2.toList.drop i) k) _
    case turn =>
      rintro ⟨y, x⟩ rest b s' ⟨hb', rfl, i, hz, him, ht⟩
      have hlt : i < (items.toList.zip items2.toList).length := by
        by_cases h' : i < (items.toList.zip items2.toList).length
        · exact h'
        · rw [List.drop_of_length_le (Nat.le_of_not_lt h')] at hz; cases hz
      have hm : i < min items.size items2.size := by rw [← hZ]; exact hlt
      have h1 : i < items.toList.length := by simp; omega
      have h2 : i < items2.toList.length := by simp; omega
      rw [List.drop_eq_getElem_cons hlt, List.getElem_zip] at hz
      injection hz with hyx hrest
      injection hyx with ey ex
      rw [List.drop_eq_getElem_cons h1, List.drop_eq_getElem_cons h2] at ht
      obtain ⟨e, t1, t2, t3⟩ := ht
      rw [← ey, ← ex] at t1 t3
      refine wpAny_bind (t1 prog w _ _ ?_)
      cases e with
      | true =>
        have t2 := t2 rfl
        wp_walk
        exact ⟨rfl, rfl, i + 1, hrest, hm, t2⟩
      | false =>
        have t4 := t3 rfl prog w
        clear t3
        revert t4
        generalize richCompare CmpOp.Lt y x = rc
        intro t4
        wp_walk
        refine t4 _ _ ?_
        wp_walk
        exact ⟨_, rfl, hR⟩
    case fin =>
      rintro ⟨b1, b2⟩ s' ⟨hb', rfl, i, hz, him, ht⟩
      simp only at hb'
      subst hb'
      have hge : min items.size items2.size ≤ i := by
        by_cases h' : i < (items.toList.zip items2.toList).length
        · rw [List.drop_eq_getElem_cons h'] at hz; cases hz
        · rw [← hZ]; exact Nat.le_of_not_lt h'
      have hk := ht.fin (by
        by_cases hs : items.size ≤ items2.size
        · left; apply List.drop_of_length_le; simp; omega
        · right; apply List.drop_of_length_le; simp; omega)
      have hk2 : k = decide (items.size < items2.size) := by
        rw [hk, decide_eq_decide, List.length_drop, List.length_drop, Array.length_toList, Array.length_toList]
        omega
      wp_walk
      exact ⟨_, rfl, by simpa [Builtin.Tuple.tupleCompareSizes, ← hk2] using hR⟩
    case h =>
      exact ⟨rfl, rfl, 0, rfl, Nat.zero_le _, by simpa using ht⟩
end
theorem RcLt.tupF {A : Around} {s : Shared} {l b : Addr} {items items2 : Array Value} {k : Bool} (hl : s.heap.IsTuple l items) (hb : s.heap.IsTuple b items2) (hu : A.units < cLine) (ht : TLt A.in1 s items.toList items2.toList k) : RcLt A s (.ref l) (.ref b) k := fun prog w E Q h => by
  obtain ⟨⟨cls, dd, data, sl⟩, ho, hc, n, hd⟩ := id hl
  obtain ⟨⟨cls2, dd2, data2, sl2⟩, ho2, hc2, n2, hd2⟩ := id hb
  simp only at hc hd hc2 hd2
  subst hc hd hc2 hd2
  exact richCompare_meets_room (op := .Lt) ⟨_, ho, rfl⟩ ⟨_, ho2, rfl⟩ F.slot_tuple_lt F.entry_tuple_lt (F.args_tuple_lt_2 _ _) (tup_ltF l b items items2 n n2 dd dd2 sl sl2 k)
    ⟨ho, ho2, ht, show Value.bool k ≠ Value.notImplemented ∧ Q (.bool k) s from ⟨(fun x => nomatch x), h⟩⟩ hu

/-! ### by trees -/
theorem vp_eq {A : Around} {s : Shared} {p q : PV} {u v : Value} (hu : VP s.heap p u) (hv : VP s.heap q v) (pp : p.pl = true) (pq : q.pl = true) (hd : A.units + min p.dp q.dp < cLine) : EqAt A s u v (decide (p = q)) := by
  obtain ⟨as, r1⟩ := hu.reads _ _ pp
  obtain ⟨bs, r2⟩ := hv.reads _ _ pq
  rw [← PV.beq_dec, ← PV.D_eqv p q pp pq]
  exact eqAt_reads p.D q.D A s u v as bs r1 r2 (PV.D_lay _ pp) (PV.D_lay _ pq) (by rw [PV.D_depth, PV.D_depth]; exact hd)
mutual
theorem vp_lt : ∀ (p q : PV) (A : Around) (s : Shared) (u v : Value) (k : Bool), VP s.heap p u → VP s.heap q v → p.pl = true → q.pl = true → A.units + min p.dp q.dp < cLine → PV.lt? p q = some k → RcLt A s u v k
  | .int a, q, A, s, u, v, k, hu, hv, pp, pq, hd, hk => by
    cases q <;> simp only [PV.lt?, reduceCtorEq] at hk
    cases hk
    obtain ⟨as, r1⟩ := hu.reads _ _ pp
    obtain ⟨bs, r2⟩ := hv.reads _ _ pq
    have := PySem.W.rcLt_alike _ _ A s u v as bs r1 r2 (by simp [PV.D, PySem.W.alike]) (by simp [PV.D]) (by rw [PV.D_depth, PV.D_depth]; exact hd)
    rw [PV.D, PV.D, PySem.W.dataLt_int] at this
    exact this
  | .str x, q, A, s, u, v, k, hu, hv, pp, pq, hd, hk => by
    cases q <;> simp only [PV.lt?, reduceCtorEq] at hk
    cases hk
    obtain ⟨as, r1⟩ := hu.reads _ _ pp
    obtain ⟨bs, r2⟩ := hv.reads _ _ pq
    have := PySem.W.rcLt_alike _ _ A s u v as bs r1 r2 (by simp [PV.D, PySem.W.alike]) (by simp [PV.D]) (by rw [PV.D_depth, PV.D_depth]; exact hd)
    rw [PV.D, PV.D, PySem.W.dataLt_str] at this
    exact this
  | .tup ps, q, A, s, u, v, k, hu, hv, pp, pq, hd, hk => by
    cases q <;> simp only [PV.lt?, reduceCtorEq] at hk
    rename_i qs
    simp only [VP] at hu hv
    obtain ⟨a, o, n, vs, rfl, e, c, d, r⟩ := hu
    obtain ⟨a', o', n', vs', rfl, e', c', d', r'⟩ := hv
    simp only [PV.dp] at hd
    have h0 : A.units < cLine := by omega
    exact RcLt.tupF ⟨o, e, c, n, d⟩ ⟨o', e', c', n', d'⟩ h0 (vps_lt ps qs A.in1 s _ _ k r r' (by simpa [PV.pl] using pp) (by simpa [PV.pl] using pq) (by show A.units + 1 + _ < _; omega) hk)
  | .non, q, _, _, _, _, _, _, _, _, _, _, h => by cases q <;> simp [PV.lt?] at h
  | .bl _, q, _, _, _, _, _, _, _, _, _, _, h => by cases q <;> simp [PV.lt?] at h
  | .ref _, q, _, _, _, _, _, _, _, _, _, _, h => by cases q <;> simp [PV.lt?] at h
  | .scr _, q, _, _, _, _, _, _, _, _, _, _, h => by cases q <;> simp [PV.lt?] at h
theorem vps_lt : ∀ (ps qs : List PV) (A : Around) (s : Shared) (us vs : List Value) (k : Bool), VPs s.heap ps us → VPs s.heap qs vs → PV.pls ps = true → PV.pls qs = true → A.units + min (PV.dps ps) (PV.dps qs) < cLine → PV.lts? ps qs = some k → TLt A s us vs k
  | [], qs, A, s, us, vs, k, hu, hv, _, _, _, hk => by
    have hl := hv.len
    simp only [VPs] at hu
    subst hu
    simp only [PV.lts?, Option.some.injEq] at hk
    rw [← hk]
    show (!qs.isEmpty) = !vs.isEmpty
    cases qs <;> cases vs <;> simp at hl ⊢
  | p :: ps, [], A, s, us, vs, k, hu, hv, _, _, _, hk => by
    simp only [VPs] at hu hv
    obtain ⟨u, ur, rfl, v1, v2⟩ := hu
    subst hv
    simp only [PV.lts?, Option.some.injEq] at hk
    exact hk.symm
  | p :: ps, q :: qs, A, s, us, vs, k, hu, hv, pp, pq, hd, hk => by
    simp only [VPs] at hu hv
    obtain ⟨u, ur, rfl, v1, v2⟩ := hu
    obtain ⟨u', ur', rfl, w1, w2⟩ := hv
    simp only [PV.pls, Bool.and_eq_true] at pp pq
    simp only [PV.dps] at hd
    refine ⟨decide (p = q), vp_eq v1 w1 pp.1 pq.1 (by omega), fun e => ?_, fun e => ?_⟩
    · simp only [PV.lts?, if_pos (of_decide_eq_true e)] at hk
      exact vps_lt ps qs A s ur ur' k v2 w2 pp.2 pq.2 (by omega) hk
    · simp only [PV.lts?, if_neg (of_decide_eq_false e)] at hk
      exact vp_lt p q A s u u' k v1 w1 pp.1 pq.1 (by omega) hk
end
def PV.isTup : PV → Bool
  | .tup _ => true | _ => false
section
variable {prog : Program} {w : World} {A : Around} {E : Value → Shared → Prop} {s : Shared} {Q : Bool → Shared → Prop}
theorem vp_one {f : Bool} {p q : PV} {u v : Value} {k : Bool} (hu : VP s.heap p u) (hv : VP s.heap q v) (pp : p.pl = true) (pq : q.pl = true) (hd : A.units + min p.dp q.dp < cLine) (hk : PV.lt? p q = some k) (hf : f = true → p.isTup = false) (h : Q k s) :
    wpAny (model prog w) A (oneLt' f u v) Q E s := by
  cases f with
  | false => exact kat_one' (vp_lt p q A s u v k hu hv pp pq hd hk) h
  | true =>
    obtain ⟨as, r1⟩ := hu.reads _ _ pp
    obtain ⟨bs, r2⟩ := hv.reads _ _ pq
    cases p with
    | int a =>
      cases q <;> simp only [PV.lt?, reduceCtorEq] at hk
      cases hk
      refine PySem.W.oneLt_alike (fun _ xs => by simp [PV.D]) r1 r2 (by simp [PV.D, PySem.W.alike]) (by simp [PV.D]) (by rw [PV.D_depth, PV.D_depth]; exact hd) ?_
      rw [PV.D, PV.D, PySem.W.dataLt_int]; exact h
    | str a =>
      cases q <;> simp only [PV.lt?, reduceCtorEq] at hk
      cases hk
      refine PySem.W.oneLt_alike (fun _ xs => by simp [PV.D]) r1 r2 (by simp [PV.D, PySem.W.alike]) (by simp [PV.D]) (by rw [PV.D_depth, PV.D_depth]; exact hd) ?_
      rw [PV.D, PV.D, PySem.W.dataLt_str]; exact h
    | tup xs => exact absurd (hf rfl) (by simp [PV.isTup])
    | _ => cases q <;> simp [PV.lt?] at hk
where
  kat_one' {u v : Value} {k : Bool} (r : RcLt A s u v k) (h : Q k s) : wpAny (model prog w) A (oneLt' false u v) Q E s := by
    rw [oneLt'_eq]
    simp only [Bool.false_eq_true, if_false]
    exact wpAny_bind (r prog w E _ (wpAny_truthy_bool h))
/-- the first of a tuple -/
def hdTup : List PV → Bool
  | p :: _ => p.isTup
  | [] => false
theorem vps_kat {b fin : Bool} {k : Bool} : ∀ (ps qs : List PV) (i : Nat) (us vs : List Value), VPs s.heap ps us → VPs s.heap qs vs → PV.pls ps = true → PV.pls qs = true → A.units + min (PV.dps ps) (PV.dps qs) < cLine → PV.lts? ps qs = some k →
    (b = true → i = 0 → hdTup ps = false) → fin = decide (us.length < vs.length) → Q k s → PySem.W.KatLex prog w A b fin Q (us.zip vs) i s
  | [], qs, i, us, vs, hu, hv, _, _, _, hk, _, hf, h => by
    have hl := hv.len
    simp only [VPs] at hu
    subst hu
    simp only [PV.lts?, Option.some.injEq] at hk
    have e : fin = k := by
      rw [hf, ← hk]
      cases qs <;> cases vs <;> simp at hl ⊢
    subst e
    exact PySem.W.kat_nil h
  | p :: ps, [], i, us, vs, hu, hv, _, _, _, hk, _, hf, h => by
    simp only [VPs] at hu hv
    obtain ⟨u, ur, rfl, v1, v2⟩ := hu
    subst hv
    simp only [PV.lts?, Option.some.injEq] at hk
    have e : fin = k := by rw [hf, ← hk]; simp
    subst e
    exact PySem.W.kat_nil h
  | p :: ps, q :: qs, i, us, vs, hu, hv, pp, pq, hd, hk, hb, hf, h => by
    simp only [VPs] at hu hv
    obtain ⟨u, ur, rfl, v1, v2⟩ := hu
    obtain ⟨u', ur', rfl, w1, w2⟩ := hv
    simp only [PV.pls, Bool.and_eq_true] at pp pq
    simp only [PV.dps] at hd
    rw [List.zip_cons_cons]
    refine PySem.W.kat_cons (vp_eq v1 w1 pp.1 pq.1 (by omega) prog w _ _ ?_)
    by_cases e : p = q
    · rw [decide_eq_true e]
      simp only [PV.lts?, if_pos e] at hk
      exact PySem.W.kat_yes (vps_kat ps qs (i + 1) ur ur' v2 w2 pp.2 pq.2 (by omega) hk (fun _ z => absurd z (Nat.succ_ne_zero i)) (by rw [hf]; simp) h)
    · rw [decide_eq_false e]
      simp only [PV.lts?, if_neg e] at hk
      refine PySem.W.kat_no (vp_one v1 w1 pp.1 pq.1 (by omega) hk (fun z => ?_) h)
      rw [Bool.and_eq_true] at z
      exact hb z.1 (by simpa using z.2)
end
end G

namespace G
open PySem PySem.Spec PyProof.Rows L2

def PV.isInt : PV → Bool
  | .int _ => true | _ => false
def PV.isStr : PV → Bool
  | .str _ => true | _ => false
def hd? : PV → Option PV
  | .tup (p :: _) => some p
  | _ => none
def hdAll (f : PV → Bool) (ps : List PV) : Bool := ps.all fun p => match hd? p with | some x => f x | none => false
/-- what sorted sorts -/
def sortOk (ps : List PV) : Bool := PV.pls ps && decide (PV.dps ps ≤ 60) && (ps.all fun p => ps.all fun q => (PV.lt? p q).isSome) &&
  (ps.all PV.isInt || ps.all PV.isStr || hdAll PV.isInt ps || hdAll PV.isStr ps || hdAll PV.isTup ps)
open Classical in
/-- the tree of a value in the heap -/
noncomputable def dec (h : Heap) (u : Value) : PV := if q : ∃ p, VP h p u then q.choose else .non
theorem dec_of {h : Heap} {p : PV} {u : Value} (v : VP h p u) : dec h u = p := by
  have q : ∃ p, VP h p u := ⟨p, v⟩
  unfold dec
  rw [dif_pos q]
  exact VP.uniq _ _ _ q.choose_spec v
noncomputable def ltD (h : Heap) (u v : Value) : Bool := PV.o (dec h u) (dec h v)
theorem ltD_swo (h : Heap) : SrtO.Swo (ltD h) := ⟨fun x y => PV.swo.asym _ _, fun x y z => PV.swo.tr _ _ _⟩
theorem vps_map {h : Heap} : ∀ {ps : List PV} {us : List Value}, VPs h ps us → us.map (dec h) = ps
  | [], us, v => by simp only [VPs] at v; subst v; rfl
  | p :: ps, us, v => by
    simp only [VPs] at v
    obtain ⟨u, ur, rfl, v1, v2⟩ := v
    rw [List.map_cons, dec_of v1, vps_map v2]
theorem vps_mem {h : Heap} : ∀ {ps : List PV} {us : List Value}, VPs h ps us → ∀ u ∈ us, ∃ p ∈ ps, VP h p u
  | [], us, v => by simp only [VPs] at v; subst v; intro u hu; cases hu
  | p :: ps, us, v => by
    simp only [VPs] at v
    obtain ⟨u, ur, rfl, v1, v2⟩ := v
    intro x hx
    rcases List.mem_cons.mp hx with rfl | hx
    · exact ⟨p, List.mem_cons_self, v1⟩
    · obtain ⟨q, a, b⟩ := vps_mem v2 x hx
      exact ⟨q, List.mem_cons_of_mem _ a, b⟩
theorem vps_ints {h : Heap} : ∀ {ps : List PV} {us : List Value}, VPs h ps us → ps.all PV.isInt = true → ∃ ns, IntsAre us ns
  | [], us, v, _ => by simp only [VPs] at v; subst v; exact ⟨_, .nil⟩
  | p :: ps, us, v, a => by
    simp only [VPs] at v
    obtain ⟨u, ur, rfl, v1, v2⟩ := v
    simp only [List.all_cons, Bool.and_eq_true] at a
    obtain ⟨ns, q⟩ := vps_ints v2 a.2
    cases p <;> simp [PV.isInt] at a
    simp only [VP] at v1
    obtain ⟨t, rfl⟩ := v1
    exact ⟨_, .cons _ _ q⟩
theorem vps_strs {h : Heap} : ∀ {ps : List PV} {us : List Value}, VPs h ps us → ps.all PV.isStr = true → ∃ ns, StrsAre us ns
  | [], us, v, _ => by simp only [VPs] at v; subst v; exact ⟨_, .nil⟩
  | p :: ps, us, v, a => by
    simp only [VPs] at v
    obtain ⟨u, ur, rfl, v1, v2⟩ := v
    simp only [List.all_cons, Bool.and_eq_true] at a
    obtain ⟨ns, q⟩ := vps_strs v2 a.2
    cases p <;> simp [PV.isStr] at a
    simp only [VP] at v1
    obtain ⟨t, rfl⟩ := v1
    exact ⟨_, .cons _ _ q⟩
theorem vps_mem2 {h h' : Heap} : ∀ {ps : List PV} {us : List Value}, VPs h ps us → VPs h' ps us → ∀ u ∈ us, ∃ p ∈ ps, VP h p u ∧ VP h' p u
  | [], us, v, _ => by simp only [VPs] at v; subst v; intro u hu; cases hu
  | p :: ps, us, v, w => by
    simp only [VPs] at v w
    obtain ⟨u, ur, rfl, v1, v2⟩ := v
    obtain ⟨u', ur', e, w1, w2⟩ := w
    cases e
    intro x hx
    rcases List.mem_cons.mp hx with rfl | hx
    · exact ⟨p, List.mem_cons_self, v1, w1⟩
    · obtain ⟨q, a, b⟩ := vps_mem2 v2 w2 x hx
      exact ⟨q, List.mem_cons_of_mem _ a, b⟩
theorem dps_mem {ps : List PV} {n : Nat} (h : PV.dps ps ≤ n) {p : PV} (m : p ∈ ps) : p.dp ≤ n := by
  induction ps with
  | nil => cases m
  | cons x xs ih =>
    simp only [PV.dps] at h
    rcases List.mem_cons.mp m with rfl | m
    · omega
    · exact ih (by omega) m
def TyOf (h : Heap) (f : PV → Bool) (T : String) : Prop := ∀ (M : Model) (p : PV) (u : Value), f p = true → VP h p u → PySem.W.Looks M h (typeOf u) (.type T)
theorem vps_tups {h : Heap} {f : PV → Bool} {T : String} (hT : TyOf h f T) : ∀ {ps : List PV} {us : List Value}, VPs h ps us → hdAll f ps = true → ∃ fs, PySem.W.KatTups h us fs ∧ fs.length = us.length ∧ ∀ (M : Model), ∀ u ∈ fs, PySem.W.Looks M h (typeOf u) (.type T)
  | [], us, v, _ => by simp only [VPs] at v; subst v; exact ⟨[], .nil, rfl, fun _ u hu => nomatch hu⟩
  | p :: ps, us, v, a => by
    simp only [VPs] at v
    obtain ⟨u, ur, rfl, v1, v2⟩ := v
    simp only [hdAll, List.all_cons, Bool.and_eq_true] at a
    obtain ⟨fs, q1, q2, q3⟩ := vps_tups hT v2 a.2
    cases p <;> simp only [hd?, Bool.false_eq_true, false_and] at a
    rename_i xs
    cases xs <;> simp only [hd?, Bool.false_eq_true, false_and] at a
    rename_i x xs
    simp only [VP, VPs] at v1
    obtain ⟨a', o, n, vs, rfl, e, c, d, u1, ur1, e1, w1, w2⟩ := v1
    have hx : vs[0]? = some u1 := by rw [← Array.getElem?_toList, e1]; rfl
    refine ⟨u1 :: fs, .cons e c d hx q1, by simp [q2], fun M u hu => ?_⟩
    rcases List.mem_cons.mp hu with rfl | hu
    · exact hT M x _ a.1 w1
    · exact q3 M u hu
section
variable {prog : Program} {w : World} {A : Around} {s : Shared}
theorem hdTup_of {f : PV → Bool} (hf : ∀ p, f p = true → p.isTup = false) {ps : List PV} (h : hdAll f ps = true) {p : PV} (hp : p ∈ ps) : ∃ xs, p = .tup xs ∧ hdTup xs = false := by
  have := List.all_eq_true.mp h p hp
  cases p <;> simp only [hd?, Bool.false_eq_true] at this
  rename_i xs
  cases xs <;> simp only [hd?, Bool.false_eq_true] at this
  exact ⟨_, rfl, hf _ this⟩
theorem cmp_one {h0 : Heap} {ps : List PV} {us : List Value} (v0 : VPs h0 ps us) (v : VPs s.heap ps us) (hp : PV.pls ps = true) (hd : PV.dps ps ≤ 60) (hu : A.units + 60 < cLine) (hc : ∀ p ∈ ps, ∀ q ∈ ps, (PV.lt? p q).isSome = true) (hn : ∀ p ∈ ps, p.isTup = false) :
    SrtO.Cmp prog w A s oneType' (fun p => p.1 ∈ us) (SrtO.lt2 (ltD h0)) := by
  intro x y hx hy
  obtain ⟨p, a1, a2⟩ := vps_mem v _ hx
  obtain ⟨q, b1, b2⟩ := vps_mem v _ hy
  obtain ⟨k, hk⟩ := Option.isSome_iff_exists.mp (hc p a1 q b1)
  have e1 : dec h0 x.1 = p := by
    obtain ⟨p', a1', a2'⟩ := vps_mem2 v0 v _ hx
    rw [dec_of a2'.1, VP.uniq _ _ _ a2 a2'.2]
  have e2 : dec h0 y.1 = q := by
    obtain ⟨p', a1', a2'⟩ := vps_mem2 v0 v _ hy
    rw [dec_of a2'.1, VP.uniq _ _ _ b2 a2'.2]
  show wpAny (model prog w) A (keyLt' oneType' x.1 y.1) _ _ s
  rw [keyLt'_oneType]
  have d1 := dps_mem hd a1
  refine vp_one a2 b2 (pls_mem hp a1) (pls_mem hp b1) (by omega) hk (fun _ => hn p a1) ⟨rfl, ?_⟩
  show k = PV.o (dec h0 x.1) (dec h0 y.1)
  rw [e1, e2, PV.o_of hk]
theorem cmp_tup {h0 : Heap} {ps : List PV} {us : List Value} {b : Bool} (v0 : VPs h0 ps us) (v : VPs s.heap ps us) (hp : PV.pls ps = true) (hd : PV.dps ps ≤ 60) (hu : A.units + 60 < cLine) (hc : ∀ p ∈ ps, ∀ q ∈ ps, (PV.lt? p q).isSome = true)
    (hn : ∀ p ∈ ps, ∃ xs, p = .tup xs ∧ (b = true → hdTup xs = false)) : SrtO.Cmp prog w A s (tuples' b) (fun p => p.1 ∈ us) (SrtO.lt2 (ltD h0)) := by
  intro x y hx hy
  obtain ⟨p, a1, a2, a3⟩ := vps_mem2 v0 v _ hx
  obtain ⟨q, b1, b2, b3⟩ := vps_mem2 v0 v _ hy
  obtain ⟨k, hk⟩ := Option.isSome_iff_exists.mp (hc p a1 q b1)
  show wpAny (model prog w) A (keyLt' (tuples' b) x.1 y.1) _ _ s
  have d1 := dps_mem hd a1
  have p1 := pls_mem hp a1
  have p2 := pls_mem hp b1
  have ek : k = SrtO.lt2 (ltD h0) x y := by
    show k = PV.o (dec h0 x.1) (dec h0 y.1)
    rw [dec_of a2, dec_of b2, PV.o_of hk]
  obtain ⟨xs, rfl, hxs⟩ := hn p a1
  obtain ⟨ys, rfl, hys⟩ := hn q b1
  simp only [VP] at a3 b3
  obtain ⟨l, o, n, us1, e1, f1, f2, f3, f4⟩ := a3
  obtain ⟨l', o', n', us1', e1', f1', f2', f3', f4'⟩ := b3
  rw [e1, e1']
  refine PySem.W.kat_lt f1 f3 f1' f3' (vps_kat xs ys 0 _ _ f4 f4' (by simpa [PV.pl] using p1) (by simpa [PV.pl] using p2) ?_ (by simpa [PV.lt?] using hk) (fun z _ => hxs z) (by simp) ⟨rfl, ek⟩)
  simp only [PV.dp] at d1
  omega
theorem sortable_pv {h0 : Heap} {a : Addr} {ps : List PV} {us : List Value} (v0 : VPs h0 ps us) (v : VPs s.heap ps us) (ok : sortOk ps = true) (h2 : 2 ≤ us.length) (hu : A.units + 60 < cLine) (ha : ∀ o, s.heap.get? a = some o → o.cls ≠ .type "tuple") :
    SrtO.SortableO prog w A s a us (ltD h0) := by
  intro h' keep
  have v' : VPs h' ps us := v.keep (fun b o e c => keep b o (fun z => ha o (z ▸ e) c) e) ps us
  unfold sortOk at ok
  simp only [Bool.and_eq_true, decide_eq_true_eq, List.all_eq_true] at ok
  obtain ⟨⟨⟨hp, hd⟩, hc⟩, kind⟩ := ok
  have two : ∃ u1 u2 ur, us = u1 :: u2 :: ur := by
    match us, h2 with
    | u1 :: u2 :: ur, _ => exact ⟨_, _, _, rfl⟩
  have tInt : TyOf h' PV.isInt "int" := fun M p u e r => by
    cases p <;> simp [PV.isInt] at e
    simp only [VP] at r
    obtain ⟨t, rfl⟩ := r
    exact PySem.W.Looks.now
  have tStr : TyOf h' PV.isStr "str" := fun M p u e r => by
    cases p <;> simp [PV.isStr] at e
    simp only [VP] at r
    obtain ⟨t, rfl⟩ := r
    exact PySem.W.Looks.now
  have tTup : TyOf h' PV.isTup "tuple" := fun M p u e r => by
    cases p <;> simp [PV.isTup] at e
    simp only [VP] at r
    obtain ⟨l, o, n, us1, e1, f1, f2, f3, f4⟩ := r
    rw [e1, ← f2]
    exact (PySem.W.Looks.ld f1).andThen .now
  have byT : ∀ {f : PV → Bool} {T : String}, (Value.type T == Value.type T) = true → TyOf h' f T → hdAll f ps = true → (∀ p, f p = true → (Value.type T != Value.type "tuple") = true → p.isTup = false) → ∃ κ,
      (∀ (Q : SortKind → Shared → Prop) (E : Value → Shared → Prop), Q κ { s with heap := h' } → wpAny (model prog w) A (keyKind' us.toArray) Q E { s with heap := h' }) ∧ SrtO.Cmp prog w A { s with heap := h' } κ (fun p => p.1 ∈ us) (SrtO.lt2 (ltD h0)) := fun {f T} hTT hT ha hf => by
    obtain ⟨fs, q1, q2, q3⟩ := vps_tups hT v' ha
    refine ⟨_, fun Q E hq => PySem.W.kat_kind (s := { s with heap := h' }) (T := .type T) q1 (by omega) (fun u m => q3 _ u m) hTT hq, cmp_tup (s := { s with heap := h' }) v0 v' hp hd hu hc fun p m => ?_⟩
    have := List.all_eq_true.mp ha p m
    cases p <;> simp only [hd?, Bool.false_eq_true] at this
    rename_i xs
    cases xs <;> simp only [hd?, Bool.false_eq_true] at this
    exact ⟨_, rfl, fun z => hf _ this z⟩
  simp only [Bool.or_eq_true, List.all_eq_true] at kind
  rcases kind with (((kind | kind) | kind) | kind) | kind
  · obtain ⟨ns, hI⟩ := vps_ints v' (List.all_eq_true.mpr kind)
    obtain ⟨u1, u2, ur, rfl⟩ := two
    refine ⟨oneType', fun Q E hq => wpAny_of_eq (keyKind_ints hI) hq, cmp_one (s := { s with heap := h' }) v0 v' hp hd hu hc fun p m => ?_⟩
    have := kind p m
    cases p <;> simp [PV.isInt, PV.isTup] at this ⊢
  · obtain ⟨ns, hI⟩ := vps_strs v' (List.all_eq_true.mpr kind)
    obtain ⟨u1, u2, ur, rfl⟩ := two
    refine ⟨oneType', fun Q E hq => wpAny_of_eq (keyKind_strs hI) hq, cmp_one (s := { s with heap := h' }) v0 v' hp hd hu hc fun p m => ?_⟩
    have := kind p m
    cases p <;> simp [PV.isStr, PV.isTup] at this ⊢
  · exact byT (by rfl) tInt kind fun p e _ => by cases p <;> simp [PV.isInt, PV.isTup] at e ⊢
  · exact byT (by rfl) tStr kind fun p e _ => by cases p <;> simp [PV.isStr, PV.isTup] at e ⊢
  · exact byT (by rfl) tTup kind fun p e z => by exact absurd z (by decide)
end
/-! ### sorted -/
def zSorted : ZC
  | [.ref a], h, Q => match h a with
    | some (.lst ps) => sortOk ps = true ∧ ∀ d, h d = none → Q (.ref d) (up h d (.lst (isort ps)))
    | _ => False
  | _, _, _ => False
section
variable {X : Cx}
theorem back_rvs {K : PySem.W.Frag} {H : Hp} {h : Heap} {xs : List V} {us : List Value} {ps : List PV} (r : RVs K H xs ps) (rv : Vals xs us) (v : VPs h ps us) : ∀ out : List Value, (∀ u ∈ out, u ∈ us) → ∃ ys, Vals ys out ∧ RVs K H ys (out.map (dec h))
  | [], _ => ⟨[], .nil, .nil⟩
  | u :: out, m => by
    obtain ⟨ys, q1, q2⟩ := back_rvs r rv v out fun w hw => m w (List.mem_cons_of_mem _ hw)
    obtain ⟨x, q3, q4⟩ := one r rv v u (m u List.mem_cons_self)
    exact ⟨x :: ys, .cons q3 q1, .cons q4 q2⟩
where
  one {xs : List V} {us : List Value} {ps : List PV} (r : RVs K H xs ps) (rv : Vals xs us) (v : VPs h ps us) : ∀ u ∈ us, ∃ x, RelV x u ∧ RV K H x (dec h u) := by
    induction rv generalizing ps with
    | nil => intro u hu; cases hu
    | cons q t ih =>
      intro u hu
      cases r with
      | cons r1 r2 =>
        simp only [VPs] at v
        obtain ⟨u', ur, e, v1, v2⟩ := v
        cases e
        rcases List.mem_cons.mp hu with rfl | hu
        · exact ⟨_, q, by rw [dec_of v1]; exact r1⟩
        · exact ih r2 v2 u hu
theorem stb_symm {α : Type} {lt : α → α → Bool} {l m : List α} (h : SrtO.Stb lt l m) : SrtO.Stb lt m l := ⟨h.perm.symm, fun x => (h.cls x).symm⟩
theorem qc_sorted (hu : X.A.units + 70 < cLine) : QC X (.builtin "sorted") zSorted := by
  intro pins s σ H xs us Q I r ⟨ps, h, Qp, rp, rh, z, k⟩
  unfold zSorted at z
  split at z
  · rename_i a
    obtain ⟨v, rfl, r1⟩ := rvs_one rp
    cases r1
    split at z
    · rename_i qs ea
      obtain ⟨ok, z⟩ := z
      obtain ⟨ws, f1, l1, q1⟩ := rh a _ ea
      obtain ⟨its, rv, hl, hz⟩ := I.list (SqL.of f1)
      obtain ⟨u, rfl, ru⟩ := r.one
      obtain rfl : u = Value.ref a := ru
      have hp : PV.pls qs = true := by
        unfold sortOk at ok
        simp only [Bool.and_eq_true] at ok
        exact ok.1.1.1
      have vp := RVs.vp I qs ws its q1 hp rv
      have hzi : its.length ≤ sizeLine := by rw [← rv.length]; exact l1
      refine SrtO.sorted_ord (ltD_swo s.heap) hl.isList hzi (fun h2 h₁ a' ha kk => ?_) fun out hs hb => ?_
      · refine sortable_pv (s := { s with heap := h₁ }) vp (vp.keep (fun b o e _ => (kk b o e).2) qs its) ok h2 (by show X.A.units + 1 + 1 + 60 < cLine; omega) fun o e c => ?_
        have e' : some o = some (seqObj "list" its.toArray 0) := e.symm.trans ha
        cases e'
        exact absurd (Value.type.inj c) (by decide)
      · have hmap : out.map (dec s.heap) = isort qs := by
          have b1 : SrtO.Stb PV.o (out.map (dec s.heap)) (its.map (dec s.heap)) := SrtO.Stb.map PV.swo (dec s.heap) hb
          rw [vps_map vp] at b1
          exact SrtO.stb_uniq PV.swo (SrtO.srtd_map hs) (isort_ok qs).1 (b1.trans (stb_symm (isort_ok qs).2))
        obtain ⟨ys, y1, y2⟩ := back_rvs q1 rv vp out fun u m => hb.perm.mem_iff.mp m
        rw [hmap] at y2
        have hlen : ys.length ≤ sizeLine := by rw [y1.length, hb.perm.length_eq]; exact hzi
        have hfr : H (s.heap.objs.size + 1) = none := I.hok.fresh (Nat.le_succ _)
        obtain ⟨n, hn⟩ := sortedAll_at s.heap its out.toArray
        have st : Stp h H (up h (s.heap.objs.size + 1) (.lst (isort qs))) (upd H (s.heap.objs.size + 1) (.lst ys)) := stp_new rh hfr
        exact ⟨.ref (s.heap.objs.size + 1), _, I.laid (a := s.heap.objs.size + 1) (o := .lst ys) (t' := s.toks) (fun b o e => sortedAll_old e) (Nat.le_succ _) ⟨hlen, out, n, y1, hn⟩, rfl,
          k _ _ (z _ (rh.free hfr)) _ _ st (.ref _) (rh.put st ⟨ys, upd_same, hlen, y2.stp rh st⟩)⟩
    · exact False.elim z
  · exact False.elim z
end
end G

namespace G
open PySem PySem.Spec PyProof.Rows L2

/-! ### as the printed proofs use it -/
def nmOk (x : Str) : Bool := !(x == ("__debug__" : Str)) && !(x == ("__classdict__" : Str)) && !(x == ("__name__" : Str))
theorem nm1 {x : Str} (h : nmOk x = true) : (x == ("__debug__" : Str)) = false := by
  unfold nmOk at h; simp only [Bool.and_eq_true, Bool.not_eq_true'] at h; exact h.1.1
theorem nm2 {x : Str} (h : nmOk x = true) : (x == ("__classdict__" : Str)) = false := by
  unfold nmOk at h; simp only [Bool.and_eq_true, Bool.not_eq_true'] at h; exact h.1.2
theorem nm3 {x : Str} (h : nmOk x = true) : x ≠ "__name__" := by
  unfold nmOk at h; simp only [Bool.and_eq_true, Bool.not_eq_true'] at h
  intro e; rw [e] at h; exact absurd h.2 (by decide)
section
variable {X : Cx} {e a b c : Expr} {es : List Expr} {t ta tb : ZE} {ts : ZA} {tc : ZT} {pos p p1 p2 : Pos}
theorem qv {i : Nat} {x : Str} (hn : nmOk x = true) (hN : X.N[i]? = some x) (hv : Vis X.env.scope x) : QE X (.Name x pos) (zVar i) := qe_var hN hv (nm1 hn) (nm2 hn)
theorem q_str {y : Str} {x : List Nat} {j} (s : y = tS x) : QE X (.Constant (.str y) j pos) (zC (.str x)) := by subst s; exact qe_str
theorem q_glob {x : Str} {pv : PV} (hn : nmOk x = true) (hg : Gl X x) (h : ∃ v u, X.mg x = some u ∧ RelV v u ∧ ∀ H, RV X.K H v pv) : QE X (.Name x pos) (zC pv) := by
  obtain ⟨v, u, h1, h2, h3⟩ := h
  exact qe_glob hg h1 h2 h3 (nm1 hn)
theorem q_own {x : Str} {k n : Nat} {r : ZC} (F : QF X.prog X.w X.K X.mg X.base k x n r) (hr : Room k X.A) (hn : nmOk x = true) (hg : Gl X x) (ha : QA X (e :: es) ts)
    (he : starEach (e :: es) X.env = (false, eval e X.env) :: starEach es X.env) (hpl : (backTo pos (starEach es X.env)).any (·.1) = false) : QE X (.Call (.Name x p) (e :: es) [] pos) (zCall r ts) := qe_own F hr hg ha (nm1 hn) he hpl
theorem q_own0 {x : Str} {k : Nat} {r : ZC} (F : QF X.prog X.w X.K X.mg X.base k x 0 r) (hr : Room k X.A) (hn : nmOk x = true) (hg : Gl X x) : QE X (.Call (.Name x p) [] [] pos) (zCall r zaNil) := qe_own0 F hr hg (nm1 hn)
section
variable (ha : QA X (e :: es) ts) (he : starEach (e :: es) X.env = (false, eval e X.env) :: starEach es X.env) (hpl : (backTo pos (starEach es X.env)).any (·.1) = false)
include ha he hpl
theorem q_len (hg : Gl X "len") (hm : X.mg "len" = none) : QE X (.Call (.Name "len" p) (e :: es) [] pos) (zCall zLen ts) := qe_callB qc_len hg hm PySem.boot_len ha (by decide) (by decide) he hpl
theorem q_abs (hg : Gl X "abs") (hm : X.mg "abs" = none) : QE X (.Call (.Name "abs" p) (e :: es) [] pos) (zCall zAbs ts) := qe_callB qc_abs hg hm (by decide +kernel) ha (by decide) (by decide) he hpl
theorem q_sum (hc : X.calm = true) (hg : Gl X "sum") (hm : X.mg "sum" = none) : QE X (.Call (.Name "sum" p) (e :: es) [] pos) (zCall zSum ts) := qe_callB (qc_sum hc) hg hm (by decide +kernel) ha (by decide) (by decide) he hpl
theorem q_all (hc : X.calm = true) (hg : Gl X "all") (hm : X.mg "all" = none) : QE X (.Call (.Name "all" p) (e :: es) [] pos) (zCall zAll ts) := qe_callB (qc_all hc) hg hm (by decide +kernel) ha (by decide) (by decide) he hpl
theorem q_any (hc : X.calm = true) (hg : Gl X "any") (hm : X.mg "any" = none) : QE X (.Call (.Name "any" p) (e :: es) [] pos) (zCall zAny ts) := qe_callB (qc_any hc) hg hm (by decide +kernel) ha (by decide) (by decide) he hpl
theorem q_max (hc : X.calm = true) (hg : Gl X "max") (hm : X.mg "max" = none) : QE X (.Call (.Name "max" p) (e :: es) [] pos) (zCall zMax2 ts) := qe_callB (qc_max2 hc) hg hm (by decide +kernel) ha (by decide) (by decide) he hpl
theorem q_min (hc : X.calm = true) (hg : Gl X "min") (hm : X.mg "min" = none) : QE X (.Call (.Name "min" p) (e :: es) [] pos) (zCall zMin2 ts) := qe_callB (qc_min2 hc) hg hm (by decide +kernel) ha (by decide) (by decide) he hpl
theorem q_sorted (hu : X.A.units + 70 < cLine) (hg : Gl X "sorted") (hm : X.mg "sorted" = none) : QE X (.Call (.Name "sorted" p) (e :: es) [] pos) (zCall zSorted ts) := qe_callB (qc_sorted hu) hg hm (by decide +kernel) ha (by decide) (by decide) he hpl
theorem q_int (hg : Gl X "int") (hm : X.mg "int" = none) : QE X (.Call (.Name "int" p) (e :: es) [] pos) (zCall zInt ts) := qe_callTy qc_int hg hm (by decide +kernel) ha (by decide) (by decide) he hpl
theorem q_tuple (hg : Gl X "tuple") (hm : X.mg "tuple" = none) : QE X (.Call (.Name "tuple" p) (e :: es) [] pos) (zCall zTupC ts) := qe_callTy qc_tup hg hm (by decide +kernel) ha (by decide) (by decide) he hpl
theorem q_list (hc : X.calm = true) (hg : Gl X "list") (hm : X.mg "list" = none) : QE X (.Call (.Name "list" p) (e :: es) [] pos) (zCall zListC ts) := qe_callTy (qc_list hc) hg hm (by decide +kernel) ha (by decide) (by decide) he hpl
end
theorem q_isa (T : Ty) (hg : Gl X "isinstance") (hm : X.mg "isinstance" = none) (hgT : Gl X T.nm) (hmT : X.mg T.nm = none) (ha : QE X a ta)
    (h1 : starEach [a, .Name T.nm p2] X.env = (false, eval a X.env) :: starEach [.Name T.nm p2] X.env) (h2 : starEach [.Name T.nm p2] X.env = (false, eval (.Name T.nm p2) X.env) :: starEach [] X.env)
    (hpl : (backTo pos (starEach [.Name T.nm p2] X.env)).any (·.1) = false) : QE X (.Call (.Name "isinstance" p1) [a, .Name T.nm p2] [] pos) (zIsa T ta) :=
  qe_isa hg hm hgT hmT (by cases T <;> decide) (by cases T <;> decide) ha h1 h2 hpl
variable {o : Expr} {to : ZE} {ta' : ZA} {name : Str} {apos cpos : Pos}
section
variable (ho : QE X o to) (ha : QA X (e :: es) ta')
    (hfew : ((backTo cpos (starEach (e :: es) X.env)).all (fun x => !x.1) && (backToKw cpos (keywordEach [] X.env)).all (fun x => x.1.isSome)
      && decide ((e :: es).length + ([] : List Keyword).length + (if ([] : List Keyword).isEmpty then 0 else 1) < 30)) = true)
    (hline : (apos.endLine == cpos.line) = true) (hs : starEach (e :: es) X.env = (false, eval e X.env) :: starEach es X.env) (hplain : (backTo cpos (starEach es X.env)).any (·.1) = false)
include ho ha hfew hline hs hplain
theorem q_append (hbase : attributeBase o "append" X.env (eval o X.env) = eval o X.env) : QE X (.Call (.Attribute o "append" apos) (e :: es) [] cpos) (zMt "list" zAppend to ta') := qe_bm F.plainAttrs_list F.slot_list_append F.type_list_append qm_append ho ha hbase hfew hline hs hplain
theorem q_extend (hbase : attributeBase o "extend" X.env (eval o X.env) = eval o X.env) : QE X (.Call (.Attribute o "extend" apos) (e :: es) [] cpos) (zMt "list" zExtend to ta') := qe_bm F.plainAttrs_list F.slot_list_extend F.type_list_extend qm_extend ho ha hbase hfew hline hs hplain
theorem q_insert (hbase : attributeBase o "insert" X.env (eval o X.env) = eval o X.env) : QE X (.Call (.Attribute o "insert" apos) (e :: es) [] cpos) (zMt "list" zInsert to ta') := qe_bm F.plainAttrs_list F.slot_list_insert F.type_list_insert qm_insert ho ha hbase hfew hline hs hplain
theorem q_index (hu : X.A.units + 70 < cLine) (hbase : attributeBase o "index" X.env (eval o X.env) = eval o X.env) : QE X (.Call (.Attribute o "index" apos) (e :: es) [] cpos) (zMt "list" zIndex to ta') := qe_bm F.plainAttrs_list F.slot_list_index F.type_list_index (qm_index (by omega)) ho ha hbase hfew hline hs hplain
theorem q_get (hu : X.A.units + 70 < cLine) (hbase : attributeBase o "get" X.env (eval o X.env) = eval o X.env) : QE X (.Call (.Attribute o "get" apos) (e :: es) [] cpos) (zMt "dict" zDget to ta') := qe_bm F.plainAttrs_dict F.slot_dict_get F.type_dict_get (qm_dget (by omega)) ho ha hbase hfew hline hs hplain
end
theorem q_ix (hu : X.A.units + 70 < cLine) (ha : QE X a ta) (hb : QE X b tb) (hs : PlainIx b) : QE X (.Subscript a b pos) (z2 zIx ta tb) := qe_ix (by omega) ha hb hs
theorem q_eq (hu : X.A.units + 70 < cLine) : QO X (compareOp .Eq) zEq := qo_eq (by omega)
theorem q_ne (hu : X.A.units + 70 < cLine) : QO X (compareOp .NotEq) (zNot zEq) := qo_ne (by omega)
theorem qg_sub' {o i : Expr} {to ti : ZE} (hu : X.A.units + 70 < cLine) (ho : QE X o to) (hi : QE X i ti)
    (ha : ∀ v, assign (.Subscript o i pos) X.env v = (do
      let ov ← holding [v] (eval o X.env)
      let iv ← holding [v, ov] (eval i X.env)
      standAt pos
      holding [v, ov, iv] (setItem ov iv v)
      release [v, ov, iv] [])) : QG X (.Subscript o i pos) (zgSub to ti) := qg_sub (by omega) ho hi ha
theorem q_w {t : ZT} (h : QW X e t) : QT X e t := PW.pt h
end
theorem hu_of {k : Nat} {A : Around} (r : Room k A) : A.units + 70 < cLine := by have := r.un; omega
end G

namespace G
open PySem PySem.Spec PyProof.Rows L2

/-! ### from the head's facts to the defs -/
/-- the def stands at the top -/
def FB (K : PySem.W.Frag) (mg : Str → Option Value) (x : Str) (st : Stmt) (ps : List Str) : Prop :=
  ∃ (f : Addr) (fd : FuncData), FunD K x x (defArgs st) (defBody st) (defScope st) [] [] f fd ∧ mg x = some (.ref f) ∧ ∀ (s : Shared) (us : List Value), us.length = ps.length → BindsTo s fd ⟨us, []⟩ (ps.zip us)
theorem binds_of {K : PySem.W.Frag} {fd : FuncData} {ps : List Str} (h : ∀ (s : Shared) (us : List Value), us.length = ps.length → BindsTo s fd ⟨us, []⟩ (ps.zip us)) : Binds K fd ps [] := fun s us _ hl => by
  rw [List.append_nil] at hl ⊢
  exact h s us hl
section
variable {P : Program} {w : World} {K : PySem.W.Frag} {mg : Str → Option Value} {base : Heap}
theorem qfd {x : Str} {st : Stmt} {N ps : List Str} {k n m : Nat} {zb : ZS} (h : FB K mg x st ps) (S : FnScope N ps (defScope st)) (hn : N.length = n) (hm : ps.length = m)
    (body : ∀ (f : Addr) (cdv : Value) (A : Around) (outer : List Env) (s : Shared) (H : Hp) (E : XK), Room k (A.deeper (envOfC x (defScope st) s.heap.objs.size f cdv)) → QSs (cxOf CX0 P w K mg base N x (defScope st) f cdv A outer s H E).nox (defBody st) zb) :
    QF P w K mg base (k + 1) x m (zFn n m zb) := by
  obtain ⟨f, fd, F, hg, hb⟩ := h
  refine ⟨f, fd, ps, F.ok S (fun vs H Q E h => ?_) (fun cdv A outer s H vs Q E hr h => ?_), hg, F.kp, binds_of hb⟩
  · obtain ⟨ps', h, Qp, rv, rh, ⟨hz1, hz⟩, kk⟩ := h
    rw [rv.length, hm]; exact hz1
  obtain ⟨ps', h, Qp, rv, rh, ⟨hz1, hz⟩, kk⟩ := h
  refine ⟨_, (body f cdv A outer s H E hr).nox, _, h, _, rs_start rv N, rh, by rw [hz1, hn]; exact hz, ?_⟩
  refine ⟨fun ρ' h' ⟨h2, u, q⟩ σ' H' s rs rh' => ?_, fun p h' ⟨h2, u, q⟩ v H' s rv rh' => ?_, fun _ _ z => z.elim, fun _ _ z => z.elim⟩
  · exact kk _ _ q _ _ (stp_sub s u) .non (rh'.sub u)
  · exact kk _ _ q _ _ (stp_sub s u) rv (rh'.sub u)
theorem qfd0 {x : Str} {st : Stmt} {ps : List Str} {m : Nat} (h : FB K mg x st ps) : QF P w K mg base 0 x m (fun _ _ _ => False) := by
  obtain ⟨f, fd, F, hg, hb⟩ := h
  refine ⟨f, fd, ps, ⟨fun vs H Q E h => ?_, fun A outer s H args us vs Q E hr e0 hb' r h => ?_⟩, hg, F.kp, binds_of hb⟩
  · obtain ⟨ps', h, Qp, rv, rh, z, kk⟩ := h; exact z.elim
  · obtain ⟨ps', h, Qp, rv, rh, z, kk⟩ := h; exact z.elim
/-- the law's own def -/
theorem law_ok {st : Stmt} {N : List Str} {k n : Nat} {zb : ZS} {fa : Addr} (h : FB K mg "law" st ["script"]) (S : FnScope N ["script"] (defScope st)) (hn : N.length = n) (hfa : mg "law" = some (.ref fa))
    (body : ∀ base : Heap, K.In base → base.Ns mainGlobals mg → ∀ (f : Addr) (cdv : Value) (A : Around) (outer : List Env) (s : Shared) (H : Hp) (E : XK), Room k (A.deeper (envOfC "law" (defScope st) s.heap.objs.size f cdv)) → QSs (cxOf CX0 P w K mg base N "law" (defScope st) f cdv A outer s H E).nox (defBody st) zb)
    (math : ∀ ns : List Int, ns.length ≤ 63 → zFn n 1 zb [.scr ns] (fun _ => none) fun p _ => p = .bl true) :
    ∃ (fd : FuncData) (sp : Sp), (∀ (s : Shared) (u : Value), BindsTo s fd ⟨[u], []⟩ [("script", u)]) ∧
        (∀ (H : Hp) (a : Addr) (ns : List Int), ns.length ≤ 63 → Only H → SqL K H a (ns.map V.int) → sp [.ref a] H (fun v _ => v = .bl true) fun _ _ _ => False) ∧
        ∀ base : Heap, K.In base → base.Ns mainGlobals mg → FnOk P w K mg base CX0 (k + 1) fa fd ["script"] sp := by
  obtain ⟨f, fd, F, hg, hb⟩ := h
  have e := hfa.symm.trans hg
  cases e
  refine ⟨fd, spOf P w K (zFn n 1 zb), fun s u => hb s [u] rfl, fun H a ns hl hO hS => ?_, fun base hK hB => ?_⟩
  · refine ⟨[.scr ns], fun _ => none, fun p _ => p = .bl true, .cons (.scr ?_ hl) .nil, (fun _ _ z => nomatch z), math ns hl, fun p h' q v H' s rv rh => ?_⟩
    · rcases hS with (hS | ⟨o, hS⟩) | hS
      · rcases hO a with z | ⟨o, xs, z⟩ <;> rw [z] at hS <;> cases hS
      · exact .inl ⟨o, hS⟩
      · exact .inr hS
    · subst q; cases rv; rfl
  · refine F.ok S (fun vs H Q E h => ?_) (fun cdv A outer s H vs Q E hr h => ?_)
    · obtain ⟨ps', h, Qp, rv, rh, ⟨hz1, hz⟩, kk⟩ := h
      rw [rv.length]; exact hz1
    obtain ⟨ps', h, Qp, rv, rh, ⟨hz1, hz⟩, kk⟩ := h
    refine ⟨_, (body base hK hB fa cdv A outer s H E hr).nox, _, h, _, rs_start rv N, rh, by rw [hz1, hn]; exact hz, ?_⟩
    refine ⟨fun ρ' h' ⟨h2, u, q⟩ σ' H' s rs rh' => ?_, fun p h' ⟨h2, u, q⟩ v H' s rv rh' => ?_, fun _ _ z => z.elim, fun _ _ z => z.elim⟩
    · exact kk _ _ q _ _ (stp_sub s u) .non (rh'.sub u)
    · exact kk _ _ q _ _ (stp_sub s u) rv (rh'.sub u)
end
/-! ### a constant of the top, as a tree -/
def tvB (K : PySem.W.Frag) : Nat → PV → Value → Bool
  | 0, _, _ => false
  | n + 1, p, u => match p, u with
    | .non, .none => true
    | .bl b, .bool c => b == c
    | .int i, .int j _ => i == j
    | .str x, .str y _ => y.cps.toList == x
    | .tup ps, .ref a => (match K.lookup a with
      | some ⟨.type t, _, .seq its _, _⟩ => t == "tuple" && (decide (its.size ≤ 1000) && (decide (its.size = ps.length) && (ps.zip its.toList).all fun z => tvB K n z.1 z.2))
      | _ => false)
    | _, _ => false
def conB' (K : PySem.W.Frag) (x : Str) (p : PV) : Bool := match PySem.W.nsIn K mainGlobals x with
  | some (some u) => tvB K 12 p u
  | _ => false
theorem tv_all {K : PySem.W.Frag} {n : Nat} (ih : ∀ (p : PV) (u : Value), tvB K n p u = true → ∃ v, RelV v u ∧ ∀ H, RV K H v p) : ∀ (ps : List PV) (us : List Value), us.length = ps.length → ((ps.zip us).all fun z => tvB K n z.1 z.2) = true → ∃ vs, Vals vs us ∧ ∀ H, RVs K H vs ps
  | [], [], _, _ => ⟨[], .nil, fun _ => .nil⟩
  | [], _ :: _, hl, _ => by simp at hl
  | _ :: _, [], hl, _ => by simp at hl
  | p :: ps, u :: us, hl, h => by
    simp only [List.zip_cons_cons, List.all_cons, Bool.and_eq_true] at h
    obtain ⟨v, h1, h2⟩ := ih p u h.1
    obtain ⟨vs, h3, h4⟩ := tv_all ih ps us (by simpa using hl) h.2
    exact ⟨v :: vs, .cons h1 h3, fun H => .cons (h2 H) (h4 H)⟩
theorem tvB_ok {K : PySem.W.Frag} : ∀ (n : Nat) (p : PV) (u : Value), tvB K n p u = true → ∃ v, RelV v u ∧ ∀ H, RV K H v p
  | 0, _, _, h => by simp [tvB] at h
  | n + 1, p, u, h => by
    unfold tvB at h
    split at h
    · exact ⟨.non, rfl, fun _ => .non⟩
    · rw [beq_iff_eq] at h; subst h; exact ⟨.bl _, rfl, fun _ => .bl _⟩
    · rw [beq_iff_eq] at h; subst h; exact ⟨.int _, ⟨_, rfl⟩, fun _ => .int _⟩
    · rw [beq_iff_eq] at h; subst h
      rename_i y t
      exact ⟨.str y, ⟨_, rfl⟩, fun H => by have := RV.str (K := K) (H := H) y.cps.toList; rw [tS_of] at this; exact this⟩
    · rename_i ps a
      split at h
      · rename_i t dd its m sl e
        simp only [Bool.and_eq_true, decide_eq_true_eq, beq_iff_eq] at h
        obtain ⟨h1, h2, h3, h4⟩ := h
        subst h1
        obtain ⟨vs, h5, h6⟩ := tv_all (tvB_ok n) ps its.toList (by simpa using h3) h4
        refine ⟨.ref a, rfl, fun H => .tup (.inr ?_) ?_ (h6 H)⟩
        · exact ⟨_, its, m, e, rfl, rfl, by rw [sizeLine_eq]; omega, h5⟩
        · rw [h5.length, Array.length_toList, sizeLine_eq]; omega
      · cases h
    · cases h
theorem con_ok {K : PySem.W.Frag} {h : Heap} {mg : Str → Option Value} (X : K.In h) (G : h.Ns mainGlobals mg) {x : Str} {p : PV} (c : conB' K x p = true) : ∃ v u, mg x = some u ∧ RelV v u ∧ ∀ H, RV K H v p := by
  unfold conB' at c
  split at c
  · rename_i u e
    obtain ⟨v, h1, h2⟩ := tvB_ok _ _ _ c
    exact ⟨v, u, PySem.W.mg_of X G e, h1, h2⟩
  · cases c
end G

namespace G
open PySem PySem.Spec PyProof.Rows L2

/-! ### reading -/
theorem zVar_ok {i : Nat} {ρ : Ev} {h : PH} {Q : QV} {p : PV} (e : ρ[i]? = some (some p)) : zVar i ρ h Q = Q p h := by
  unfold zVar
  rw [e]
  simp
theorem zEq_str {x y : List Nat} {h : PH} {Q : QV} : zEq (.str x) (.str y) h Q = Q (.bl (decide (x = y))) h := by
  simp [zEq, PV.flat, PV.v, scal]
theorem zEq_int {x y : Int} {h : PH} {Q : QV} : zEq (.int x) (.int y) h Q = Q (.bl (decide (x = y))) h := by
  simp [zEq, PV.flat, PV.v, scal]
theorem zNe_str {x y : List Nat} {h : PH} {Q : QV} : zNot zEq (.str x) (.str y) h Q = Q (.bl (!decide (x = y))) h := by
  simp [zNot, zEq_str]
theorem zNe_int {x y : Int} {h : PH} {Q : QV} : zNot zEq (.int x) (.int y) h Q = Q (.bl (!decide (x = y))) h := by
  simp [zNot, zEq_int]
def zEqO : Option PO → Option PO → PH → QV → Prop
  | some (.lst xs), some (.lst ys), h, Q => PV.pls xs = true ∧ PV.pls ys = true ∧ PV.dps xs ≤ 63 ∧ PV.dps ys ≤ 63 ∧ Q (.bl (decide (xs = ys))) h
  | _, _, _, _ => False
theorem zEq_r {a b : Addr} {h : PH} {Q : QV} : zEq (.ref a) (.ref b) h Q = zEqO (h a) (h b) h Q := by
  apply propext
  constructor
  · rintro ⟨xs, ys, e1, e2, z⟩; rw [e1, e2]; exact z
  · intro z
    unfold zEqO at z
    split at z
    · rename_i xs ys e1 e2; exact ⟨xs, ys, e1, e2, z⟩
    · exact z.elim
theorem zEqO_l {xs ys : List PV} {h : PH} {Q : QV} : zEqO (some (.lst xs)) (some (.lst ys)) h Q = (PV.pls xs = true ∧ PV.pls ys = true ∧ PV.dps xs ≤ 63 ∧ PV.dps ys ≤ 63 ∧ Q (.bl (decide (xs = ys))) h) := rfl
theorem zEq_tt {a b : List PV} {h : PH} {Q : QV} : zEq (.tup a) (.tup b) h Q = (PV.pls a = true ∧ (PV.tup b).pl = true ∧ PV.dps a ≤ 63 ∧ (PV.tup b).dp ≤ 64 ∧ Q (.bl (decide (PV.tup a = .tup b))) h) := rfl
theorem zEq_ti {a : List PV} {b : Int} {h : PH} {Q : QV} : zEq (.tup a) (.int b) h Q = (PV.pls a = true ∧ (PV.int b).pl = true ∧ PV.dps a ≤ 63 ∧ (PV.int b).dp ≤ 64 ∧ Q (.bl (decide (PV.tup a = .int b))) h) := rfl
theorem zEq_it {a : Int} {b : List PV} {h : PH} {Q : QV} : zEq (.int a) (.tup b) h Q = ((PV.int a).pl = true ∧ PV.pls b = true ∧ PV.dps b ≤ 63 ∧ Q (.bl (decide (PV.int a = .tup b))) h) := rfl
theorem zIs_n {p : PV} {h : PH} {Q : QV} : zIs false p .non h Q = Q (.bl (decide (p = .non))) h := by cases p <;> rfl
theorem zIsN_n {p : PV} {h : PH} {Q : QV} : zIs true p .non h Q = Q (.bl (!decide (p = .non))) h := by cases p <;> rfl
theorem zI_int {C : Int → Int → Prop} {g : Int → Int → PV} {i j : Int} {h : PH} {Q : QV} : zI C g (.int i) (.int j) h Q = (C i j ∧ Q (g i j) h) := rfl
theorem zI_int' {C : Int → Int → Prop} {g : Int → Int → PV} {i j : Int} {h : PH} {Q : QV} : zI C g (.int i) (.int j) h Q = (C i j ∧ Q (g i j) h) := rfl
theorem zSub_i {i j : Int} {h : PH} {Q : QV} : zSub (.int i) (.int j) h Q = Q (.int (i - j)) h := by simp [zSub, zI]
theorem zAdd_i {i j : Int} {h : PH} {Q : QV} : zAdd (.int i) (.int j) h Q = Q (.int (i + j)) h := rfl
theorem zAdd_s {i j : List Nat} {h : PH} {Q : QV} : zAdd (.str i) (.str j) h Q = (i.length + j.length ≤ sizeLine ∧ Q (.str (i ++ j)) h) := rfl
theorem zAdd_t {i j : List PV} {h : PH} {Q : QV} : zAdd (.tup i) (.tup j) h Q = (i.length + j.length ≤ sizeLine ∧ Q (.tup (i ++ j)) h) := rfl
def zAddO : Option PO → Option PO → PH → QV → Prop
  | some (.lst xs), some (.lst ys), h, Q => xs.length + ys.length ≤ sizeLine ∧ ∀ p, h p = none → Q (.ref p) (up h p (.lst (xs ++ ys)))
  | _, _, _, _ => False
theorem zAdd_r {a b : Addr} {h : PH} {Q : QV} : zAdd (.ref a) (.ref b) h Q = zAddO (h a) (h b) h Q := by
  apply propext
  constructor
  · rintro ⟨xs, ys, e1, e2, z⟩; rw [e1, e2]; exact z
  · intro z
    unfold zAddO at z
    split at z
    · rename_i xs ys e1 e2; exact ⟨xs, ys, e1, e2, z⟩
    · exact z.elim
theorem zAddO_l {xs ys : List PV} {h : PH} {Q : QV} : zAddO (some (.lst xs)) (some (.lst ys)) h Q = (xs.length + ys.length ≤ sizeLine ∧ ∀ p, h p = none → Q (.ref p) (up h p (.lst (xs ++ ys)))) := rfl
theorem zDiv_i {i j : Int} {h : PH} {Q : QV} : zDiv (.int i) (.int j) h Q = ((0 < j ∧ j < 1073741824) ∧ Q (.int (i / j)) h) := rfl
theorem zMod_i {i j : Int} {h : PH} {Q : QV} : zMod (.int i) (.int j) h Q = (0 < j ∧ Q (.int (i % j)) h) := rfl
theorem zPow_i {i j : Int} {h : PH} {Q : QV} : zPow (.int i) (.int j) h Q = ((0 ≤ j ∧ j ≤ 1000000 ∧ i.natAbs < 2 ^ 64) ∧ Q (.int (i ^ j.toNat)) h) := rfl
theorem zMul_i {i j : Int} {h : PH} {Q : QV} : zMul (.int i) (.int j) h Q = (CMulA i j ∧ Q (.int (i * j)) h) := rfl
theorem zLt_i {i j : Int} {h : PH} {Q : QV} : zLt (.int i) (.int j) h Q = Q (.bl (decide (i < j))) h := by simp [zLt, zI]
theorem zLe_i {i j : Int} {h : PH} {Q : QV} : zLe (.int i) (.int j) h Q = Q (.bl (decide (i ≤ j))) h := by simp [zLe, zI]
theorem zGt_i {i j : Int} {h : PH} {Q : QV} : zGt (.int i) (.int j) h Q = Q (.bl (decide (j < i))) h := by simp [zGt, zI]
theorem zGe_i {i j : Int} {h : PH} {Q : QV} : zGe (.int i) (.int j) h Q = Q (.bl (decide (j ≤ i))) h := by simp [zGe, zI]
/-- by what stands at the address -/
def zIxO : Option PO → PV → PH → QV → Prop
  | some (.lst xs), .int i, h, Q => ∃ v, atI xs i = some v ∧ Q v h
  | some (.dic t _ kvs), k, h, Q => keyOk t k = true ∧ ∃ v, dget kvs k = some v ∧ Q v h
  | _, _, _, _ => False
theorem zIx_r {a : Addr} {k : PV} {h : PH} {Q : QV} : zIx (.ref a) k h Q = zIxO (h a) k h Q := by
  simp only [zIx]
  cases h a with
  | none => cases k <;> rfl
  | some o => cases o <;> cases k <;> rfl
theorem zIx_t {xs : List PV} {i : Int} {h : PH} {Q : QV} : zIx (.tup xs) (.int i) h Q = ∃ v, atI xs i = some v ∧ Q v h := rfl
theorem zIx_s {xs : List Nat} {i : Int} {h : PH} {Q : QV} : zIx (.str xs) (.int i) h Q = ∃ c, xs.length ≤ sizeLine ∧ atI xs i = some c ∧ Q (.str [c]) h := rfl
theorem zIxO_l {xs : List PV} {i : Int} {h : PH} {Q : QV} : zIxO (some (.lst xs)) (.int i) h Q = ∃ v, atI xs i = some v ∧ Q v h := rfl
theorem zIxO_d {t : Bool} {l} {kvs : List (PV × PV)} {k : PV} {h : PH} {Q : QV} : zIxO (some (.dic t l kvs)) k h Q = (keyOk t k = true ∧ ∃ v, dget kvs k = some v ∧ Q v h) := by cases k <;> rfl
def zSetO (a : Addr) : Option PO → PV → PV → PH → (PH → Prop) → Prop
  | some (.lst xs), .int i, v, h, Q => ∃ j, ixN xs.length i = some j ∧ Q (up h a (.lst (xs.set j v)))
  | some (.dic t none kvs), k, v, h, Q => keyOk t k = true ∧ kvs.length < sizeLine ∧ Q (up h a (.dic t none (dput kvs k v)))
  | _, _, _, _, _ => False
theorem zSet_r {a : Addr} {k v : PV} {h : PH} {Q : PH → Prop} : zSet (.ref a) k v h Q = zSetO a (h a) k v h Q := by
  simp only [zSet]
  cases h a with
  | none => cases k <;> rfl
  | some o =>
    cases o with
    | lst _ => cases k <;> rfl
    | dic t l _ => cases l <;> cases k <;> rfl
theorem zSetO_l {a : Addr} {xs : List PV} {i : Int} {v : PV} {h : PH} {Q : PH → Prop} : zSetO a (some (.lst xs)) (.int i) v h Q = ∃ j, ixN xs.length i = some j ∧ Q (up h a (.lst (xs.set j v))) := rfl
theorem zSetO_d {a : Addr} {t : Bool} {kvs : List (PV × PV)} {k v : PV} {h : PH} {Q : PH → Prop} : zSetO a (some (.dic t none kvs)) k v h Q = (keyOk t k = true ∧ kvs.length < sizeLine ∧ Q (up h a (.dic t none (dput kvs k v)))) := by cases k <;> rfl
def zLenO : Option PO → PH → QV → Prop
  | some (.lst xs), h, Q => Q (.int xs.length) h
  | some (.dic _ _ kvs), h, Q => Q (.int kvs.length) h
  | none, _, _ => False
theorem zLen_r {a : Addr} {h : PH} {Q : QV} : zLen [.ref a] h Q = zLenO (h a) h Q := by
  simp only [zLen]
  cases h a with
  | none => rfl
  | some o => cases o <;> rfl
theorem zLen_t {xs : List PV} {h : PH} {Q : QV} : zLen [.tup xs] h Q = Q (.int xs.length) h := rfl
theorem zLen_s {xs : List Nat} {h : PH} {Q : QV} : zLen [.str xs] h Q = (xs.length ≤ sizeLine ∧ Q (.int xs.length) h) := rfl
theorem zLenO_l {xs : List PV} {h : PH} {Q : QV} : zLenO (some (.lst xs)) h Q = Q (.int xs.length) h := rfl
theorem zLenO_d {t : Bool} {l} {kvs : List (PV × PV)} {h : PH} {Q : QV} : zLenO (some (.dic t l kvs)) h Q = Q (.int kvs.length) h := rfl
theorem zAbs_i {i : Int} {h : PH} {Q : QV} : zAbs [.int i] h Q = Q (.int (if i < 0 then -i else i)) h := rfl
theorem zInt_i {i : Int} {h : PH} {Q : QV} : zInt [.int i] h Q = Q (.int i) h := rfl
theorem zInt_b {b : Bool} {h : PH} {Q : QV} : zInt [.bl b] h Q = Q (.int (if b then 1 else 0)) h := rfl
theorem zMax_i {i j : Int} {h : PH} {Q : QV} : zMax2 [.int i, .int j] h Q = Q (.int (if j > i then j else i)) h := rfl
theorem zMin_i {i j : Int} {h : PH} {Q : QV} : zMin2 [.int i, .int j] h Q = Q (.int (if j < i then j else i)) h := rfl
def zTupO : Option PO → PH → QV → Prop
  | some (.lst xs), h, Q => Q (.tup xs) h
  | _, _, _ => False
theorem zTupC_r {a : Addr} {h : PH} {Q : QV} : zTupC [.ref a] h Q = zTupO (h a) h Q := by
  simp only [zTupC]
  cases h a with
  | none => rfl
  | some o => cases o <;> rfl
theorem zTupC_t {xs : List PV} {h : PH} {Q : QV} : zTupC [.tup xs] h Q = Q (.tup xs) h := rfl
theorem zTupO_l {xs : List PV} {h : PH} {Q : QV} : zTupO (some (.lst xs)) h Q = Q (.tup xs) h := rfl
def zListO : Option PO → PH → QV → Prop
  | some (.lst xs), h, Q => ∀ p, h p = none → Q (.ref p) (up h p (.lst xs))
  | some (.dic false none kvs), h, Q => ∀ p, h p = none → Q (.ref p) (up h p (.lst (kvs.map Prod.fst)))
  | _, _, _ => False
theorem zListC_r {a : Addr} {h : PH} {Q : QV} : zListC [.ref a] h Q = zListO (h a) h Q := by
  simp only [zListC]
  cases h a with
  | none => rfl
  | some o =>
    cases o with
    | lst _ => rfl
    | dic t l _ => cases t <;> cases l <;> rfl
theorem zListC_t {xs : List PV} {h : PH} {Q : QV} : zListC [.tup xs] h Q = ∀ p, h p = none → Q (.ref p) (up h p (.lst xs)) := rfl
theorem zListC_s {ns : List Int} {h : PH} {Q : QV} : zListC [.scr ns] h Q = (ns.length ≤ 63 → ∀ p, h p = none → Q (.ref p) (up h p (.lst (ns.map PV.int)))) := rfl
theorem zListO_l {xs : List PV} {h : PH} {Q : QV} : zListO (some (.lst xs)) h Q = ∀ p, h p = none → Q (.ref p) (up h p (.lst xs)) := rfl
theorem zListO_d {kvs : List (PV × PV)} {h : PH} {Q : QV} : zListO (some (.dic false none kvs)) h Q = ∀ p, h p = none → Q (.ref p) (up h p (.lst (kvs.map Prod.fst))) := rfl
def zSumO : Option PO → PH → QV → Prop
  | some (.lst xs), h, Q => ∃ ns, intsP xs = some ns ∧ Q (.int ns.sum) h
  | _, _, _ => False
theorem zSum_r {a : Addr} {h : PH} {Q : QV} : zSum [.ref a] h Q = zSumO (h a) h Q := by
  simp only [zSum]
  cases h a with
  | none => rfl
  | some o => cases o <;> rfl
theorem zSumO_l {xs : List PV} {h : PH} {Q : QV} : zSumO (some (.lst xs)) h Q = ∃ ns, intsP xs = some ns ∧ Q (.int ns.sum) h := rfl
def zAllO : Option PO → PH → QV → Prop
  | some (.lst xs), h, Q => ∃ ns, blsP xs = some ns ∧ Q (.bl (ns.all id)) h
  | _, _, _ => False
theorem zAll_r {a : Addr} {h : PH} {Q : QV} : zAll [.ref a] h Q = zAllO (h a) h Q := by
  simp only [zAll]
  cases h a with
  | none => rfl
  | some o => cases o <;> rfl
theorem zAllO_l {xs : List PV} {h : PH} {Q : QV} : zAllO (some (.lst xs)) h Q = ∃ ns, blsP xs = some ns ∧ Q (.bl (ns.all id)) h := rfl
def zSortO : Option PO → PH → QV → Prop
  | some (.lst ps), h, Q => sortOk ps = true ∧ ∀ d, h d = none → Q (.ref d) (up h d (.lst (isort ps)))
  | _, _, _ => False
theorem zSorted_r {a : Addr} {h : PH} {Q : QV} : zSorted [.ref a] h Q = zSortO (h a) h Q := by
  simp only [zSorted]
  cases h a with
  | none => rfl
  | some o => cases o <;> rfl
theorem zSortO_l {xs : List PV} {h : PH} {Q : QV} : zSortO (some (.lst xs)) h Q = (sortOk xs = true ∧ ∀ d, h d = none → Q (.ref d) (up h d (.lst (isort xs)))) := rfl
def zTrO : Option PO → (Bool → Prop) → Prop
  | some (.lst xs), Q => Q (!xs.isEmpty)
  | some (.dic false none kvs), Q => Q (!kvs.isEmpty)
  | _, _ => False
theorem zTr_r {a : Addr} {h : PH} {Q : Bool → Prop} : zTr (.ref a) h Q = zTrO (h a) Q := by
  simp only [zTr]
  cases h a with
  | none => rfl
  | some o =>
    cases o with
    | lst _ => rfl
    | dic t l _ => cases t <;> cases l <;> rfl
theorem zTr_n {h : PH} {Q : Bool → Prop} : zTr .non h Q = Q false := rfl
theorem zTr_b {b : Bool} {h : PH} {Q : Bool → Prop} : zTr (.bl b) h Q = Q b := rfl
theorem zTr_i {i : Int} {h : PH} {Q : Bool → Prop} : zTr (.int i) h Q = Q (i != 0) := rfl
theorem zTr_s {x : List Nat} {h : PH} {Q : Bool → Prop} : zTr (.str x) h Q = (x.length ≤ sizeLine ∧ Q (!x.isEmpty)) := rfl
theorem zTr_t {x : List PV} {h : PH} {Q : Bool → Prop} : zTr (.tup x) h Q = Q (!x.isEmpty) := rfl
theorem zTrO_l {xs : List PV} {Q : Bool → Prop} : zTrO (some (.lst xs)) Q = Q (!xs.isEmpty) := rfl
theorem zTrO_d {kvs : List (PV × PV)} {Q : Bool → Prop} : zTrO (some (.dic false none kvs)) Q = Q (!kvs.isEmpty) := rfl
def zHasO : PV → Option PO → (Bool → Prop) → Prop
  | x, some (.lst ys), Q => x.pl = true ∧ x.dp ≤ 64 ∧ PV.pls ys = true ∧ PV.dps ys ≤ 63 ∧ Q (decide (x ∈ ys))
  | x, some (.dic t _ kvs), Q => keyOk t x = true ∧ Q (dget kvs x).isSome
  | _, none, _ => False
theorem zHas_r {x : PV} {a : Addr} {h : PH} {Q : Bool → Prop} : zHas x (.ref a) h Q = zHasO x (h a) Q := by
  cases e : h a with
  | none => cases x <;> simp only [zHas, e, zHasO]
  | some o => cases o <;> cases x <;> simp only [zHas, e, zHasO]
theorem zHas_t {x : PV} {ys : List PV} {h : PH} {Q : Bool → Prop} : zHas x (.tup ys) h Q = (x.pl = true ∧ x.dp ≤ 64 ∧ PV.pls ys = true ∧ PV.dps ys ≤ 63 ∧ Q (decide (x ∈ ys))) := by cases x <;> rfl
theorem zHasO_l {x : PV} {ys : List PV} {Q : Bool → Prop} : zHasO x (some (.lst ys)) Q = (x.pl = true ∧ x.dp ≤ 64 ∧ PV.pls ys = true ∧ PV.dps ys ≤ 63 ∧ Q (decide (x ∈ ys))) := rfl
theorem zHasO_d {x : PV} {t : Bool} {l} {kvs : List (PV × PV)} {Q : Bool → Prop} : zHasO x (some (.dic t l kvs)) Q = (keyOk t x = true ∧ Q (dget kvs x).isSome) := rfl
def zSlO : Option PO → Option Int → Option Int → PH → QV → Prop
  | some (.lst xs), lo, hi, h, Q => ∀ p, h p = none → Q (.ref p) (up h p (.lst (cut xs lo hi)))
  | _, _, _, _, _ => False
theorem zSlV_r {a : Addr} {lo hi : Option Int} {h : PH} {Q : QV} : zSlV (.ref a) lo hi h Q = zSlO (h a) lo hi h Q := by
  simp only [zSlV]
  cases h a with
  | none => rfl
  | some o => cases o <;> rfl
theorem zSlV_t {xs : List PV} {lo hi : Option Int} {h : PH} {Q : QV} : zSlV (.tup xs) lo hi h Q = Q (.tup (cut xs lo hi)) h := rfl
theorem zSlV_s {xs : List Nat} {lo hi : Option Int} {h : PH} {Q : QV} : zSlV (.str xs) lo hi h Q = (xs.length ≤ sizeLine ∧ Q (.str (cut xs lo hi)) h) := rfl
theorem zSlO_l {xs : List PV} {lo hi : Option Int} {h : PH} {Q : QV} : zSlO (some (.lst xs)) lo hi h Q = ∀ p, h p = none → Q (.ref p) (up h p (.lst (cut xs lo hi))) := rfl
def zoI (p : PV) (h1 : PH) (Q : Option Int → PH → Prop) : Prop := match p with | .int i => Q (some i) h1 | _ => False
theorem zoSome_ok {t : ZE} {ρ : Ev} {h : PH} {Q : Option Int → PH → Prop} : zoSome t ρ h Q = t ρ h fun p h1 => zoI p h1 Q := rfl
theorem zoI_i {i : Int} {h : PH} {Q : Option Int → PH → Prop} : zoI (.int i) h Q = Q (some i) h := rfl
def ztBI (p : PV) (h1 : PH) (Q : Bool → PH → Prop) : Prop := match p with | .bl k => Q k h1 | _ => False
theorem ztB_ok {t : ZE} {ρ : Ev} {h : PH} {Q : Bool → PH → Prop} : ztB t ρ h Q = t ρ h fun p h1 => ztBI p h1 Q := rfl
theorem ztBI_b {k : Bool} {h : PH} {Q : Bool → PH → Prop} : ztBI (.bl k) h Q = Q k h := rfl
def zNegI (p : PV) (h1 : PH) (Q : QV) : Prop := match p with | .int i => Q (.int (-i)) h1 | _ => False
theorem zNeg_ok {t : ZE} {ρ : Ev} {h : PH} {Q : QV} : zNeg t ρ h Q = t ρ h fun p h1 => zNegI p h1 Q := rfl
theorem zNegI_i {i : Int} {h : PH} {Q : QV} : zNegI (.int i) h Q = Q (.int (-i)) h := rfl
def zNotI (p : PV) (h' : PH) (Q : QV) : Prop := match p with | .bl k => Q (.bl (!k)) h' | _ => False
theorem zNot_ok {r : Z2} {a b : PV} {h : PH} {Q : QV} : zNot r a b h Q = r a b h fun p h' => zNotI p h' Q := rfl
theorem zNotI_b {k : Bool} {h : PH} {Q : QV} : zNotI (.bl k) h Q = Q (.bl (!k)) h := rfl
def zgTupI (n : Nat) (gs : ZGs) (p : PV) (ρ : Ev) (h : PH) (Q : Ev → PH → Prop) : Prop := zgTup n gs p ρ h Q
theorem zgTup_t {n : Nat} {gs : ZGs} {xs : List PV} {ρ : Ev} {h : PH} {Q : Ev → PH → Prop} : zgTup n gs (.tup xs) ρ h Q = (xs.length = n ∧ gs xs ρ h Q) := rfl
theorem zgCons_c {g : ZG} {gs : ZGs} {p : PV} {r : List PV} {ρ : Ev} {h : PH} {Q : Ev → PH → Prop} : zgCons g gs (p :: r) ρ h Q = g p ρ h fun ρ' h' => gs r ρ' h' Q := rfl
theorem zgNil_n {ρ : Ev} {h : PH} {Q : Ev → PH → Prop} : zgNil [] ρ h Q = Q ρ h := by simp [zgNil]
def zMtI (T : String) (r : ZM) (p : PV) (ρ : Ev) (h1 : PH) (t : ZA) (Q : QV) : Prop := tyP T p h1 ∧ t ρ h1 fun ps h2 => r p ps h2 Q
def tyO (T : String) : Option PO → Prop
  | some (.lst _) => T = "list"
  | some (.dic _ _ _) => T = "dict"
  | none => False
theorem zMt_r {T : String} {r : ZM} {to : ZE} {t : ZA} {ρ : Ev} {h : PH} {Q : QV} : zMt T r to t ρ h Q = to ρ h fun p h1 => tyP T p h1 ∧ t ρ h1 fun ps h2 => r p ps h2 Q := rfl
theorem tyP_r {T : String} {a : Addr} {h : PH} : tyP T (.ref a) h = tyO T (h a) := by
  simp only [tyP]
  cases h a with
  | none => rfl
  | some o => cases o <;> rfl
theorem tyO_l {xs : List PV} : tyO "list" (some (.lst xs)) = True := by simp [tyO]
theorem tyO_d {t : Bool} {l} {xs : List (PV × PV)} : tyO "dict" (some (.dic t l xs)) = True := by simp [tyO]
def zAppO (l : Addr) (y : PV) : Option PO → PH → QV → Prop
  | some (.lst xs), h, Q => xs.length < sizeLine ∧ Q .non (up h l (.lst (xs ++ [y])))
  | _, _, _ => False
theorem zAppend_r {l : Addr} {y : PV} {h : PH} {Q : QV} : zAppend (.ref l) [y] h Q = zAppO l y (h l) h Q := by
  simp only [zAppend]
  cases h l with
  | none => rfl
  | some o => cases o <;> rfl
theorem zAppO_l {l : Addr} {y : PV} {xs : List PV} {h : PH} {Q : QV} : zAppO l y (some (.lst xs)) h Q = (xs.length < sizeLine ∧ Q .non (up h l (.lst (xs ++ [y])))) := rfl
theorem zIsa_ok {T : Ty} {t : ZE} {ρ : Ev} {h : PH} {Q : QV} : zIsa T t ρ h Q = t ρ h fun p h1 => zIsaV T p h1 fun b => Q (.bl b) h1 := rfl
theorem zIsa_n {T : Ty} {h : PH} {Q : Bool → Prop} : zIsaV T .non h Q = Q false := rfl
theorem zIsa_b {T : Ty} {b : Bool} {h : PH} {Q : Bool → Prop} : zIsaV T (.bl b) h Q = Q (decide (T = .bool) || decide (T = .int)) := rfl
theorem zIsa_i {T : Ty} {b : Int} {h : PH} {Q : Bool → Prop} : zIsaV T (.int b) h Q = Q (decide (T = .int)) := rfl
theorem zIsa_s {T : Ty} {b : List Nat} {h : PH} {Q : Bool → Prop} : zIsaV T (.str b) h Q = Q (decide (T = .str)) := rfl
theorem zIsa_t {T : Ty} {b : List PV} {h : PH} {Q : Bool → Prop} : zIsaV T (.tup b) h Q = Q (decide (T = .tuple)) := rfl
section
variable {i n m : Nat} {ρ : Ev} {h : PH} {Q : QV} {p : PV} {ps : List PV} {D : ZEnds} {t u : ZS} {te ta tb : ZE} {tt tu : ZT} {r : Z2} {g : ZG} {a : ZA} {c : ZC} {lo hi : ZO} {neg : Bool}
theorem zVar_x : zVar i ρ h Q = ∃ p, ρ[i]? = some (some p) ∧ Q p h := rfl
theorem zC_x : zC p ρ h Q = Q p h := rfl
theorem z2_x : z2 r ta tb ρ h Q = ta ρ h fun p h1 => tb ρ h1 fun q h2 => r p q h2 Q := rfl
theorem ztOf_x {Q : Bool → PH → Prop} : ztOf te ρ h Q = te ρ h fun p h1 => zTr p h1 fun b => Q b h1 := rfl
theorem ztAnd_x {Q : Bool → PH → Prop} : ztAnd tt tu ρ h Q = tt ρ h fun k h1 => if k = true then tu ρ h1 Q else Q false h1 := rfl
theorem ztOr_x {Q : Bool → PH → Prop} : ztOr tt tu ρ h Q = tt ρ h fun k h1 => if k = true then Q true h1 else tu ρ h1 Q := rfl
theorem ztNot_x {Q : Bool → PH → Prop} : ztNot tt ρ h Q = tt ρ h fun k h1 => Q (!k) h1 := rfl
theorem ztYes_x {Q : Bool → PH → Prop} : ztYes ρ h Q = Q true h := rfl
theorem zAnd_x : zAnd ta tb ρ h Q = ta ρ h fun p h1 => zTr p h1 fun k => if k = true then tb ρ h1 Q else Q p h1 := rfl
theorem zOr_x : zOr ta tb ρ h Q = ta ρ h fun p h1 => zTr p h1 fun k => if k = true then Q p h1 else tb ρ h1 Q := rfl
theorem zNt_x : zNt ta ρ h Q = ta ρ h fun p h1 => zTr p h1 fun k => Q (.bl (!k)) h1 := rfl
theorem zIf_x : zIf tt ta tb ρ h Q = tt ρ h fun k h1 => if k = true then ta ρ h1 Q else tb ρ h1 Q := rfl
theorem zaNil_x {Q : List PV → PH → Prop} : zaNil ρ h Q = Q [] h := rfl
theorem zaCons_x {Q : List PV → PH → Prop} : zaCons te a ρ h Q = te ρ h fun p h1 => a ρ h1 fun ps h2 => Q (p :: ps) h2 := rfl
theorem zTup_x : zTup a ρ h Q = a ρ h fun ps h1 => ps.length ≤ sizeLine ∧ Q (.tup ps) h1 := rfl
theorem zLst_x : zLst a ρ h Q = a ρ h fun ps h1 => ps.length ≤ sizeLine ∧ ∀ p, h1 p = none → Q (.ref p) (up h1 p (.lst ps)) := rfl
theorem zSl_x : zSl te lo hi ρ h Q = te ρ h fun p h1 => lo ρ h1 fun l h2 => hi ρ h2 fun u h3 => zSlV p l u h3 Q := rfl
theorem zoNone_x {Q : Option Int → PH → Prop} : zoNone ρ h Q = Q none h := rfl
theorem zCall_x : zCall c a ρ h Q = a ρ h fun ps h1 => c ps h1 Q := rfl
theorem zInn_x {x y : PV} : zInn neg x y h Q = zHas x y h fun b => Q (.bl (if neg then !b else b)) h := rfl
theorem zNext_x : zNext D ρ h = D.nx ρ h := rfl
theorem zBrk_x : zBrk D ρ h = D.bk ρ h := rfl
theorem zCont_x : zCont D ρ h = D.ct ρ h := rfl
theorem zDrop_x : zDrop te D ρ h = te ρ h fun _ h1 => D.nx ρ h1 := rfl
theorem zRet_x : zRet te D ρ h = te ρ h D.rt := rfl
theorem zRetN_x : zRetN D ρ h = D.rt .non h := rfl
theorem zIfS_x : zIfS tt t u D ρ h = tt ρ h fun b h1 => if b = true then t D ρ h1 else u D ρ h1 := rfl
theorem zAsg_x : zAsg te g D ρ h = te ρ h fun p h1 => g p ρ h1 D.nx := rfl
theorem zgName_x {Q : Ev → PH → Prop} : zgName i p ρ h Q = Q (ρ.set i (some p)) h := rfl
theorem zgSub_x {Q : Ev → PH → Prop} : zgSub ta tb p ρ h Q = ta ρ h fun o h1 => tb ρ h1 fun i h2 => zSet o i p h2 fun h3 => Q ρ h3 := rfl
theorem zSeq_asg : zSeq (zAsg te g) u D ρ h = te ρ h fun p h1 => g p ρ h1 (u D) := rfl
theorem zSeq_drop : zSeq (zDrop te) u D ρ h = te ρ h fun _ h1 => u D ρ h1 := rfl
theorem zSeq_x : zSeq t u D ρ h = t { D with nx := u D } ρ h := rfl
theorem zFn_x {t : ZS} : zFn n m t ps h Q = (ps.length = m ∧ t ⟨fun _ h' => ∃ h2, Sub h2 h' ∧ Q .non h2, fun v h' => ∃ h2, Sub h2 h' ∧ Q v h2, fun _ _ => False, fun _ _ => False⟩ (ps.map some ++ List.replicate (n - m) none) h) := rfl
end
theorem atN {α : Type} {l : List α} {i : Nat} : atI l (i : Int) = l[i]? := by
  unfold atI ixN
  rw [if_pos (by omega)]
  by_cases h : i < l.length
  · rw [if_pos (by omega)]; simp
  · rw [if_neg (by omega), List.getElem?_eq_none (by omega)]; rfl
theorem at0 {α : Type} {x : α} {l : List α} : atI (x :: l) 0 = some x := (atN (i := 0)).trans rfl
theorem at1 {α : Type} {x y : α} {l : List α} : atI (x :: y :: l) 1 = some y := (atN (i := 1)).trans rfl
theorem at2 {α : Type} {x y z : α} {l : List α} : atI (x :: y :: z :: l) 2 = some z := (atN (i := 2)).trans rfl
theorem at3 {α : Type} {x y z u : α} {l : List α} : atI (x :: y :: z :: u :: l) 3 = some u := (atN (i := 3)).trans rfl
theorem at4 {α : Type} {x y z u v : α} {l : List α} : atI (x :: y :: z :: u :: v :: l) 4 = some v := (atN (i := 4)).trans rfl
theorem at5 {α : Type} {x y z u v w : α} {l : List α} : atI (x :: y :: z :: u :: v :: w :: l) 5 = some w := (atN (i := 5)).trans rfl
theorem ixN_n {n i : Nat} (h : i < n) : ixN n (i : Int) = some i := by
  unfold ixN
  rw [if_pos (by omega), if_pos (by omega)]; simp
theorem ix0 {n : Nat} : ixN (n + 1) 0 = some 0 := ixN_n (i := 0) (by omega)
theorem ix1 {n : Nat} : ixN (n + 1 + 1) 1 = some 1 := ixN_n (i := 1) (by omega)
theorem ix2 {n : Nat} : ixN (n + 1 + 1 + 1) 2 = some 2 := ixN_n (i := 2) (by omega)
theorem ix3 {n : Nat} : ixN (n + 1 + 1 + 1 + 1) 3 = some 3 := ixN_n (i := 3) (by omega)
theorem mulL {i j : Int} (h : -(2 ^ 64) < j ∧ j < 2 ^ 64) : CMulA i j := .inl (.inr h)
theorem mulR {i j : Int} (h : -(2 ^ 64) < i ∧ i < 2 ^ 64) : CMulA i j := .inl (.inl h)
/-- t, then u: what holds between them -/
theorem zSeq_key {t u : ZS} {D : ZEnds} {ρ : Ev} {h : PH} (P : Ev → PH → Prop) (key : ∀ ρ' h', P ρ' h' → u D ρ' h') (run : ∀ X : Ev → PH → Prop, (∀ ρ' h', P ρ' h' → X ρ' h') → t { D with nx := X } ρ h) : zSeq t u D ρ h := run (u D) key
/-- the addresses outside M keep what they hold -/
def Fr (M : List Addr) (h h' : PH) : Prop := ∀ b, b ∉ M → h' b = h b
theorem Fr.refl (M : List Addr) (h : PH) : Fr M h h := fun _ _ => rfl
theorem Fr.trans {M : List Addr} {a b c : PH} (x : Fr M a b) (y : Fr M b c) : Fr M a c := fun p n => (y p n).trans (x p n)
/-- .. keep at least what they held -/
def Kp (M : List Addr) (h h' : PH) : Prop := ∀ b o, b ∉ M → h b = some o → h' b = some o
theorem Kp.refl (M : List Addr) (h : PH) : Kp M h h := fun _ _ _ e => e
theorem Kp.trans {M : List Addr} {a b c : PH} (x : Kp M a b) (y : Kp M b c) : Kp M a c := fun p o n e => y p o n (x p o n e)
theorem Fr.kp {M : List Addr} {a b : PH} (x : Fr M a b) : Kp M a b := fun p o n e => (x p n).trans e
theorem kp_new {M : List Addr} {h : PH} {p : Addr} {o : PO} (n : h p = none) : Kp M h (up h p o) := fun b v _ e => by
  have hb : b ≠ p := fun z => by rw [z, n] at e; cases e
  rw [up_ne hb]; exact e
theorem Kp.new {M : List Addr} {h h1 : PH} {p : Addr} {o : PO} (k : Kp M h h1) (n : h1 p = none) : Kp M h (up h1 p o) := k.trans (kp_new n)
theorem Kp.put {M : List Addr} {h h1 : PH} {p : Addr} {o : PO} (k : Kp M h h1) (m : p ∈ M) : Kp M h (up h1 p o) := fun b v n e => by
  have hb : b ≠ p := fun z => n (z ▸ m)
  rw [up_ne hb]; exact k b v n e
/-- .. an object that was not there at the start -/
theorem Kp.put0 {M : List Addr} {h h1 : PH} {p : Addr} {o : PO} (k : Kp M h h1) (m : h p = none) : Kp M h (up h1 p o) := fun b v n e => by
  have hb : b ≠ p := fun z => by rw [z, m] at e; cases e
  rw [up_ne hb]; exact k b v n e
/-- the heap behind a def: outside M as it was -/
def back (M : List Addr) (h h' : PH) : PH := fun b => if b ∈ M then h' b else h b
theorem back_sub {M : List Addr} {h h' : PH} (k : Kp M h h') : Sub (back M h h') h' := fun b o e => by
  unfold back at e
  split at e
  · exact e
  · rename_i n; exact k b o n e
theorem back_fr {M : List Addr} {h h' : PH} : Fr M h (back M h h') := fun b n => by unfold back; rw [if_neg n]
theorem back_in {M : List Addr} {h h' : PH} {b : Addr} (m : b ∈ M) : back M h h' b = h' b := by unfold back; rw [if_pos m]
/-- nothing changed: a def that answers a tree -/
theorem sub_of_kp {h h' : PH} (k : Kp [] h h') : Sub h h' := fun b o e => k b o (by simp) e

/-! ### the draws -/
/-- the state of the draws at s, its script at a -/
def DS (a : Addr) (ns : List Int) (s : Addr) (h : PH) : Prop := a ≠ s ∧ h a = some (.lst (ns.map .int)) ∧ ∃ (i c n : Int), h s = some (.lst [.ref a, .int i, .int c, .int n])
section
variable {a s p : Addr} {ns : List Int} {h h' : PH} {o : PO} {M : List Addr}
theorem DS.ne (d : DS a ns s h) (n : h p = none) : p ≠ s := by
  obtain ⟨_, _, i, c, m, e⟩ := d
  rintro rfl; rw [n] at e; cases e
theorem DS.nea (d : DS a ns s h) (n : h p = none) : p ≠ a := by
  obtain ⟨_, e, _⟩ := d
  rintro rfl; rw [n] at e; cases e
theorem DS.put (d : DS a ns s h) (n1 : p ≠ a) (n2 : p ≠ s) : DS a ns s (up h p o) := by
  obtain ⟨x, y, i, c, m, e⟩ := d
  exact ⟨x, by rw [up_ne n1.symm]; exact y, i, c, m, by rw [up_ne n2.symm]; exact e⟩
theorem DS.new (d : DS a ns s h) (n : h p = none) : DS a ns s (up h p o) := d.put (d.nea n) (d.ne n)
theorem DS.back (d : DS a ns s h) (d' : DS a ns s h') (m : s ∈ M) (n : a ∉ M) : DS a ns s (back M h h') := by
  obtain ⟨x, y, _⟩ := d
  obtain ⟨_, _, i, c, k, e⟩ := d'
  exact ⟨x, by unfold G.back; rw [if_neg n]; exact y, i, c, k, by rw [back_in m]; exact e⟩
/-- the way out of a def whose draws changed s alone -/
theorem DS.out {Q : QV} {v : PV} (d : DS a ns s h) (d' : DS a ns s h') (k : Kp [s] h h') (q : ∀ h2, DS a ns s h2 → Fr [s] h h2 → Q v h2) : ∃ h2, Sub h2 h' ∧ Q v h2 :=
  ⟨G.back [s] h h', back_sub k, q _ (d.back d' (by simp) (by simpa using d.1)) back_fr⟩
end
end G

namespace G
open PySem PySem.Spec PyProof.Rows L2

/-! ### loops by invariants -/
def ForW (Z : ZIt) (g : ZG) (tb : ZS) (D : ZEnds) (ρ : Ev) (h1 : PH) : Prop := ∃ W : Nat → Nat → Ev → PH → Prop, (∃ m, W 0 m ρ h1) ∧ ∀ i m ρ h, W i m ρ h →
  (Z.stop i h ∧ D.nx ρ h) ∨ (Z.go i h ∧ ∃ N : Ev → PH → Prop, (∀ ρ' h', N ρ' h' → ∃ m' h2, m' < m ∧ Sub h2 h' ∧ W (i + 1) m' ρ' h2) ∧ ∀ p, Z.yld i h p → g p ρ h fun ρ2 h2 => tb { D with nx := N, ct := N, bk := D.nx } ρ2 h2)
theorem zFor_x {wz : ZSrc} {g : ZG} {tb : ZS} {D : ZEnds} {ρ : Ev} {h : PH} : zFor wz g tb D ρ h = wz ρ h fun Z h1 => ForW Z g tb D ρ h1 := rfl
def zsAnyO (a : Addr) : Option PO → PH → (ZIt → PH → Prop) → Prop
  | some (.lst _), h1, R => R (ZitL a) h1
  | some (.dic false (some lk) kvs), h1, R => R (ZitK a false lk kvs) h1
  | _, _, _ => False
def zsAnyI (p : PV) (h1 : PH) (R : ZIt → PH → Prop) : Prop := match p with
  | .tup ps => R (ZitV ps) h1
  | .ref a => zsAnyO a (h1 a) h1 R
  | _ => False
theorem zsAny_x {te : ZE} {ρ : Ev} {h : PH} {R : ZIt → PH → Prop} : zsAny te ρ h R = te ρ h fun p h1 => zsAnyI p h1 R := by
  unfold zsAny
  congr 1
  funext p h1
  cases p <;> simp only [zsAnyI]
  rename_i a
  cases h1 a with
  | none => rfl
  | some o =>
    cases o with
    | lst _ => rfl
    | dic t l _ => cases t <;> cases l <;> rfl
theorem zsAnyI_t {ps : List PV} {h : PH} {R : ZIt → PH → Prop} : zsAnyI (.tup ps) h R = R (ZitV ps) h := rfl
theorem zsAnyI_r {a : Addr} {h : PH} {R : ZIt → PH → Prop} : zsAnyI (.ref a) h R = zsAnyO a (h a) h R := rfl
theorem zsAnyO_l {a : Addr} {xs : List PV} {h : PH} {R : ZIt → PH → Prop} : zsAnyO a (some (.lst xs)) h R = R (ZitL a) h := rfl
theorem zsAnyO_d {a : Addr} {lk : Obj × HO} {kvs : List (PV × PV)} {h : PH} {R : ZIt → PH → Prop} : zsAnyO a (some (.dic false (some lk) kvs)) h R = R (ZitK a false lk kvs) h := rfl
def zsR1I (ps : List PV) (h1 : PH) (R : ZIt → PH → Prop) : Prop := match ps with
  | [.int j] => -(2 ^ 62) ≤ j ∧ j < 2 ^ 62 ∧ R (ZitR 0 j.toNat) h1
  | _ => False
theorem zsR1_x {ta : ZA} {ρ : Ev} {h : PH} {R : ZIt → PH → Prop} : zsR1 ta ρ h R = ta ρ h fun ps h1 => zsR1I ps h1 R := rfl
theorem zsR1I_i {j : Int} {h : PH} {R : ZIt → PH → Prop} : zsR1I [.int j] h R = (-(2 ^ 62) ≤ j ∧ j < 2 ^ 62 ∧ R (ZitR 0 j.toNat) h) := rfl
def zsR2I (ps : List PV) (h1 : PH) (R : ZIt → PH → Prop) : Prop := match ps with
  | [.int i, .int j] => (-(2 ^ 62) ≤ i ∧ i < 2 ^ 62 ∧ -(2 ^ 62) ≤ j ∧ j < 2 ^ 62) ∧ R (ZitR i (j - i).toNat) h1
  | _ => False
theorem zsR2_x {ta : ZA} {ρ : Ev} {h : PH} {R : ZIt → PH → Prop} : zsR2 ta ρ h R = ta ρ h fun ps h1 => zsR2I ps h1 R := rfl
theorem zsR2I_i {i j : Int} {h : PH} {R : ZIt → PH → Prop} : zsR2I [.int i, .int j] h R = ((-(2 ^ 62) ≤ i ∧ i < 2 ^ 62 ∧ -(2 ^ 62) ≤ j ∧ j < 2 ^ 62) ∧ R (ZitR i (j - i).toNat) h) := rfl
section
variable {g : ZG} {tb : ZS} {D : ZEnds} {ρ : Ev} {h : PH}
/-- what a turn's body is to reach -/
abbrev turnD (D : ZEnds) (N : Ev → PH → Prop) : ZEnds := { D with nx := fun ρ' h' => ∃ h2, Sub h2 h' ∧ N ρ' h2, ct := fun ρ' h' => ∃ h2, Sub h2 h' ∧ N ρ' h2, bk := D.nx }
theorem forW_gen {Z : ZIt} (n : Nat) (I : Nat → Ev → PH → Prop) (h0 : I 0 ρ h) (go : ∀ i ρ h, i < n → I i ρ h → Z.go i h) (stop : ∀ ρ h, I n ρ h → Z.stop n h)
    (step : ∀ i ρ h p, i < n → I i ρ h → Z.yld i h p → g p ρ h fun ρ2 h2 => tb (turnD D (I (i + 1))) ρ2 h2) (fin : ∀ ρ h, I n ρ h → D.nx ρ h) : ForW Z g tb D ρ h := by
  refine ⟨fun i m ρ h => m = n - i ∧ i ≤ n ∧ I i ρ h, ⟨n, by simp, Nat.zero_le _, h0⟩, ?_⟩
  rintro i m ρ h ⟨rfl, hi, q⟩
  by_cases hlt : i < n
  · exact .inr ⟨go i ρ h hlt q, fun ρ' h' => ∃ h2, Sub h2 h' ∧ I (i + 1) ρ' h2, fun ρ' h' ⟨h2, u, z⟩ => ⟨n - (i + 1), h2, by omega, u, rfl, hlt, z⟩, fun p y => step i ρ h p hlt q y⟩
  · have e : i = n := by omega
    subst e
    exact .inl ⟨stop ρ h q, fin ρ h q⟩
theorem forW_V {ps : List PV} (I : Nat → Ev → PH → Prop) (h0 : I 0 ρ h) (step : ∀ i ρ h p, ps[i]? = some p → I i ρ h → g p ρ h fun ρ2 h2 => tb (turnD D (I (i + 1))) ρ2 h2) (fin : ∀ ρ h, I ps.length ρ h → D.nx ρ h) : ForW (ZitV ps) g tb D ρ h :=
  forW_gen ps.length I h0 (fun _ _ _ hi _ => hi) (fun _ _ _ => Nat.le_refl _) (fun i ρ h p _ q y => step i ρ h p y q) fin
theorem forW_R {lo : Int} {n : Nat} (I : Nat → Ev → PH → Prop) (h0 : I 0 ρ h) (step : ∀ i ρ h, i < n → I i ρ h → g (.int (lo + i)) ρ h fun ρ2 h2 => tb (turnD D (I (i + 1))) ρ2 h2) (fin : ∀ ρ h, I n ρ h → D.nx ρ h) : ForW (ZitR lo n) g tb D ρ h :=
  forW_gen n I h0 (fun _ _ _ hi _ => hi) (fun _ _ _ => Nat.le_refl _) (fun i ρ h p hi q y => by have e : p = .int (lo + i) := y; subst e; exact step i ρ h hi q) fin
/-- over a list that stays -/
theorem forW_L {a : Addr} {ps : List PV} (I : Nat → Ev → PH → Prop) (h0 : I 0 ρ h) (stay : ∀ i ρ h, i ≤ ps.length → I i ρ h → h a = some (.lst ps)) (step : ∀ i ρ h p, ps[i]? = some p → I i ρ h → g p ρ h fun ρ2 h2 => tb (turnD D (I (i + 1))) ρ2 h2) (fin : ∀ ρ h, I ps.length ρ h → D.nx ρ h) : ForW (ZitL a) g tb D ρ h :=
  forW_gen ps.length I h0 (fun i ρ h hi q => ⟨ps, ps[i], stay i ρ h (Nat.le_of_lt hi) q, List.getElem?_eq_getElem hi⟩) (fun ρ h q => ⟨ps, stay _ ρ h (Nat.le_refl _) q, Nat.le_refl _⟩)
    (fun i ρ h p hi q y => step i ρ h p (y ps (stay i ρ h (Nat.le_of_lt hi) q)) q) fin
/-- over the keys of a locked dict -/
theorem forW_K {a : Addr} {t : Bool} {lk : Obj × HO} {kvs : List (PV × PV)} (I : Nat → Ev → PH → Prop) (h0 : I 0 ρ h) (stay : ∀ i ρ h, i ≤ kvs.length → I i ρ h → h a = some (.dic t (some lk) kvs)) (step : ∀ i ρ h kv, kvs[i]? = some kv → I i ρ h → g kv.1 ρ h fun ρ2 h2 => tb (turnD D (I (i + 1))) ρ2 h2)
    (fin : ∀ ρ h, I kvs.length ρ h → D.nx ρ h) : ForW (ZitK a t lk kvs) g tb D ρ h :=
  forW_gen kvs.length I h0 (fun i ρ h hi q => ⟨stay i ρ h (Nat.le_of_lt hi) q, hi⟩) (fun ρ h q => ⟨stay _ ρ h (Nat.le_refl _) q, Nat.le_refl _⟩)
    (fun i ρ h p hi q y => by obtain ⟨kv, e, rfl⟩ := y; exact step i ρ h kv e q) fin
theorem while_turn {I : Nat → Ev → PH → Prop} {m : Nat} (t : tb (turnD D (fun ρ' h2 => ∃ m', m' < m ∧ I m' ρ' h2)) ρ h) :
    ∃ N : Ev → PH → Prop, (∀ ρ' h', N ρ' h' → ∃ m' h2, m' < m ∧ Sub h2 h' ∧ I m' ρ' h2) ∧ tb { D with nx := N, ct := N, bk := D.nx } ρ h :=
  ⟨fun ρ' h' => ∃ h2, Sub h2 h' ∧ ∃ m', m' < m ∧ I m' ρ' h2, fun ρ' h' ⟨h2, u, m', l, q⟩ => ⟨m', h2, l, u, q⟩, t⟩
end

/-! ### comprehensions -/
def LcW (Z : ZIt) (g : ZG) (tt : ZT) (te : ZE) (ρ' : Ev) (h1 : PH) (Q : List PV → PH → Prop) : Prop := ∃ W : Nat → Nat → List PV → PH → Prop, (∃ m, W 0 m [] h1) ∧ ∀ i m acc h, W i m acc h →
  (Z.stop i h ∧ Q acc h) ∨ (Z.go i h ∧ acc.length < sizeLine ∧ ∃ Nx : List PV → PH → Prop, (∀ acc' h', Nx acc' h' → ∃ m' h2, m' < m ∧ Sub h2 h' ∧ W (i + 1) m' acc' h2) ∧
    ∀ p, Z.yld i h p → g p ρ' h fun ρ2 h2 => tt ρ2 h2 fun b h3 => if b = true then te ρ2 h3 fun y h4 => Nx (acc ++ [y]) h4 else Nx acc h3)
theorem zLc_x {wz : ZSrc} {g : ZG} {tt : ZT} {te : ZE} {vs : List Nat} {ρ : Ev} {h : PH} {Q : QV} : zLc wz g tt te vs ρ h Q = wz ρ h fun Z h1 => LcW Z g tt te (zwipe ρ vs) h1 fun acc h' => ∀ D, h' D = none → Q (.ref D) (up h' D (.lst acc)) := rfl
section
variable {g : ZG} {tt : ZT} {te : ZE} {ρ : Ev} {h : PH} {Q : List PV → PH → Prop}
theorem lcW_gen {Z : ZIt} (n : Nat) (hn : n ≤ sizeLine) (I : Nat → List PV → PH → Prop) (h0 : I 0 [] h) (len : ∀ i acc h, I i acc h → acc.length ≤ i) (go : ∀ i acc h, i < n → I i acc h → Z.go i h) (stop : ∀ acc h, I n acc h → Z.stop n h)
    (step : ∀ i acc h p, i < n → I i acc h → Z.yld i h p → g p ρ h fun ρ2 h2 => tt ρ2 h2 fun b h3 => if b = true then te ρ2 h3 fun y h4 => ∃ h5, Sub h5 h4 ∧ I (i + 1) (acc ++ [y]) h5 else ∃ h5, Sub h5 h3 ∧ I (i + 1) acc h5)
    (fin : ∀ acc h, I n acc h → Q acc h) : LcW Z g tt te ρ h Q := by
  refine ⟨fun i m acc h => m = n - i ∧ i ≤ n ∧ I i acc h, ⟨n, by simp, Nat.zero_le _, h0⟩, ?_⟩
  rintro i m acc h ⟨rfl, hi, q⟩
  by_cases hlt : i < n
  · refine .inr ⟨go i acc h hlt q, by have := len i acc h q; omega, fun acc' h' => ∃ h5, Sub h5 h' ∧ I (i + 1) acc' h5, fun acc' h' ⟨h2, u, z⟩ => ⟨n - (i + 1), h2, by omega, u, rfl, hlt, z⟩, fun p y => step i acc h p hlt q y⟩
  · have e : i = n := by omega
    subst e
    exact .inl ⟨stop acc h q, fin acc h q⟩
theorem lcW_V {ps : List PV} (hn : ps.length ≤ sizeLine) (I : Nat → List PV → PH → Prop) (h0 : I 0 [] h) (len : ∀ i acc h, I i acc h → acc.length ≤ i)
    (step : ∀ i acc h p, ps[i]? = some p → I i acc h → g p ρ h fun ρ2 h2 => tt ρ2 h2 fun b h3 => if b = true then te ρ2 h3 fun y h4 => ∃ h5, Sub h5 h4 ∧ I (i + 1) (acc ++ [y]) h5 else ∃ h5, Sub h5 h3 ∧ I (i + 1) acc h5)
    (fin : ∀ acc h, I ps.length acc h → Q acc h) : LcW (ZitV ps) g tt te ρ h Q := lcW_gen ps.length hn I h0 len (fun _ _ _ hi _ => hi) (fun _ _ _ => Nat.le_refl _) (fun i acc h p _ q y => step i acc h p y q) fin
theorem lcW_R {lo : Int} {n : Nat} (hn : n ≤ sizeLine) (I : Nat → List PV → PH → Prop) (h0 : I 0 [] h) (len : ∀ i acc h, I i acc h → acc.length ≤ i)
    (step : ∀ i acc h, i < n → I i acc h → g (.int (lo + i)) ρ h fun ρ2 h2 => tt ρ2 h2 fun b h3 => if b = true then te ρ2 h3 fun y h4 => ∃ h5, Sub h5 h4 ∧ I (i + 1) (acc ++ [y]) h5 else ∃ h5, Sub h5 h3 ∧ I (i + 1) acc h5)
    (fin : ∀ acc h, I n acc h → Q acc h) : LcW (ZitR lo n) g tt te ρ h Q := lcW_gen n hn I h0 len (fun _ _ _ hi _ => hi) (fun _ _ _ => Nat.le_refl _) (fun i acc h p hi q y => by have e : p = .int (lo + i) := y; subst e; exact step i acc h hi q) fin
theorem lcW_L {a : Addr} {ps : List PV} (hn : ps.length ≤ sizeLine) (I : Nat → List PV → PH → Prop) (h0 : I 0 [] h) (len : ∀ i acc h, I i acc h → acc.length ≤ i) (stay : ∀ i acc h, i ≤ ps.length → I i acc h → h a = some (.lst ps))
    (step : ∀ i acc h p, ps[i]? = some p → I i acc h → g p ρ h fun ρ2 h2 => tt ρ2 h2 fun b h3 => if b = true then te ρ2 h3 fun y h4 => ∃ h5, Sub h5 h4 ∧ I (i + 1) (acc ++ [y]) h5 else ∃ h5, Sub h5 h3 ∧ I (i + 1) acc h5)
    (fin : ∀ acc h, I ps.length acc h → Q acc h) : LcW (ZitL a) g tt te ρ h Q :=
  lcW_gen ps.length hn I h0 len (fun i acc h hi q => ⟨ps, ps[i], stay i acc h (Nat.le_of_lt hi) q, List.getElem?_eq_getElem hi⟩) (fun acc h q => ⟨ps, stay _ acc h (Nat.le_refl _) q, Nat.le_refl _⟩)
    (fun i acc h p hi q y => step i acc h p (y ps (stay i acc h (Nat.le_of_lt hi) q)) q) fin
/-- nothing but values: b tells what is kept, f what is put -/
abbrev Pure (g : ZG) (tt : ZT) (te : ZE) (ρ : Ev) (h : PH) (b : PV → Bool) (f : PV → PV) (p : PV) : Prop := ∀ (R : List PV → PH → Prop) (acc : List PV), (if b p = true then R (acc ++ [f p]) h else R acc h) →
  g p ρ h fun ρ2 h2 => tt ρ2 h2 fun b h3 => if b = true then te ρ2 h3 fun y h4 => R (acc ++ [y]) h4 else R acc h3
theorem filt_len {b : PV → Bool} {f : PV → PV} (l : List PV) (i : Nat) : (((l.take i).filter b).map f).length ≤ i := by
  rw [List.length_map]
  exact Nat.le_trans (List.length_filter_le _ _) (by rw [List.length_take]; omega)
theorem filt_step {b : PV → Bool} {f : PV → PV} {l : List PV} {i : Nat} {p : PV} (e : l[i]? = some p) : ((l.take (i + 1)).filter b).map f = if b p = true then ((l.take i).filter b).map f ++ [f p] else ((l.take i).filter b).map f := by
  rw [List.take_add_one, e]
  simp only [Option.toList_some, List.filter_append, List.map_append]
  by_cases h : b p = true
  · rw [if_pos h, List.filter_cons_of_pos h]; rfl
  · rw [if_neg h, List.filter_cons_of_neg h]; simp
theorem lcP_V {ps : List PV} (b : PV → Bool) (f : PV → PV) (hn : ps.length ≤ sizeLine) (pure : ∀ p ∈ ps, Pure g tt te ρ h b f p) (fin : Q ((ps.filter b).map f) h) : LcW (ZitV ps) g tt te ρ h Q := by
  refine lcW_V hn (fun i acc h' => h = h' ∧ acc = ((ps.take i).filter b).map f) ⟨rfl, rfl⟩ (fun i acc h' ⟨_, e⟩ => e ▸ filt_len ps i) (fun i acc h' p e ⟨e1, e2⟩ => ?_) fun acc h' ⟨e1, e2⟩ => ?_
  · subst e1 e2
    refine pure p (List.mem_of_getElem? e) (fun acc' h' => ∃ h5, Sub h5 h' ∧ h = h5 ∧ acc' = ((ps.take (i + 1)).filter b).map f) _ ?_
    rw [filt_step e]
    by_cases hb : b p = true
    · rw [if_pos hb, if_pos hb]; exact ⟨h, Sub.refl _, rfl, rfl⟩
    · rw [if_neg hb, if_neg hb]; exact ⟨h, Sub.refl _, rfl, rfl⟩
  · subst e1 e2; rw [List.take_length]; exact fin
theorem lcP_L {a : Addr} {ps : List PV} (b : PV → Bool) (f : PV → PV) (hn : ps.length ≤ sizeLine) (ha : h a = some (.lst ps)) (pure : ∀ p ∈ ps, Pure g tt te ρ h b f p) (fin : Q ((ps.filter b).map f) h) : LcW (ZitL a) g tt te ρ h Q := by
  refine lcW_L hn (fun i acc h' => h = h' ∧ acc = ((ps.take i).filter b).map f) ⟨rfl, rfl⟩ (fun i acc h' ⟨_, e⟩ => e ▸ filt_len ps i) (fun i acc h' _ ⟨e, _⟩ => e ▸ ha) (fun i acc h' p e ⟨e1, e2⟩ => ?_) fun acc h' ⟨e1, e2⟩ => ?_
  · subst e1 e2
    refine pure p (List.mem_of_getElem? e) (fun acc' h' => ∃ h5, Sub h5 h' ∧ h = h5 ∧ acc' = ((ps.take (i + 1)).filter b).map f) _ ?_
    rw [filt_step e]
    by_cases hb : b p = true
    · rw [if_pos hb, if_pos hb]; exact ⟨h, Sub.refl _, rfl, rfl⟩
    · rw [if_neg hb, if_neg hb]; exact ⟨h, Sub.refl _, rfl, rfl⟩
  · subst e1 e2; rw [List.take_length]; exact fin
theorem lcP_R {lo : Int} {n : Nat} (b : PV → Bool) (f : PV → PV) (hn : n ≤ sizeLine) (pure : ∀ i : Nat, i < n → Pure g tt te ρ h b f (.int (lo + i))) (fin : Q ((((List.range n).map fun i : Nat => PV.int (lo + i)).filter b).map f) h) : LcW (ZitR lo n) g tt te ρ h Q := by
  have hl : ((List.range n).map fun i : Nat => PV.int (lo + i)).length = n := by simp
  have base := lcP_V (ps := (List.range n).map fun i : Nat => PV.int (lo + i)) (g := g) (tt := tt) (te := te) (ρ := ρ) (h := h) (Q := Q) b f (by rw [hl]; exact hn) (fun p hp => by
    obtain ⟨i, hi, rfl⟩ := List.mem_map.mp hp
    exact pure i (List.mem_range.mp hi)) fin
  obtain ⟨W, w0, turn⟩ := base
  refine ⟨W, w0, fun i m acc h w => ?_⟩
  rcases turn i m acc h w with ⟨a, b⟩ | ⟨a, l, N, b, c⟩
  · exact .inl ⟨by simpa [ZitV, ZitR] using a, b⟩
  · have a' : i < n := by simpa [ZitV] using a
    exact .inr ⟨a', l, N, b, fun p y => c p (by
      have y' : p = .int (lo + i) := y
      subst y'
      simp [ZitV, a'])⟩
end
theorem zPairs_n {ρ : Ev} {h : PH} {Q : List (PV × PV) → PH → Prop} : zPairs [] ρ h Q = Q [] h := rfl
theorem zPairs_c {tk tv : ZE} {r : List (ZE × ZE)} {ρ : Ev} {h : PH} {Q : List (PV × PV) → PH → Prop} : zPairs ((tk, tv) :: r) ρ h Q = tk ρ h fun x h1 => tv ρ h1 fun y h2 => zPairs r ρ h2 fun ps h3 => Q ((x, y) :: ps) h3 := rfl
theorem zDispN_x {n : Nat} {trs : List (ZE × ZE)} {ρ : Ev} {h : PH} {Q : QV} : zDispN n trs ρ h Q = zPairs trs ρ h fun ps h2 => ps.length ≤ 15 ∧ (ps.all fun kv => kv.1.leaf) = true ∧ ∀ p, h2 p = none → Q (.ref p) (up h2 p (.dic false none (dputs [] ps))) := rfl
theorem zDn_x {ρ : Ev} {h : PH} {Q : QV} : zDn ρ h Q = ∃ t, ∀ p, h p = none → Q (.ref p) (up h p (.dic t none [])) := rfl
theorem cut_nn {α : Type} {xs : List α} {a b : Int} (h0 : 0 ≤ a) (h1 : 0 ≤ b) (h2 : a.toNat ≤ xs.length) : cut xs (some a) (some b) = (xs.drop a.toNat).take (b.toNat - a.toNat) := by
  have e1 : HT.sIx xs.length 0 (some a) = a.toNat := by
    show (if a < 0 then (a + (xs.length : Int)).toNat else min a.toNat xs.length) = _
    rw [if_neg (by omega)]; omega
  have e2 : HT.sIx xs.length xs.length (some b) = min b.toNat xs.length := by
    show (if b < 0 then (b + (xs.length : Int)).toNat else min b.toNat xs.length) = _
    rw [if_neg (by omega)]
  unfold cut
  rw [e1, e2]
  rcases Nat.le_total b.toNat xs.length with h | h
  · rw [Nat.min_eq_left h]
  · rw [Nat.min_eq_right h, List.take_of_length_le (by simp), List.take_of_length_le (by simp; omega)]
theorem cut_to {α : Type} {xs : List α} {b : Int} (h1 : 0 ≤ b) : cut xs none (some b) = xs.take b.toNat := by
  have e2 : HT.sIx xs.length xs.length (some b) = min b.toNat xs.length := by
    show (if b < 0 then (b + (xs.length : Int)).toNat else min b.toNat xs.length) = _
    rw [if_neg (by omega)]
  unfold cut
  rw [show HT.sIx xs.length 0 none = 0 from rfl, e2]
  rcases Nat.le_total b.toNat xs.length with h | h
  · rw [Nat.min_eq_left h]; simp
  · rw [Nat.min_eq_right h, List.take_of_length_le (by simp), List.take_of_length_le h]; simp
theorem cut_from {α : Type} {xs : List α} {a : Int} (h0 : 0 ≤ a) : cut xs (some a) none = xs.drop a.toNat := by
  have e1 : HT.sIx xs.length 0 (some a) = min a.toNat xs.length := by
    show (if a < 0 then (a + (xs.length : Int)).toNat else min a.toNat xs.length) = _
    rw [if_neg (by omega)]
  unfold cut
  rw [e1, show HT.sIx xs.length xs.length none = xs.length from rfl]
  rcases Nat.le_total a.toNat xs.length with h | h
  · rw [Nat.min_eq_left h, List.take_of_length_le (by simp)]
  · rw [Nat.min_eq_right h, List.drop_of_length_le (Nat.le_refl _), List.drop_of_length_le h]; simp
theorem dget_dput {kvs : List (PV × PV)} {k k' v : PV} : dget (dput kvs k v) k' = if k' = k then some v else dget kvs k' := by
  unfold dput
  by_cases ha : (kvs.any fun kv => decide (kv.1 = k)) = true
  · rw [if_pos ha]
    induction kvs with
    | nil => simp at ha
    | cons kv l ih =>
      by_cases e : kv.1 = k
      · by_cases e' : k' = k
        · subst e'; simp [dget, List.find?_cons, e]
        · have h1 : ¬ kv.1 = k' := fun z => e' (z.symm.trans e)
          rw [if_neg e']
          have tl : ∀ l : List (PV × PV), dget (l.map fun kv => if kv.1 = k then (kv.1, v) else kv) k' = dget l k' := by
            intro l
            induction l with
            | nil => rfl
            | cons x l ih2 =>
              by_cases hx : x.1 = k
              · have hx' : ¬ x.1 = k' := fun z => e' (z.symm.trans hx)
                simp only [List.map_cons, if_pos hx, dget, List.find?_cons, decide_eq_false hx'] at ih2 ⊢
                exact ih2
              · simp only [List.map_cons, if_neg hx, dget, List.find?_cons] at ih2 ⊢
                by_cases hx' : x.1 = k'
                · simp [hx']
                · simp only [decide_eq_false hx']; exact ih2
          exact tl (kv :: l)
      · have ha' : (l.any fun kv => decide (kv.1 = k)) = true := by simpa [e] using ha
        have ih := ih ha'
        simp only [List.map_cons, if_neg e, dget, List.find?_cons] at ih ⊢
        by_cases h1 : kv.1 = k'
        · have e' : ¬ k' = k := fun z => e (h1.trans z)
          simp [h1, e']
        · simp only [decide_eq_false h1]; exact ih
  · rw [if_neg ha]
    have hn : dget kvs k = none := by
      have := any_dget kvs k
      rw [Bool.not_eq_true] at ha
      rw [ha] at this
      cases h : dget kvs k with
      | none => rfl
      | some x => rw [h] at this; cases this
    unfold dget at hn ⊢
    rw [List.find?_append]
    by_cases e' : k' = k
    · subst e'
      rw [Option.map_eq_none_iff] at hn
      rw [hn]; simp
    · rw [if_neg e']
      cases h : kvs.find? (fun kv => decide (kv.1 = k')) with
      | none => simp; intro z; exact absurd z.symm e'
      | some x => simp
theorem len_dput_old {kvs : List (PV × PV)} {k v x : PV} (h : dget kvs k = some x) : (dput kvs k v).length = kvs.length := by
  unfold dput
  rw [any_dget, h]
  simp
end G

section
open PySem PySem.Spec PyProof.Rows L2 G
local macro_rules | `(tactic| simp! [$ts,*]) => `(tactic| try simp only [zEqO_l, zAddO_l, zEq_r, zEq_tt, zEq_ti, zEq_it, zIs_n, zIsN_n, zFn_x, zSeq_asg, zSeq_drop, zNext_x, zBrk_x, zCont_x, zDrop_x, zRet_x, zRetN_x, zIfS_x, zAsg_x, zgName_x, zgTup_t, zgCons_c, zgNil_n, zgSub_x, zVar_x, zC_x, z2_x, zAdd_i, zAdd_s, zAdd_t, zAdd_r, zSub_i, zDiv_i, zMod_i, zMul_i, zPow_i, zLt_i, zLe_i, zGt_i, zGe_i, zEq_str, zEq_int, zNe_str, zNe_int, zIx_r, zIx_t, zIx_s, zIxO_l, zIxO_d,   zSet_r, zSetO_l, zSetO_d, ztB_ok, ztBI_b, ztOf_x, ztAnd_x, ztOr_x, ztNot_x, ztYes_x, zTr_r, zTr_n, zTr_b, zTr_i, zTr_s, zTr_t, zTrO_l, zTrO_d, zAnd_x, zOr_x, zNt_x, zIf_x, zNeg_ok, zNegI_i, zaNil_x, zaCons_x, zTup_x, zLst_x, zSl_x, zoNone_x, zoSome_ok, zoI_i, zSlV_r, zSlV_t, zSlV_s, zSlO_l, zCall_x, zLen_r, zLen_t, zLen_s, zLenO_l, zLenO_d, zAbs_i, zInt_i, zInt_b, zMax_i, zMin_i,   zTupC_r, zTupC_t, zTupO_l, zListC_r, zListC_t, zListC_s, zListO_l, zListO_d, zSum_r, zSumO_l, zAll_r, zAllO_l, zSorted_r, zSortO_l, zInn_x, zHas_r, zHas_t, zHasO_l, zHasO_d, zMt_r, tyP_r, tyO_l, tyO_d, zAppend_r, zAppO_l, zIsa_ok, zIsa_n, zIsa_b, zIsa_i, zIsa_s, zIsa_t, up_same, up_up, at0, at1, at2, at3, at4, at5, ix0, ix1, ix2, ix3,   List.getElem?_cons_zero, List.getElem?_cons_succ, List.set_cons_zero, List.set_cons_succ, List.map_cons, List.map_nil, List.cons_append, List.nil_append, List.replicate, List.length_cons, List.length_nil, Option.some.injEq, exists_eq_left', true_and, and_true, Nat.reduceAdd, Nat.reduceSub, PO.lst.injEq, decide_true, decide_false, if_true, Bool.false_eq_true, if_false, reduceCtorEq, $ts,*])
local macro_rules | `(tactic| dsimp! [$ts,*]) => `(tactic| simp! [zDispN_x, zPairs_n, zPairs_c, zFor_x, zsAny_x, zsAnyI_t, zsAnyI_r, zsAnyO_l, zsAnyO_d, zsR1_x, zsR1I_i, zsR2_x, zsR2I_i, zLc_x, Tg.z, Tgs.z, Tgs.len, zwipe, $ts,*])
local macro_rules | `(tactic| simp_all! [$ts,*]) => `(tactic| (dsimp! [List.cons.injEq, Nat.reduceEqDiff, false_and, and_false, decide_false, $ts,*]; repeat (rw [zSeq_x]; dsimp! [List.cons.injEq, Nat.reduceEqDiff, false_and, and_false, decide_false, $ts,*])))
/-! ### toldinwaves_k74_tidy_sums: the text -/
namespace K74
open PySem PySem.Spec PyProof.Rows L2 G
def top (i : Nat) : Stmt := PySem.Challenge.pw_toldinwaves_k74_tidy_sums.main.body.getD i (.Pass ⟨0, 0, 0, 0⟩)
abbrev s_added : Stmt := top 2
def N_added : List Str := ["one", "other", "factor", "rows", "pairs", "atom", "number", "pair"]
theorem S_added : FnScope N_added ["one", "other", "factor"] (defScope s_added) := ⟨rfl, rfl, rfl, by decide +kernel, rfl, by decide +kernel, by decide +kernel⟩
abbrev s_alone : Stmt := top 3
def N_alone : List Str := ["atom"]
theorem S_alone : FnScope N_alone ["atom"] (defScope s_alone) := ⟨rfl, rfl, rfl, by decide +kernel, rfl, by decide +kernel, by decide +kernel⟩
abbrev s_spread_out : Stmt := top 4
def N_spread_out : List Str := ["kind", "sums", "found", "one", "inner"]
theorem S_spread_out : FnScope N_spread_out ["kind", "sums"] (defScope s_spread_out) := ⟨rfl, rfl, rfl, by decide +kernel, rfl, by decide +kernel, by decide +kernel⟩
abbrev s_chosen : Stmt := top 5
def N_chosen : List Str := ["kind", "sums", "left", "rows", "constant", "pairs", "other", "known"]
theorem S_chosen : FnScope N_chosen ["kind", "sums"] (defScope s_chosen) := ⟨rfl, rfl, rfl, by decide +kernel, rfl, by decide +kernel, by decide +kernel⟩
abbrev s_picked : Stmt := top 6
def N_picked : List Str := ["sign", "compared", "yes", "no", "holds"]
theorem S_picked : FnScope N_picked ["sign", "compared", "yes", "no"] (defScope s_picked) := ⟨rfl, rfl, rfl, by decide +kernel, rfl, by decide +kernel, by decide +kernel⟩
abbrev s_forward : Stmt := top 7
def N_forward : List Str := ["compared"]
theorem S_forward : FnScope N_forward ["compared"] (defScope s_forward) := ⟨rfl, rfl, rfl, by decide +kernel, rfl, by decide +kernel, by decide +kernel⟩
abbrev s_tidy_pick : Stmt := top 8
def N_tidy_pick : List Str := ["sign", "left", "right", "yes", "no", "compared"]
theorem S_tidy_pick : FnScope N_tidy_pick ["sign", "left", "right", "yes", "no"] (defScope s_tidy_pick) := ⟨rfl, rfl, rfl, by decide +kernel, rfl, by decide +kernel, by decide +kernel⟩
abbrev s_tidy_sum : Stmt := top 9
def N_tidy_sum : List Str := ["expression", "kind", "parts", "left", "right", "part"]
theorem S_tidy_sum : FnScope N_tidy_sum ["expression"] (defScope s_tidy_sum) := ⟨rfl, rfl, rfl, by decide +kernel, rfl, by decide +kernel, by decide +kernel⟩
abbrev s__law_start : Stmt := top 11
def N__law_start : List Str := ["script"]
theorem S__law_start : FnScope N__law_start ["script"] (defScope s__law_start) := ⟨rfl, rfl, rfl, by decide +kernel, rfl, by decide +kernel, by decide +kernel⟩
abbrev s__law_draw : Stmt := top 12
def N__law_draw : List Str := ["state", "most", "found", "cell", "mixed"]
theorem S__law_draw : FnScope N__law_draw ["state", "most"] (defScope s__law_draw) := ⟨rfl, rfl, rfl, by decide +kernel, rfl, by decide +kernel, by decide +kernel⟩
abbrev s__law_one_of : Stmt := top 13
def N__law_one_of : List Str := ["state", "items"]
theorem S__law_one_of : FnScope N__law_one_of ["state", "items"] (defScope s__law_one_of) := ⟨rfl, rfl, rfl, by decide +kernel, rfl, by decide +kernel, by decide +kernel⟩
abbrev s__law_words : Stmt := top 14
def N__law_words : List Str := ["state", "many", "letters", "start", "step", "shared", "k"]
theorem S__law_words : FnScope N__law_words ["state", "many"] (defScope s__law_words) := ⟨rfl, rfl, rfl, by decide +kernel, rfl, by decide +kernel, by decide +kernel⟩
abbrev s__law_is_int : Stmt := top 15
def N__law_is_int : List Str := ["x"]
theorem S__law_is_int : FnScope N__law_is_int ["x"] (defScope s__law_is_int) := ⟨rfl, rfl, rfl, by decide +kernel, rfl, by decide +kernel, by decide +kernel⟩
abbrev s__law_same : Stmt := top 16
def N__law_same : List Str := ["x", "y", "k"]
theorem S__law_same : FnScope N__law_same ["x", "y"] (defScope s__law_same) := ⟨rfl, rfl, rfl, by decide +kernel, rfl, by decide +kernel, by decide +kernel⟩
abbrev s__law_offsets : Stmt := top 17
def N__law_offsets : List Str := ["state", "many", "most", "k"]
theorem S__law_offsets : FnScope N__law_offsets ["state", "many", "most"] (defScope s__law_offsets) := ⟨rfl, rfl, rfl, by decide +kernel, rfl, by decide +kernel, by decide +kernel⟩
abbrev s__law_some_part : Stmt := top 18
def N__law_some_part : List Str := ["state", "w", "depth", "pick", "one", "other", "sign"]
theorem S__law_some_part : FnScope N__law_some_part ["state", "w", "depth"] (defScope s__law_some_part) := ⟨rfl, rfl, rfl, by decide +kernel, rfl, by decide +kernel, by decide +kernel⟩
abbrev s__law_leaf : Stmt := top 19
def N__law_leaf : List Str := ["state", "w", "pick", "other", "offsets"]
theorem S__law_leaf : FnScope N__law_leaf ["state", "w"] (defScope s__law_leaf) := ⟨rfl, rfl, rfl, by decide +kernel, rfl, by decide +kernel, by decide +kernel⟩
abbrev s__law_slope : Stmt := top 20
def N__law_slope : List Str := ["w", "name", "other", "offsets", "total", "k"]
theorem S__law_slope : FnScope N__law_slope ["w", "name", "other", "offsets"] (defScope s__law_slope) := ⟨rfl, rfl, rfl, by decide +kernel, rfl, by decide +kernel, by decide +kernel⟩
abbrev s__law_rim : Stmt := top 21
def N__law_rim : List Str := ["state"]
theorem S__law_rim : FnScope N__law_rim ["state"] (defScope s__law_rim) := ⟨rfl, rfl, rfl, by decide +kernel, rfl, by decide +kernel, by decide +kernel⟩
abbrev s__law_given_row : Stmt := top 22
def N__law_given_row : List Str := ["state", "name", "rim", "low", "high"]
theorem S__law_given_row : FnScope N__law_given_row ["state", "name"] (defScope s__law_given_row) := ⟨rfl, rfl, rfl, by decide +kernel, rfl, by decide +kernel, by decide +kernel⟩
abbrev s__law_table_world : Stmt := top 23
def N__law_table_world : List Str := ["state", "many", "rules", "givens", "words", "w"]
theorem S__law_table_world : FnScope N__law_table_world ["state", "many", "rules", "givens"] (defScope s__law_table_world) := ⟨rfl, rfl, rfl, by decide +kernel, rfl, by decide +kernel, by decide +kernel⟩
abbrev s__law_with_row : Stmt := top 24
def N__law_with_row : List Str := ["state", "w", "least", "name", "k"]
theorem S__law_with_row : FnScope N__law_with_row ["state", "w", "least"] (defScope s__law_with_row) := ⟨rfl, rfl, rfl, by decide +kernel, rfl, by decide +kernel, by decide +kernel⟩
abbrev s__law_rules_of : Stmt := top 25
def N__law_rules_of : List Str := ["state", "w", "depth", "rules", "name", "givens"]
theorem S__law_rules_of : FnScope N__law_rules_of ["state", "w", "depth"] (defScope s__law_rules_of) := ⟨rfl, rfl, rfl, by decide +kernel, rfl, by decide +kernel, by decide +kernel⟩
abbrev s__law_any_table : Stmt := top 26
def N__law_any_table : List Str := ["state", "w"]
theorem S__law_any_table : FnScope N__law_any_table ["state"] (defScope s__law_any_table) := ⟨rfl, rfl, rfl, by decide +kernel, rfl, by decide +kernel, by decide +kernel⟩
abbrev s__law_refs : Stmt := top 27
def N__law_refs : List Str := ["e", "found", "part"]
theorem S__law_refs : FnScope N__law_refs ["e"] (defScope s__law_refs) := ⟨rfl, rfl, rfl, by decide +kernel, rfl, by decide +kernel, by decide +kernel⟩
abbrev s__law_tidy_add : Stmt := top 28
def N__law_tidy_add : List Str := ["one", "other", "factor", "atoms", "numbers", "atom", "number", "k", "pairs"]
theorem S__law_tidy_add : FnScope N__law_tidy_add ["one", "other", "factor"] (defScope s__law_tidy_add) := ⟨rfl, rfl, rfl, by decide +kernel, rfl, by decide +kernel, by decide +kernel⟩
abbrev s__law_tidy_many : Stmt := top 29
def N__law_tidy_many : List Str := ["kind", "sums", "flat", "one", "kept", "same", "k"]
theorem S__law_tidy_many : FnScope N__law_tidy_many ["kind", "sums"] (defScope s__law_tidy_many) := ⟨rfl, rfl, rfl, by decide +kernel, rfl, by decide +kernel, by decide +kernel⟩
abbrev s__law_tidy_pick : Stmt := top 30
def N__law_tidy_pick : List Str := ["sign", "one", "other", "yes", "no", "compared"]
theorem S__law_tidy_pick : FnScope N__law_tidy_pick ["sign", "one", "other", "yes", "no"] (defScope s__law_tidy_pick) := ⟨rfl, rfl, rfl, by decide +kernel, rfl, by decide +kernel, by decide +kernel⟩
abbrev s__law_tidy : Stmt := top 31
def N__law_tidy : List Str := ["e", "kind", "parts", "one", "other", "part"]
theorem S__law_tidy : FnScope N__law_tidy ["e"] (defScope s__law_tidy) := ⟨rfl, rfl, rfl, by decide +kernel, rfl, by decide +kernel, by decide +kernel⟩
abbrev s__law_numbers_in : Stmt := top 32
def N__law_numbers_in : List Str := ["e", "found", "part"]
theorem S__law_numbers_in : FnScope N__law_numbers_in ["e"] (defScope s__law_numbers_in) := ⟨rfl, rfl, rfl, by decide +kernel, rfl, by decide +kernel, by decide +kernel⟩
abbrev s__law_same_parts : Stmt := top 33
def N__law_same_parts : List Str := ["state", "w", "depth", "pick", "one", "other", "sign"]
theorem S__law_same_parts : FnScope N__law_same_parts ["state", "w", "depth"] (defScope s__law_same_parts) := ⟨rfl, rfl, rfl, by decide +kernel, rfl, by decide +kernel, by decide +kernel⟩
abbrev s__law_pool_table : Stmt := top 34
def N__law_pool_table : List Str := ["state", "w", "rules", "name", "row", "givens", "k"]
theorem S__law_pool_table : FnScope N__law_pool_table ["state"] (defScope s__law_pool_table) := ⟨rfl, rfl, rfl, by decide +kernel, rfl, by decide +kernel, by decide +kernel⟩
abbrev s__law_token_count : Stmt := top 35
def N__law_token_count : List Str := ["over", "e", "kind", "total", "x", "part"]
theorem S__law_token_count : FnScope N__law_token_count ["over", "e"] (defScope s__law_token_count) := ⟨rfl, rfl, rfl, by decide +kernel, rfl, by decide +kernel, by decide +kernel⟩
abbrev s__law_can_be_read : Stmt := top 36
def N__law_can_be_read : List Str := ["over", "row", "head", "number"]
theorem S__law_can_be_read : FnScope N__law_can_be_read ["over", "row"] (defScope s__law_can_be_read) := ⟨rfl, rfl, rfl, by decide +kernel, rfl, by decide +kernel, by decide +kernel⟩
abbrev s_law : Stmt := top 37
def N_law : List Str := ["script", "state", "turn", "table", "name", "rim", "e", "x", "y", "one", "due", "two", "compared"]
theorem S_law : FnScope N_law ["script"] (defScope s_law) := ⟨rfl, rfl, rfl, by decide +kernel, rfl, by decide +kernel, by decide +kernel⟩
theorem s_0 : Str.ofString "least" = tS [108, 101, 97, 115, 116] := by decide +kernel
theorem s_1 : Str.ofString "<" = tS [60] := by decide +kernel
theorem s_2 : Str.ofString "pick" = tS [112, 105, 99, 107] := by decide +kernel
theorem s_3 : Str.ofString "!=" = tS [33, 61] := by decide +kernel
theorem s_4 : Str.ofString "==" = tS [61, 61] := by decide +kernel
theorem s_5 : Str.ofString ">=" = tS [62, 61] := by decide +kernel
theorem s_6 : Str.ofString ">" = tS [62] := by decide +kernel
theorem s_7 : Str.ofString "number" = tS [110, 117, 109, 98, 101, 114] := by decide +kernel
theorem s_8 : Str.ofString "cell" = tS [99, 101, 108, 108] := by decide +kernel
theorem s_9 : Str.ofString "counter" = tS [99, 111, 117, 110, 116, 101, 114] := by decide +kernel
theorem s_10 : Str.ofString "negate" = tS [110, 101, 103, 97, 116, 101] := by decide +kernel
theorem s_11 : Str.ofString "scale" = tS [115, 99, 97, 108, 101] := by decide +kernel
theorem s_12 : Str.ofString "minus" = tS [109, 105, 110, 117, 115] := by decide +kernel
theorem s_13 : Str.ofString "plus" = tS [112, 108, 117, 115] := by decide +kernel
theorem s_14 : Str.ofString "abcdefghijklmnopqrstuvwxyz" = tS [97, 98, 99, 100, 101, 102, 103, 104, 105, 106, 107, 108, 109, 110, 111, 112, 113, 114, 115, 116, 117, 118, 119, 120, 121, 122] := by decide +kernel
theorem s_15 : Str.ofString "qxz" = tS [113, 120, 122] := by decide +kernel
theorem s_16 : Str.ofString "greatest" = tS [103, 114, 101, 97, 116, 101, 115, 116] := by decide +kernel
theorem s_17 : Str.ofString "<=" = tS [60, 61] := by decide +kernel
theorem s_18 : Str.ofString "many" = tS [109, 97, 110, 121] := by decide +kernel
theorem s_19 : Str.ofString "room" = tS [114, 111, 111, 109] := by decide +kernel
theorem s_20 : Str.ofString "given_names" = tS [103, 105, 118, 101, 110, 95, 110, 97, 109, 101, 115] := by decide +kernel
theorem s_21 : Str.ofString "rule_names" = tS [114, 117, 108, 101, 95, 110, 97, 109, 101, 115] := by decide +kernel
theorem s_22 : Str.ofString "most" = tS [109, 111, 115, 116] := by decide +kernel
theorem s_23 : Str.ofString "row" = tS [114, 111, 119] := by decide +kernel
theorem s_24 : Str.ofString "name" = tS [110, 97, 109, 101] := by decide +kernel
theorem s_25 : Str.ofString "numbers" = tS [110, 117, 109, 98, 101, 114, 115] := by decide +kernel
theorem s_26 : Str.ofString "over" = tS [111, 118, 101, 114] := by decide +kernel
theorem s_27 : Str.ofString "pool" = tS [112, 111, 111, 108] := by decide +kernel
theorem s_28 : Str.ofString "a_a" = tS [97, 95, 97] := by decide +kernel
theorem n_0 : nmOk "one" = true := by decide +kernel
theorem n_1 : nmOk "number" = true := by decide +kernel
theorem n_2 : nmOk "atom" = true := by decide +kernel
theorem n_3 : nmOk "other" = true := by decide +kernel
theorem n_4 : nmOk "factor" = true := by decide +kernel
theorem n_5 : nmOk "rows" = true := by decide +kernel
theorem n_6 : nmOk "pairs" = true := by decide +kernel
theorem n_7 : nmOk "pair" = true := by decide +kernel
theorem n_8 : nmOk "sums" = true := by decide +kernel
theorem n_9 : nmOk "kind" = true := by decide +kernel
theorem n_10 : nmOk "found" = true := by decide +kernel
theorem n_11 : nmOk "inner" = true := by decide +kernel
theorem n_12 : nmOk "spread_out" = true := by decide +kernel
theorem n_13 : nmOk "left" = true := by decide +kernel
theorem n_14 : nmOk "known" = true := by decide +kernel
theorem n_15 : nmOk "constant" = true := by decide +kernel
theorem n_16 : nmOk "alone" = true := by decide +kernel
theorem n_17 : nmOk "compared" = true := by decide +kernel
theorem n_18 : nmOk "sign" = true := by decide +kernel
theorem n_19 : nmOk "holds" = true := by decide +kernel
theorem n_20 : nmOk "yes" = true := by decide +kernel
theorem n_21 : nmOk "no" = true := by decide +kernel
theorem n_22 : nmOk "NOTHING" = true := by decide +kernel
theorem n_23 : nmOk "added" = true := by decide +kernel
theorem n_24 : nmOk "right" = true := by decide +kernel
theorem n_25 : nmOk "forward" = true := by decide +kernel
theorem n_26 : nmOk "picked" = true := by decide +kernel
theorem n_27 : nmOk "expression" = true := by decide +kernel
theorem n_28 : nmOk "tidy_sum" = true := by decide +kernel
theorem n_29 : nmOk "part" = true := by decide +kernel
theorem n_30 : nmOk "parts" = true := by decide +kernel
theorem n_31 : nmOk "tidy_pick" = true := by decide +kernel
theorem n_32 : nmOk "chosen" = true := by decide +kernel
theorem n_33 : nmOk "script" = true := by decide +kernel
theorem n_34 : nmOk "state" = true := by decide +kernel
theorem n_35 : nmOk "most" = true := by decide +kernel
theorem n_36 : nmOk "cell" = true := by decide +kernel
theorem n_37 : nmOk "mixed" = true := by decide +kernel
theorem n_38 : nmOk "items" = true := by decide +kernel
theorem n_39 : nmOk "_law_draw" = true := by decide +kernel
theorem n_40 : nmOk "many" = true := by decide +kernel
theorem n_41 : nmOk "shared" = true := by decide +kernel
theorem n_42 : nmOk "letters" = true := by decide +kernel
theorem n_43 : nmOk "start" = true := by decide +kernel
theorem n_44 : nmOk "k" = true := by decide +kernel
theorem n_45 : nmOk "step" = true := by decide +kernel
theorem n_46 : nmOk "x" = true := by decide +kernel
theorem n_47 : nmOk "y" = true := by decide +kernel
theorem n_48 : nmOk "_law_same" = true := by decide +kernel
theorem n_49 : nmOk "_law_is_int" = true := by decide +kernel
theorem n_50 : nmOk "depth" = true := by decide +kernel
theorem n_51 : nmOk "pick" = true := by decide +kernel
theorem n_52 : nmOk "w" = true := by decide +kernel
theorem n_53 : nmOk "_law_leaf" = true := by decide +kernel
theorem n_54 : nmOk "_law_some_part" = true := by decide +kernel
theorem n_55 : nmOk "_law_offsets" = true := by decide +kernel
theorem n_56 : nmOk "_law_one_of" = true := by decide +kernel
theorem n_57 : nmOk "offsets" = true := by decide +kernel
theorem n_58 : nmOk "_law_slope" = true := by decide +kernel
theorem n_59 : nmOk "total" = true := by decide +kernel
theorem n_60 : nmOk "name" = true := by decide +kernel
theorem n_61 : nmOk "_law_rim" = true := by decide +kernel
theorem n_62 : nmOk "rim" = true := by decide +kernel
theorem n_63 : nmOk "high" = true := by decide +kernel
theorem n_64 : nmOk "low" = true := by decide +kernel
theorem n_65 : nmOk "rules" = true := by decide +kernel
theorem n_66 : nmOk "givens" = true := by decide +kernel
theorem n_67 : nmOk "_law_words" = true := by decide +kernel
theorem n_68 : nmOk "words" = true := by decide +kernel
theorem n_69 : nmOk "least" = true := by decide +kernel
theorem n_70 : nmOk "_law_given_row" = true := by decide +kernel
theorem n_71 : nmOk "_law_table_world" = true := by decide +kernel
theorem n_72 : nmOk "_law_rules_of" = true := by decide +kernel
theorem n_73 : nmOk "e" = true := by decide +kernel
theorem n_74 : nmOk "_law_refs" = true := by decide +kernel
theorem n_75 : nmOk "atoms" = true := by decide +kernel
theorem n_76 : nmOk "numbers" = true := by decide +kernel
theorem n_77 : nmOk "flat" = true := by decide +kernel
theorem n_78 : nmOk "kept" = true := by decide +kernel
theorem n_79 : nmOk "same" = true := by decide +kernel
theorem n_80 : nmOk "_law_tidy_add" = true := by decide +kernel
theorem n_81 : nmOk "_law_tidy" = true := by decide +kernel
theorem n_82 : nmOk "_law_tidy_pick" = true := by decide +kernel
theorem n_83 : nmOk "_law_tidy_many" = true := by decide +kernel
theorem n_84 : nmOk "_law_numbers_in" = true := by decide +kernel
theorem n_85 : nmOk "_law_same_parts" = true := by decide +kernel
theorem n_86 : nmOk "_law_with_row" = true := by decide +kernel
theorem n_87 : nmOk "row" = true := by decide +kernel
theorem n_88 : nmOk "_law_can_be_read" = true := by decide +kernel
theorem n_89 : nmOk "over" = true := by decide +kernel
theorem n_90 : nmOk "_law_token_count" = true := by decide +kernel
theorem n_91 : nmOk "head" = true := by decide +kernel
theorem n_92 : nmOk "_law_start" = true := by decide +kernel
theorem n_93 : nmOk "_law_pool_table" = true := by decide +kernel
theorem n_94 : nmOk "_law_any_table" = true := by decide +kernel
theorem n_95 : nmOk "turn" = true := by decide +kernel
theorem n_96 : nmOk "table" = true := by decide +kernel
theorem n_97 : nmOk "due" = true := by decide +kernel
theorem n_98 : nmOk "two" = true := by decide +kernel
/-- what the defs do -/
structure Cs where
  added : ZC
  alone : ZC
  spread_out : ZC
  chosen : ZC
  picked : ZC
  forward : ZC
  tidy_pick : ZC
  tidy_sum : ZC
  _law_start : ZC
  _law_draw : ZC
  _law_one_of : ZC
  _law_words : ZC
  _law_is_int : ZC
  _law_same : ZC
  _law_offsets : ZC
  _law_some_part : ZC
  _law_leaf : ZC
  _law_slope : ZC
  _law_rim : ZC
  _law_given_row : ZC
  _law_table_world : ZC
  _law_with_row : ZC
  _law_rules_of : ZC
  _law_any_table : ZC
  _law_refs : ZC
  _law_tidy_add : ZC
  _law_tidy_many : ZC
  _law_tidy_pick : ZC
  _law_tidy : ZC
  _law_numbers_in : ZC
  _law_same_parts : ZC
  _law_pool_table : ZC
  _law_token_count : ZC
  _law_can_be_read : ZC
  law : ZC
/-- the defs can be called, and what else the bodies ask -/
structure Own (P : Program) (w : World) (K : PySem.W.Frag) (mg : Str → Option Value) (base : Heap) (k : Nat) (c : Cs) : Prop where
  len : mg "len" = none
  abs : mg "abs" = none
  sum : mg "sum" = none
  all : mg "all" = none
  sorted : mg "sorted" = none
  int : mg "int" = none
  tuple : mg "tuple" = none
  list : mg "list" = none
  range : mg "range" = none
  isinstance : mg "isinstance" = none
  str : mg "str" = none
  bool : mg "bool" = none
  k_NOTHING : ∃ v u, mg "NOTHING" = some u ∧ RelV v u ∧ ∀ H, RV K H v (.tup [(.int 0), (.tup [])])
  f_added : QF P w K mg base k "added" 3 c.added
  f_alone : QF P w K mg base k "alone" 1 c.alone
  f_spread_out : QF P w K mg base k "spread_out" 2 c.spread_out
  f_chosen : QF P w K mg base k "chosen" 2 c.chosen
  f_picked : QF P w K mg base k "picked" 4 c.picked
  f_forward : QF P w K mg base k "forward" 1 c.forward
  f_tidy_pick : QF P w K mg base k "tidy_pick" 5 c.tidy_pick
  f_tidy_sum : QF P w K mg base k "tidy_sum" 1 c.tidy_sum
  f__law_start : QF P w K mg base k "_law_start" 1 c._law_start
  f__law_draw : QF P w K mg base k "_law_draw" 2 c._law_draw
  f__law_one_of : QF P w K mg base k "_law_one_of" 2 c._law_one_of
  f__law_words : QF P w K mg base k "_law_words" 2 c._law_words
  f__law_is_int : QF P w K mg base k "_law_is_int" 1 c._law_is_int
  f__law_same : QF P w K mg base k "_law_same" 2 c._law_same
  f__law_offsets : QF P w K mg base k "_law_offsets" 3 c._law_offsets
  f__law_some_part : QF P w K mg base k "_law_some_part" 3 c._law_some_part
  f__law_leaf : QF P w K mg base k "_law_leaf" 2 c._law_leaf
  f__law_slope : QF P w K mg base k "_law_slope" 4 c._law_slope
  f__law_rim : QF P w K mg base k "_law_rim" 1 c._law_rim
  f__law_given_row : QF P w K mg base k "_law_given_row" 2 c._law_given_row
  f__law_table_world : QF P w K mg base k "_law_table_world" 4 c._law_table_world
  f__law_with_row : QF P w K mg base k "_law_with_row" 3 c._law_with_row
  f__law_rules_of : QF P w K mg base k "_law_rules_of" 3 c._law_rules_of
  f__law_any_table : QF P w K mg base k "_law_any_table" 1 c._law_any_table
  f__law_refs : QF P w K mg base k "_law_refs" 1 c._law_refs
  f__law_tidy_add : QF P w K mg base k "_law_tidy_add" 3 c._law_tidy_add
  f__law_tidy_many : QF P w K mg base k "_law_tidy_many" 2 c._law_tidy_many
  f__law_tidy_pick : QF P w K mg base k "_law_tidy_pick" 5 c._law_tidy_pick
  f__law_tidy : QF P w K mg base k "_law_tidy" 1 c._law_tidy
  f__law_numbers_in : QF P w K mg base k "_law_numbers_in" 1 c._law_numbers_in
  f__law_same_parts : QF P w K mg base k "_law_same_parts" 3 c._law_same_parts
  f__law_pool_table : QF P w K mg base k "_law_pool_table" 1 c._law_pool_table
  f__law_token_count : QF P w K mg base k "_law_token_count" 2 c._law_token_count
  f__law_can_be_read : QF P w K mg base k "_law_can_be_read" 2 c._law_can_be_read
  f_law : QF P w K mg base k "law" 1 c.law
def b_added (c : Cs) : ZS :=
    (zSeq (zAsg (zCall zSorted (zaCons (z2 zAdd (zLc (zsAny (z2 zIx (zVar 0) (zC (.int 1)))) (Tg.z (.tp (.cons (.nm 5) (.cons (.nm 6) .nil)))) ztYes (zTup (zaCons (zVar 5) (zaCons (zVar 6) zaNil))) [5, 6]) (zLc (zsAny (z2 zIx (zVar 1) (zC (.int 1)))) (Tg.z (.tp (.cons (.nm 5) (.cons (.nm 6) .nil)))) ztYes (zTup (zaCons (zVar 5) (zaCons (z2 zMul (zVar 2) (zVar 6)) zaNil))) [5, 6])) zaNil)) (zgName 3))
    (zSeq (zAsg (zLst zaNil) (zgName 4))
    (zSeq (zFor (zsAny (zVar 3)) (zgTup 2 (zgCons (zgName 5) (zgCons (zgName 6) zgNil))) (zIfS (ztAnd (ztOf (zVar 4)) (ztB (z2 zEq (z2 zIx (z2 zIx (zVar 4) (zNeg (zC (.int 1)))) (zC (.int 0))) (zVar 5)))) (zAsg (zTup (zaCons (zVar 5) (zaCons (z2 zAdd (z2 zIx (z2 zIx (zVar 4) (zNeg (zC (.int 1)))) (zC (.int 1))) (zVar 6)) zaNil))) (zgSub (zVar 4) (zNeg (zC (.int 1))))) (zDrop (zMt "list" zAppend (zVar 4) (zaCons (zTup (zaCons (zVar 5) (zaCons (zVar 6) zaNil))) zaNil)))))
    (zRet (zTup (zaCons (z2 zAdd (z2 zIx (zVar 0) (zC (.int 0))) (z2 zMul (zVar 2) (z2 zIx (zVar 1) (zC (.int 0))))) (zaCons (zCall zTupC (zaCons (zLc (zsAny (zVar 4)) (Tg.z (.nm 7)) (ztB (z2 (zNot zEq) (z2 zIx (zVar 7) (zC (.int 1))) (zC (.int 0)))) (zVar 7) [7]) zaNil)) zaNil)))))))
def b_alone (c : Cs) : ZS :=
    (zRet (zTup (zaCons (zC (.int 0)) (zaCons (zTup (zaCons (zTup (zaCons (zVar 0) (zaCons (zC (.int 1)) zaNil))) zaNil)) zaNil))))
def b_spread_out (c : Cs) : ZS :=
    (zSeq (zAsg (zLst zaNil) (zgName 2))
    (zSeq (zFor (zsAny (zVar 1)) (zgName 3) (zSeq (zAsg (zAnd (z2 zEq (z2 zIx (zVar 3) (zC (.int 0))) (zC (.int 0))) (zAnd (z2 zEq (zCall zLen (zaCons (z2 zIx (zVar 3) (zC (.int 1))) zaNil)) (zC (.int 1))) (zAnd (z2 zEq (z2 zIx (z2 zIx (z2 zIx (zVar 3) (zC (.int 1))) (zC (.int 0))) (zC (.int 1))) (zC (.int 1))) (z2 zEq (z2 zIx (z2 zIx (z2 zIx (z2 zIx (zVar 3) (zC (.int 1))) (zC (.int 0))) (zC (.int 0))) (zC (.int 0))) (zVar 0))))) (zgName 4))
    (zDrop (zMt "list" zExtend (zVar 2) (zaCons (zIf (ztOf (zVar 4)) (z2 zIx (z2 zIx (z2 zIx (z2 zIx (zVar 3) (zC (.int 1))) (zC (.int 0))) (zC (.int 0))) (zC (.int 1))) (zLst (zaCons (zVar 3) zaNil))) zaNil)))))
    (zRet (zVar 2))))
def b_chosen (c : Cs) : ZS :=
    (zSeq (zAsg (zLst zaNil) (zgName 2))
    (zSeq (zAsg (zCall zSorted (zaCons (zCall c.spread_out (zaCons (zVar 0) (zaCons (zVar 1) zaNil))) zaNil)) (zgName 3))
    (zSeq (zFor (zsAny (zIf (ztB (z2 zEq (zVar 0) (zC (.str [108, 101, 97, 115, 116])))) (zVar 3) (zRev (zVar 3)))) (zgTup 2 (zgCons (zgName 4) (zgCons (zgName 5) zgNil))) (zIfS (ztB (z2 (zInn true) (zVar 5) (zLc (zsAny (zVar 2)) (Tg.z (.tp (.cons (.nm 6) (.cons (.nm 7) .nil)))) ztYes (zVar 7) [6, 7]))) (zDrop (zMt "list" zAppend (zVar 2) (zaCons (zTup (zaCons (zVar 4) (zaCons (zVar 5) zaNil))) zaNil))) zNext))
    (zRet (zIf (ztB (z2 zEq (zCall zLen (zaCons (zVar 2) zaNil)) (zC (.int 1)))) (z2 zIx (zVar 2) (zC (.int 0))) (zCall c.alone (zaCons (zTup (zaCons (zVar 0) (zaCons (zCall zTupC (zaCons (zCall zSorted (zaCons (zVar 2) zaNil)) zaNil)) zaNil))) zaNil)))))))
def b_picked (c : Cs) : ZS :=
    (zSeq (zIfS (ztNot (ztOf (z2 zIx (zVar 1) (zC (.int 1))))) (zSeq (zAsg (zIf (ztB (z2 zEq (zVar 0) (zC (.str [60])))) (z2 zLt (z2 zIx (zVar 1) (zC (.int 0))) (zC (.int 0))) (z2 zEq (z2 zIx (zVar 1) (zC (.int 0))) (zC (.int 0)))) (zgName 4))
    (zRet (zIf (ztOf (zVar 4)) (zVar 2) (zVar 3)))) zNext)
    (zRet (zIf (ztB (z2 zEq (zVar 2) (zVar 3))) (zVar 2) (zCall c.alone (zaCons (zTup (zaCons (zC (.str [112, 105, 99, 107])) (zaCons (zVar 0) (zaCons (zVar 1) (zaCons (zVar 2) (zaCons (zVar 3) zaNil)))))) zaNil)))))
def b_forward (c : Cs) : ZS :=
    (zRet (zIf (ztOr (ztNot (ztOf (z2 zIx (zVar 0) (zC (.int 1))))) (ztB (z2 zGt (z2 zIx (z2 zIx (z2 zIx (zVar 0) (zC (.int 1))) (zC (.int 0))) (zC (.int 1))) (zC (.int 0))))) (zVar 0) (zCall c.added (zaCons (zC (.tup [(.int 0), (.tup [])])) (zaCons (zVar 0) (zaCons (zNeg (zC (.int 1))) zaNil))))))
def b_tidy_pick (c : Cs) : ZS :=
    (zSeq (zIfS (ztB (z2 (zInn false) (zVar 0) (zTup (zaCons (zC (.str [61, 61])) (zaCons (zC (.str [33, 61])) zaNil))))) (zSeq (zAsg (zCall c.forward (zaCons (zCall c.added (zaCons (zVar 1) (zaCons (zVar 2) (zaCons (zNeg (zC (.int 1))) zaNil)))) zaNil)) (zgName 5))
    (zRet (zIf (ztB (z2 zEq (zVar 0) (zC (.str [61, 61])))) (zCall c.picked (zaCons (zC (.str [61, 61])) (zaCons (zVar 5) (zaCons (zVar 3) (zaCons (zVar 4) zaNil))))) (zCall c.picked (zaCons (zC (.str [61, 61])) (zaCons (zVar 5) (zaCons (zVar 4) (zaCons (zVar 3) zaNil)))))))) zNext)
    (zSeq (zIfS (ztB (z2 (zInn false) (zVar 0) (zTup (zaCons (zC (.str [60])) (zaCons (zC (.str [62, 61])) zaNil))))) (zAsg (zCall c.added (zaCons (zVar 1) (zaCons (zVar 2) (zaCons (zNeg (zC (.int 1))) zaNil)))) (zgName 5)) (zAsg (zCall c.added (zaCons (zVar 2) (zaCons (zVar 1) (zaCons (zNeg (zC (.int 1))) zaNil)))) (zgName 5)))
    (zRet (zIf (ztB (z2 (zInn false) (zVar 0) (zTup (zaCons (zC (.str [60])) (zaCons (zC (.str [62])) zaNil))))) (zCall c.picked (zaCons (zC (.str [60])) (zaCons (zVar 5) (zaCons (zVar 3) (zaCons (zVar 4) zaNil))))) (zCall c.picked (zaCons (zC (.str [60])) (zaCons (zVar 5) (zaCons (zVar 4) (zaCons (zVar 3) zaNil)))))))))
def b_tidy_sum (c : Cs) : ZS :=
    (zSeq (zAsg (z2 zIx (zVar 0) (zC (.int 0))) (zgName 1))
    (zSeq (zIfS (ztB (z2 zEq (zVar 1) (zC (.str [110, 117, 109, 98, 101, 114])))) (zRet (zTup (zaCons (z2 zIx (zVar 0) (zC (.int 1))) (zaCons (zTup zaNil) zaNil)))) zNext)
    (zSeq (zIfS (ztB (z2 (zInn false) (zVar 1) (zTup (zaCons (zC (.str [99, 111, 117, 110, 116, 101, 114])) (zaCons (zC (.str [99, 101, 108, 108])) zaNil))))) (zRet (zCall c.alone (zaCons (zVar 0) zaNil))) zNext)
    (zSeq (zIfS (ztB (z2 zEq (zVar 1) (zC (.str [110, 101, 103, 97, 116, 101])))) (zRet (zCall c.added (zaCons (zC (.tup [(.int 0), (.tup [])])) (zaCons (zCall c.tidy_sum (zaCons (z2 zIx (zVar 0) (zC (.int 1))) zaNil)) (zaCons (zNeg (zC (.int 1))) zaNil))))) zNext)
    (zSeq (zIfS (ztB (z2 zEq (zVar 1) (zC (.str [115, 99, 97, 108, 101])))) (zRet (zCall c.added (zaCons (zC (.tup [(.int 0), (.tup [])])) (zaCons (zCall c.tidy_sum (zaCons (z2 zIx (zVar 0) (zC (.int 2))) zaNil)) (zaCons (z2 zIx (zVar 0) (zC (.int 1))) zaNil))))) zNext)
    (zSeq (zIfS (ztB (z2 zEq (zVar 1) (zC (.str [112, 105, 99, 107])))) (zSeq (zAsg (zLc (zsAny (zSl (zVar 0) (zoSome (zC (.int 2))) zoNone)) (Tg.z (.nm 5)) ztYes (zCall c.tidy_sum (zaCons (zVar 5) zaNil)) [5]) (zgName 2))
    (zRet (zCall c.tidy_pick (zaCons (z2 zIx (zVar 0) (zC (.int 1))) (zaCons (z2 zIx (zVar 2) (zC (.int 0))) (zaCons (z2 zIx (zVar 2) (zC (.int 1))) (zaCons (z2 zIx (zVar 2) (zC (.int 2))) (zaCons (z2 zIx (zVar 2) (zC (.int 3))) zaNil)))))))) zNext)
    (zSeq (zAsg (zCall c.tidy_sum (zaCons (z2 zIx (zVar 0) (zC (.int 1))) zaNil)) (zgName 3))
    (zSeq (zAsg (zCall c.tidy_sum (zaCons (z2 zIx (zVar 0) (zC (.int 2))) zaNil)) (zgName 4))
    (zSeq (zIfS (ztB (z2 (zInn false) (zVar 1) (zTup (zaCons (zC (.str [112, 108, 117, 115])) (zaCons (zC (.str [109, 105, 110, 117, 115])) zaNil))))) (zRet (zCall c.added (zaCons (zVar 3) (zaCons (zVar 4) (zaCons (zIf (ztB (z2 zEq (zVar 1) (zC (.str [112, 108, 117, 115])))) (zC (.int 1)) (zNeg (zC (.int 1)))) zaNil))))) zNext)
    (zRet (zCall c.chosen (zaCons (zVar 1) (zaCons (zLst (zaCons (zVar 3) (zaCons (zVar 4) zaNil))) zaNil)))))))))))))
def b__law_start (c : Cs) : ZS :=
    (zRet (zLst (zaCons (zCall zListC (zaCons (zVar 0) zaNil)) (zaCons (zC (.int 0)) (zaCons (zC (.int 0)) (zaCons (zC (.int 0)) zaNil))))))
def b__law_draw (c : Cs) : ZS :=
    (zSeq (zAsg (z2 zAdd (z2 zIx (zVar 0) (zC (.int 3))) (zC (.int 1))) (zgSub (zVar 0) (zC (.int 3))))
    (zSeq (zIfS (ztB (z2 zGt (z2 zIx (zVar 0) (zC (.int 2))) (zC (.int 0)))) (zSeq (zAsg (z2 zMod (zCall zInt (zaCons (z2 zIx (zVar 0) (zC (.int 2))) zaNil)) (zVar 1)) (zgName 2))
    (zSeq (zAsg (z2 zDiv (z2 zIx (zVar 0) (zC (.int 2))) (zVar 1)) (zgSub (zVar 0) (zC (.int 2))))
    (zRet (zVar 2)))) zNext)
    (zSeq (zAsg (zC (.int 0)) (zgName 3))
    (zSeq (zIfS (ztB (z2 zGt (zCall zLen (zaCons (z2 zIx (zVar 0) (zC (.int 0))) zaNil)) (zC (.int 0)))) (zAsg (zCall zAbs (zaCons (z2 zIx (z2 zIx (zVar 0) (zC (.int 0))) (z2 zMod (zCall zInt (zaCons (z2 zIx (zVar 0) (zC (.int 1))) zaNil)) (zCall zLen (zaCons (z2 zIx (zVar 0) (zC (.int 0))) zaNil)))) zaNil)) (zgName 3)) zNext)
    (zSeq (zAsg (z2 zAdd (z2 zIx (zVar 0) (zC (.int 1))) (zC (.int 1))) (zgSub (zVar 0) (zC (.int 1))))
    (zSeq (zIfS (ztB (z2 zGe (zVar 3) (z2 zPow (zC (.int 10)) (zC (.int 18))))) (zSeq (zAsg (z2 zDiv (zVar 3) (zVar 1)) (zgSub (zVar 0) (zC (.int 2))))
    (zRet (z2 zMod (zCall zInt (zaCons (zVar 3) zaNil)) (zVar 1)))) zNext)
    (zSeq (zAsg (z2 zMod (zCall zInt (zaCons (z2 zAdd (z2 zMul (z2 zAdd (zVar 3) (zC (.int 1))) (zC (.int 48271))) (z2 zMul (z2 zIx (zVar 0) (zC (.int 3))) (zC (.int 69621)))) zaNil)) (zC (.int 2147483647))) (zgName 4))
    (zSeq (zAsg (z2 zMod (zCall zInt (zaCons (z2 zAdd (z2 zAdd (z2 zMul (zVar 4) (zC (.int 16807))) (z2 zDiv (zVar 3) (zC (.int 97)))) (z2 zIx (zVar 0) (zC (.int 3)))) zaNil)) (zC (.int 2147483629))) (zgName 4))
    (zRet (z2 zMod (z2 zDiv (zVar 4) (zC (.int 11))) (zVar 1)))))))))))
def b__law_one_of (c : Cs) : ZS :=
    (zRet (z2 zIx (zVar 1) (zCall c._law_draw (zaCons (zVar 0) (zaCons (zCall zLen (zaCons (zVar 1) zaNil)) zaNil)))))
def b__law_words (c : Cs) : ZS :=
    (zSeq (zAsg (zC (.str [97, 98, 99, 100, 101, 102, 103, 104, 105, 106, 107, 108, 109, 110, 111, 112, 113, 114, 115, 116, 117, 118, 119, 120, 121, 122])) (zgName 2))
    (zSeq (zAsg (zCall c._law_draw (zaCons (zVar 0) (zaCons (zC (.int 26)) zaNil))) (zgName 3))
    (zSeq (zAsg (z2 zAdd (zC (.int 1)) (z2 zMul (zC (.int 2)) (zCall c._law_draw (zaCons (zVar 0) (zaCons (zC (.int 6)) zaNil))))) (zgName 4))
    (zSeq (zAsg (zSl (zC (.str [113, 120, 122])) zoNone (zoSome (zCall c._law_draw (zaCons (zVar 0) (zaCons (zC (.int 4)) zaNil))))) (zgName 5))
    (zSeq (zIfS (ztB (z2 zEq (zCall c._law_draw (zaCons (zVar 0) (zaCons (zC (.int 2)) zaNil))) (zC (.int 0)))) (zRet (zLc (zsR1 (zaCons (zVar 1) zaNil)) (Tg.z (.nm 6)) ztYes (z2 zAdd (zVar 5) (z2 zIx (zVar 2) (z2 zMod (zCall zInt (zaCons (z2 zAdd (zVar 3) (z2 zMul (zVar 6) (zVar 4))) zaNil)) (zC (.int 26))))) [6])) zNext)
    (zRet (zLc (zsR1 (zaCons (zVar 1) zaNil)) (Tg.z (.nm 6)) ztYes (z2 zAdd (z2 zIx (zVar 2) (z2 zMod (zCall zInt (zaCons (z2 zAdd (zVar 3) (z2 zMul (zVar 6) (zVar 4))) zaNil)) (zC (.int 26)))) (zVar 5)) [6])))))))
def b__law_is_int (c : Cs) : ZS :=
    (zRet (zAnd (zIsa .int (zVar 0)) (zNt (zIsa .bool (zVar 0)))))
def b__law_same (c : Cs) : ZS :=
    (zSeq (zIfS (ztOf (zIsa .tuple (zVar 1))) (zSeq (zIfS (ztOr (ztNot (ztOf (zIsa .tuple (zVar 0)))) (ztB (z2 (zNot zEq) (zCall zLen (zaCons (zVar 0) zaNil)) (zCall zLen (zaCons (zVar 1) zaNil))))) (zRet (zC (.bl false))) zNext)
    (zRet (zCall zAll (zaCons (zLc (zsR1 (zaCons (zCall zLen (zaCons (zVar 1) zaNil)) zaNil)) (Tg.z (.nm 2)) ztYes (zCall c._law_same (zaCons (z2 zIx (zVar 0) (zVar 2)) (zaCons (z2 zIx (zVar 1) (zVar 2)) zaNil))) [2]) zaNil)))) zNext)
    (zSeq (zIfS (ztOf (zIsa .str (zVar 1))) (zRet (zAnd (zIsa .str (zVar 0)) (z2 zEq (zVar 0) (zVar 1)))) zNext)
    (zRet (zAnd (zCall c._law_is_int (zaCons (zVar 0) zaNil)) (z2 zEq (zVar 0) (zVar 1))))))
def b__law_offsets (c : Cs) : ZS :=
    (zRet (zCall zTupC (zaCons (zLc (zsR1 (zaCons (zVar 1) zaNil)) (Tg.z (.nm 3)) ztYes (z2 zSub (zCall c._law_draw (zaCons (zVar 0) (zaCons (z2 zAdd (z2 zMul (zC (.int 2)) (zVar 2)) (zC (.int 1))) zaNil))) (zVar 2)) [3]) zaNil)))
def b__law_some_part (c : Cs) : ZS :=
    (zSeq (zAsg (zCall c._law_draw (zaCons (zVar 0) (zaCons (zC (.int 12)) zaNil))) (zgName 3))
    (zSeq (zIfS (ztOr (ztB (z2 zEq (zVar 2) (zC (.int 0)))) (ztB (z2 zLt (zVar 3) (zC (.int 4))))) (zRet (zCall c._law_leaf (zaCons (zVar 0) (zaCons (zVar 1) zaNil)))) zNext)
    (zSeq (zIfS (ztB (z2 zEq (zVar 3) (zC (.int 4)))) (zRet (zTup (zaCons (zC (.str [110, 101, 103, 97, 116, 101])) (zaCons (zCall c._law_some_part (zaCons (zVar 0) (zaCons (zVar 1) (zaCons (z2 zSub (zVar 2) (zC (.int 1))) zaNil)))) zaNil)))) zNext)
    (zSeq (zIfS (ztB (z2 zEq (zVar 3) (zC (.int 5)))) (zRet (zTup (zaCons (zC (.str [115, 99, 97, 108, 101])) (zaCons (zCall c._law_draw (zaCons (zVar 0) (zaCons (zC (.int 4)) zaNil))) (zaCons (zCall c._law_some_part (zaCons (zVar 0) (zaCons (zVar 1) (zaCons (z2 zSub (zVar 2) (zC (.int 1))) zaNil)))) zaNil))))) zNext)
    (zSeq (zAsg (zCall c._law_some_part (zaCons (zVar 0) (zaCons (zVar 1) (zaCons (z2 zSub (zVar 2) (zC (.int 1))) zaNil)))) (zgName 4))
    (zSeq (zAsg (zCall c._law_some_part (zaCons (zVar 0) (zaCons (zVar 1) (zaCons (z2 zSub (zVar 2) (zC (.int 1))) zaNil)))) (zgName 5))
    (zSeq (zIfS (ztB (z2 zLt (zVar 3) (zC (.int 10)))) (zRet (zTup (zaCons (z2 zIx (zLst (zaCons (zC (.str [112, 108, 117, 115])) (zaCons (zC (.str [109, 105, 110, 117, 115])) (zaCons (zC (.str [108, 101, 97, 115, 116])) (zaCons (zC (.str [103, 114, 101, 97, 116, 101, 115, 116])) zaNil))))) (z2 zSub (zVar 3) (zC (.int 6)))) (zaCons (zVar 4) (zaCons (zVar 5) zaNil))))) zNext)
    (zSeq (zAsg (z2 zIx (zLst (zaCons (zC (.str [60])) (zaCons (zC (.str [60, 61])) (zaCons (zC (.str [62])) (zaCons (zC (.str [62, 61])) (zaCons (zC (.str [61, 61])) (zaCons (zC (.str [33, 61])) zaNil))))))) (zCall c._law_draw (zaCons (zVar 0) (zaCons (zC (.int 6)) zaNil)))) (zgName 6))
    (zRet (zTup (zaCons (zC (.str [112, 105, 99, 107])) (zaCons (zVar 6) (zaCons (zVar 4) (zaCons (zCall c._law_leaf (zaCons (zVar 0) (zaCons (zVar 1) zaNil))) (zaCons (zVar 5) (zaCons (zCall c._law_leaf (zaCons (zVar 0) (zaCons (zVar 1) zaNil))) zaNil))))))))))))))))
def b__law_leaf (c : Cs) : ZS :=
    (zSeq (zAsg (zCall c._law_draw (zaCons (zVar 0) (zaCons (zC (.int 6)) zaNil))) (zgName 2))
    (zSeq (zIfS (ztB (z2 zEq (zVar 2) (zC (.int 0)))) (zRet (zTup (zaCons (zC (.str [110, 117, 109, 98, 101, 114])) (zaCons (zCall c._law_draw (zaCons (zVar 0) (zaCons (zC (.int 10)) zaNil))) zaNil)))) zNext)
    (zSeq (zIfS (ztB (z2 zEq (zVar 2) (zC (.int 1)))) (zRet (zTup (zaCons (zC (.str [99, 111, 117, 110, 116, 101, 114])) (zaCons (zCall c._law_draw (zaCons (zVar 0) (zaCons (z2 zIx (zVar 1) (zC (.str [109, 97, 110, 121]))) zaNil))) zaNil)))) zNext)
    (zSeq (zIfS (ztOr (ztB (z2 zEq (z2 zIx (zVar 1) (zC (.str [114, 111, 111, 109]))) (zC (.int 0)))) (ztAnd (ztB (z2 zEq (zVar 2) (zC (.int 2)))) (ztB (z2 zEq (z2 zIx (zVar 1) (zC (.str [103, 105, 118, 101, 110, 95, 110, 97, 109, 101, 115]))) (zLst zaNil))))) (zRet (zTup (zaCons (zC (.str [110, 117, 109, 98, 101, 114])) (zaCons (zCall c._law_draw (zaCons (zVar 0) (zaCons (zC (.int 4)) zaNil))) zaNil)))) zNext)
    (zSeq (zAsg (z2 zSub (z2 zIx (zVar 1) (zC (.str [114, 111, 111, 109]))) (zC (.int 1))) (zgSub (zVar 1) (zC (.str [114, 111, 111, 109]))))
    (zSeq (zIfS (ztB (z2 zEq (zVar 2) (zC (.int 2)))) (zRet (zTup (zaCons (zC (.str [99, 101, 108, 108])) (zaCons (zCall c._law_one_of (zaCons (zVar 0) (zaCons (z2 zIx (zVar 1) (zC (.str [103, 105, 118, 101, 110, 95, 110, 97, 109, 101, 115]))) zaNil))) (zaCons (zCall c._law_offsets (zaCons (zVar 0) (zaCons (z2 zIx (zVar 1) (zC (.str [109, 97, 110, 121]))) (zaCons (zC (.int 2)) zaNil)))) zaNil))))) zNext)
    (zSeq (zAsg (zCall c._law_one_of (zaCons (zVar 0) (zaCons (z2 zIx (zVar 1) (zC (.str [114, 117, 108, 101, 95, 110, 97, 109, 101, 115]))) zaNil))) (zgName 3))
    (zSeq (zAsg (zCall c._law_offsets (zaCons (zVar 0) (zaCons (z2 zIx (zVar 1) (zC (.str [109, 97, 110, 121]))) (zaCons (z2 zIx (zVar 1) (zC (.str [109, 111, 115, 116]))) zaNil)))) (zgName 4))
    (zSeq (zIfS (ztAnd (ztB (z2 (zIs true) (z2 zIx (zVar 1) (zC (.str [114, 111, 119]))) (zC .non))) (ztB (z2 zGt (zCall c._law_slope (zaCons (zVar 1) (zaCons (z2 zIx (zVar 1) (zC (.str [110, 97, 109, 101]))) (zaCons (zVar 3) (zaCons (zVar 4) zaNil))))) (z2 zIx (zVar 1) (zC (.str [108, 101, 97, 115, 116])))))) (zRet (zTup (zaCons (zC (.str [110, 117, 109, 98, 101, 114])) (zaCons (zCall c._law_draw (zaCons (zVar 0) (zaCons (zC (.int 4)) zaNil))) zaNil)))) zNext)
    (zRet (zTup (zaCons (zC (.str [99, 101, 108, 108])) (zaCons (zVar 3) (zaCons (zVar 4) zaNil))))))))))))))
def b__law_slope (c : Cs) : ZS :=
    (zSeq (zAsg (zCall zSum (zaCons (zLc (zsR1 (zaCons (zCall zLen (zaCons (zVar 3) zaNil)) zaNil)) (Tg.z (.nm 5)) ztYes (z2 zMul (z2 zIx (z2 zIx (zVar 0) (zC (.str [114, 111, 119]))) (zVar 5)) (z2 zIx (zVar 3) (zVar 5))) [5]) zaNil)) (zgName 4))
    (zRet (z2 zSub (z2 zAdd (zVar 4) (z2 zIx (z2 zIx (zVar 0) (zC (.str [110, 117, 109, 98, 101, 114, 115]))) (zVar 2))) (z2 zIx (z2 zIx (zVar 0) (zC (.str [110, 117, 109, 98, 101, 114, 115]))) (zVar 1)))))
def b__law_rim (c : Cs) : ZS :=
    (zRet (z2 zIx (zLst (zaCons (zC (.int 0)) (zaCons (zC (.int 0)) (zaCons (z2 zSub (zCall c._law_draw (zaCons (zVar 0) (zaCons (zC (.int 9)) zaNil))) (zC (.int 4))) zaNil)))) (zCall c._law_draw (zaCons (zVar 0) (zaCons (zC (.int 3)) zaNil)))))
def b__law_given_row (c : Cs) : ZS :=
    (zSeq (zAsg (zCall c._law_rim (zaCons (zVar 0) zaNil)) (zgName 2))
    (zSeq (zAsg (z2 zIx (zLst (zaCons (zTup zaNil) (zaCons (z2 zSub (zVar 2) (zCall c._law_draw (zaCons (zVar 0) (zaCons (zC (.int 4)) zaNil)))) zaNil))) (zCall c._law_draw (zaCons (zVar 0) (zaCons (zC (.int 2)) zaNil)))) (zgName 3))
    (zSeq (zAsg (z2 zIx (zLst (zaCons (zTup zaNil) (zaCons (z2 zAdd (zVar 2) (zCall c._law_draw (zaCons (zVar 0) (zaCons (zC (.int 4)) zaNil)))) zaNil))) (zCall c._law_draw (zaCons (zVar 0) (zaCons (zC (.int 2)) zaNil)))) (zgName 4))
    (zRet (zTup (zaCons (zVar 1) (zaCons (zVar 2) (zaCons (zVar 3) (zaCons (zVar 4) zaNil)))))))))
def b__law_table_world (c : Cs) : ZS :=
    (zSeq (zAsg (zCall c._law_words (zaCons (zVar 0) (zaCons (z2 zAdd (z2 zAdd (zVar 1) (zVar 2)) (zVar 3)) zaNil))) (zgName 4))
    (zSeq (zAsg (zDispN 15 [((zC (.str [109, 97, 110, 121])), (zVar 1)), ((zC (.str [111, 118, 101, 114])), (zCall zTupC (zaCons (zSl (zVar 4) zoNone (zoSome (zVar 1))) zaNil))), ((zC (.str [114, 117, 108, 101, 95, 110, 97, 109, 101, 115])), (zCall zSorted (zaCons (zSl (zVar 4) (zoSome (zVar 1)) (zoSome (z2 zAdd (zVar 1) (zVar 2)))) zaNil))), ((zC (.str [109, 111, 115, 116])), (zC (.int 2)))]) (zgName 5))
    (zSeq (zAsg (zCall zSorted (zaCons (zSl (zVar 4) (zoSome (z2 zAdd (zVar 1) (zVar 2))) zoNone) zaNil)) (zgSub (zVar 5) (zC (.str [103, 105, 118, 101, 110, 95, 110, 97, 109, 101, 115]))))
    (zSeq (zAsg (zC .non) (zgSub (zVar 5) (zC (.str [114, 111, 119]))))
    (zRet (zVar 5))))))
def b__law_with_row (c : Cs) : ZS :=
    (zSeq (zAsg (zLc (zsR1 (zaCons (z2 zIx (zVar 1) (zC (.str [109, 97, 110, 121]))) zaNil)) (Tg.z (.nm 4)) ztYes (z2 zSub (zCall c._law_draw (zaCons (zVar 0) (zaCons (zC (.int 5)) zaNil))) (zC (.int 2))) [4]) (zgSub (zVar 1) (zC (.str [114, 111, 119]))))
    (zSeq (zAsg (z2 zIx (zLst (zaCons (zC (.int 1)) (zaCons (zNeg (zC (.int 1))) (zaCons (zC (.int 2)) zaNil)))) (zCall c._law_draw (zaCons (zVar 0) (zaCons (zC (.int 3)) zaNil)))) (zgSub (z2 zIx (zVar 1) (zC (.str [114, 111, 119]))) (zCall c._law_draw (zaCons (zVar 0) (zaCons (z2 zIx (zVar 1) (zC (.str [109, 97, 110, 121]))) zaNil)))))
    (zSeq (zAsg zDn (zgSub (zVar 1) (zC (.str [110, 117, 109, 98, 101, 114, 115]))))
    (zSeq (zFor (zsAny (z2 zIx (zVar 1) (zC (.str [114, 117, 108, 101, 95, 110, 97, 109, 101, 115])))) (zgName 3) (zAsg (zCall c._law_draw (zaCons (zVar 0) (zaCons (zC (.int 3)) zaNil))) (zgSub (z2 zIx (zVar 1) (zC (.str [110, 117, 109, 98, 101, 114, 115]))) (zVar 3))))
    (zAsg (zVar 2) (zgSub (zVar 1) (zC (.str [108, 101, 97, 115, 116]))))))))
def b__law_rules_of (c : Cs) : ZS :=
    (zSeq (zAsg (zLst zaNil) (zgName 3))
    (zSeq (zFor (zsAny (z2 zIx (zVar 1) (zC (.str [114, 117, 108, 101, 95, 110, 97, 109, 101, 115])))) (zgName 4) (zSeq (zAsg (z2 zIx (zLst (zaCons (zC (.int 5)) (zaCons (zC (.int 4)) (zaCons (zC (.int 3)) zaNil)))) (z2 zSub (z2 zIx (zVar 1) (zC (.str [109, 97, 110, 121]))) (zC (.int 1)))) (zgSub (zVar 1) (zC (.str [114, 111, 111, 109]))))
    (zSeq (zAsg (zVar 4) (zgSub (zVar 1) (zC (.str [110, 97, 109, 101]))))
    (zDrop (zMt "list" zAppend (zVar 3) (zaCons (zTup (zaCons (zVar 4) (zaCons (zCall c._law_rim (zaCons (zVar 0) zaNil)) (zaCons (zCall c._law_some_part (zaCons (zVar 0) (zaCons (zVar 1) (zaCons (zVar 2) zaNil)))) zaNil)))) zaNil))))))
    (zSeq (zAsg (zCall zTupC (zaCons (zLc (zsAny (z2 zIx (zVar 1) (zC (.str [103, 105, 118, 101, 110, 95, 110, 97, 109, 101, 115])))) (Tg.z (.nm 4)) ztYes (zCall c._law_given_row (zaCons (zVar 0) (zaCons (zVar 4) zaNil))) [4]) zaNil)) (zgName 5))
    (zRet (zTup (zaCons (z2 zIx (zVar 1) (zC (.str [111, 118, 101, 114]))) (zaCons (zVar 5) (zaCons (zCall zTupC (zaCons (zVar 3) zaNil)) (zaCons (zTup zaNil) zaNil)))))))))
def b__law_any_table (c : Cs) : ZS :=
    (zSeq (zAsg (zCall c._law_table_world (zaCons (zVar 0) (zaCons (z2 zAdd (zC (.int 1)) (zCall c._law_draw (zaCons (zVar 0) (zaCons (zC (.int 3)) zaNil)))) (zaCons (z2 zAdd (zC (.int 1)) (zCall c._law_draw (zaCons (zVar 0) (zaCons (zC (.int 3)) zaNil)))) (zaCons (zCall c._law_draw (zaCons (zVar 0) (zaCons (zC (.int 3)) zaNil))) zaNil))))) (zgName 1))
    (zSeq (zAsg (z2 zAdd (zC (.int 1)) (zCall c._law_draw (zaCons (zVar 0) (zaCons (zC (.int 2)) zaNil)))) (zgSub (zVar 1) (zC (.str [109, 111, 115, 116]))))
    (zRet (zCall c._law_rules_of (zaCons (zVar 0) (zaCons (zVar 1) (zaCons (zC (.int 2)) zaNil)))))))
def b__law_refs (c : Cs) : ZS :=
    (zSeq (zIfS (ztB (z2 zEq (z2 zIx (zVar 0) (zC (.int 0))) (zC (.str [99, 101, 108, 108])))) (zRet (zLst (zaCons (zVar 0) zaNil))) zNext)
    (zSeq (zAsg (zLst zaNil) (zgName 1))
    (zSeq (zFor (zsAny (zSl (zVar 0) (zoSome (zC (.int 1))) zoNone)) (zgName 2) (zIfS (ztOf (zIsa .tuple (zVar 2))) (zAsg (z2 zAdd (zVar 1) (zCall c._law_refs (zaCons (zVar 2) zaNil))) (zgName 1)) zNext))
    (zRet (zVar 1)))))
def b__law_tidy_add (c : Cs) : ZS :=
    (zSeq (zAsg (zLc (zsAny (z2 zIx (zVar 0) (zC (.int 1)))) (Tg.z (.tp (.cons (.nm 5) (.cons (.nm 6) .nil)))) ztYes (zVar 5) [5, 6]) (zgName 3))
    (zSeq (zAsg (zLc (zsAny (z2 zIx (zVar 0) (zC (.int 1)))) (Tg.z (.tp (.cons (.nm 5) (.cons (.nm 6) .nil)))) ztYes (zVar 6) [5, 6]) (zgName 4))
    (zSeq (zFor (zsAny (z2 zIx (zVar 1) (zC (.int 1)))) (zgTup 2 (zgCons (zgName 5) (zgCons (zgName 6) zgNil))) (zIfS (ztB (z2 (zInn false) (zVar 5) (zVar 3))) (zSeq (zAsg (zMt "list" zIndex (zVar 3) (zaCons (zVar 5) zaNil)) (zgName 7))
    (zAsg (z2 zAdd (z2 zIx (zVar 4) (zVar 7)) (z2 zMul (zVar 2) (zVar 6))) (zgSub (zVar 4) (zVar 7)))) (zSeq (zDrop (zMt "list" zAppend (zVar 3) (zaCons (zVar 5) zaNil)))
    (zDrop (zMt "list" zAppend (zVar 4) (zaCons (z2 zMul (zVar 2) (zVar 6)) zaNil))))))
    (zSeq (zAsg (zCall zSorted (zaCons (zLc (zsR1 (zaCons (zCall zLen (zaCons (zVar 3) zaNil)) zaNil)) (Tg.z (.nm 7)) (ztB (z2 (zNot zEq) (z2 zIx (zVar 4) (zVar 7)) (zC (.int 0)))) (zTup (zaCons (z2 zIx (zVar 3) (zVar 7)) (zaCons (z2 zIx (zVar 4) (zVar 7)) zaNil))) [7]) zaNil)) (zgName 8))
    (zRet (zTup (zaCons (z2 zAdd (z2 zIx (zVar 0) (zC (.int 0))) (z2 zMul (zVar 2) (z2 zIx (zVar 1) (zC (.int 0))))) (zaCons (zCall zTupC (zaCons (zVar 8) zaNil)) zaNil))))))))
def b__law_tidy_many (c : Cs) : ZS :=
    (zSeq (zAsg (zLst zaNil) (zgName 2))
    (zSeq (zFor (zsAny (zVar 1)) (zgName 3) (zIfS (ztAnd (ztB (z2 zEq (z2 zIx (zVar 3) (zC (.int 0))) (zC (.int 0)))) (ztAnd (ztB (z2 zEq (zCall zLen (zaCons (z2 zIx (zVar 3) (zC (.int 1))) zaNil)) (zC (.int 1)))) (ztAnd (ztB (z2 zEq (z2 zIx (z2 zIx (z2 zIx (zVar 3) (zC (.int 1))) (zC (.int 0))) (zC (.int 1))) (zC (.int 1)))) (ztB (z2 zEq (z2 zIx (z2 zIx (z2 zIx (z2 zIx (zVar 3) (zC (.int 1))) (zC (.int 0))) (zC (.int 0))) (zC (.int 0))) (zVar 0)))))) (zAsg (z2 zAdd (zVar 2) (zCall zListC (zaCons (z2 zIx (z2 zIx (z2 zIx (z2 zIx (zVar 3) (zC (.int 1))) (zC (.int 0))) (zC (.int 0))) (zC (.int 1))) zaNil))) (zgName 2)) (zDrop (zMt "list" zAppend (zVar 2) (zaCons (zVar 3) zaNil)))))
    (zSeq (zAsg (zLst zaNil) (zgName 4))
    (zSeq (zFor (zsAny (zVar 2)) (zgName 3) (zSeq (zAsg (zLc (zsR1 (zaCons (zCall zLen (zaCons (zVar 4) zaNil)) zaNil)) (Tg.z (.nm 6)) (ztB (z2 zEq (z2 zIx (z2 zIx (zVar 4) (zVar 6)) (zC (.int 1))) (z2 zIx (zVar 3) (zC (.int 1))))) (zVar 6) [6]) (zgName 5))
    (zIfS (ztB (z2 zEq (zVar 5) (zLst zaNil))) (zDrop (zMt "list" zAppend (zVar 4) (zaCons (zVar 3) zaNil))) (zIfS (ztOr (ztAnd (ztB (z2 zEq (zVar 0) (zC (.str [108, 101, 97, 115, 116])))) (ztB (z2 zLt (z2 zIx (zVar 3) (zC (.int 0))) (z2 zIx (z2 zIx (zVar 4) (z2 zIx (zVar 5) (zC (.int 0)))) (zC (.int 0)))))) (ztAnd (ztB (z2 zEq (zVar 0) (zC (.str [103, 114, 101, 97, 116, 101, 115, 116])))) (ztB (z2 zGt (z2 zIx (zVar 3) (zC (.int 0))) (z2 zIx (z2 zIx (zVar 4) (z2 zIx (zVar 5) (zC (.int 0)))) (zC (.int 0))))))) (zAsg (zVar 3) (zgSub (zVar 4) (z2 zIx (zVar 5) (zC (.int 0))))) zNext))))
    (zSeq (zIfS (ztB (z2 zEq (zCall zLen (zaCons (zVar 4) zaNil)) (zC (.int 1)))) (zRet (z2 zIx (zVar 4) (zC (.int 0)))) zNext)
    (zRet (zTup (zaCons (zC (.int 0)) (zaCons (zTup (zaCons (zTup (zaCons (zTup (zaCons (zVar 0) (zaCons (zCall zTupC (zaCons (zCall zSorted (zaCons (zVar 4) zaNil)) zaNil)) zaNil))) (zaCons (zC (.int 1)) zaNil))) zaNil)) zaNil)))))))))
def b__law_tidy_pick (c : Cs) : ZS :=
    (zSeq (zIfS (ztB (z2 (zInn false) (zVar 0) (zLst (zaCons (zC (.str [60, 61])) (zaCons (zC (.str [62, 61])) (zaCons (zC (.str [33, 61])) zaNil)))))) (zSeq (zAsg (z2 zIx (zDispN 15 [((zC (.str [60, 61])), (zC (.str [62]))), ((zC (.str [62, 61])), (zC (.str [60]))), ((zC (.str [33, 61])), (zC (.str [61, 61])))]) (zVar 0)) (zgName 0))
    (zPar 3 4 (zaCons (zVar 4) (zaCons (zVar 3) zaNil)))) zNext)
    (zSeq (zAsg (zCall c._law_tidy_add (zaCons (zVar 1) (zaCons (zVar 2) (zaCons (zNeg (zC (.int 1))) zaNil)))) (zgName 5))
    (zSeq (zIfS (ztB (z2 zEq (zVar 0) (zC (.str [62])))) (zSeq (zAsg (zCall c._law_tidy_add (zaCons (zVar 2) (zaCons (zVar 1) (zaCons (zNeg (zC (.int 1))) zaNil)))) (zgName 5))
    (zAsg (zC (.str [60])) (zgName 0))) zNext)
    (zSeq (zIfS (ztAnd (ztB (z2 zEq (zVar 0) (zC (.str [61, 61])))) (ztAnd (ztB (z2 (zNot zEq) (z2 zIx (zVar 5) (zC (.int 1))) (zTup zaNil))) (ztB (z2 zLt (z2 zIx (z2 zIx (z2 zIx (zVar 5) (zC (.int 1))) (zC (.int 0))) (zC (.int 1))) (zC (.int 0)))))) (zAsg (zCall c._law_tidy_add (zaCons (zTup (zaCons (zC (.int 0)) (zaCons (zTup zaNil) zaNil))) (zaCons (zVar 5) (zaCons (zNeg (zC (.int 1))) zaNil)))) (zgName 5)) zNext)
    (zSeq (zIfS (ztB (z2 zEq (z2 zIx (zVar 5) (zC (.int 1))) (zTup zaNil))) (zRet (z2 zIx (zLst (zaCons (zVar 4) (zaCons (zVar 3) zaNil))) (zCall zInt (zaCons (zOr (zAnd (z2 zEq (zVar 0) (zC (.str [60]))) (z2 zLt (z2 zIx (zVar 5) (zC (.int 0))) (zC (.int 0)))) (zAnd (z2 zEq (zVar 0) (zC (.str [61, 61]))) (z2 zEq (z2 zIx (zVar 5) (zC (.int 0))) (zC (.int 0))))) zaNil)))) zNext)
    (zSeq (zIfS (ztB (z2 zEq (zVar 3) (zVar 4))) (zRet (zVar 3)) zNext)
    (zRet (zTup (zaCons (zC (.int 0)) (zaCons (zTup (zaCons (zTup (zaCons (zTup (zaCons (zC (.str [112, 105, 99, 107])) (zaCons (zVar 0) (zaCons (zVar 5) (zaCons (zVar 3) (zaCons (zVar 4) zaNil)))))) (zaCons (zC (.int 1)) zaNil))) zaNil)) zaNil))))))))))
def b__law_tidy (c : Cs) : ZS :=
    (zSeq (zAsg (z2 zIx (zVar 0) (zC (.int 0))) (zgName 1))
    (zSeq (zIfS (ztB (z2 zEq (zVar 1) (zC (.str [110, 117, 109, 98, 101, 114])))) (zRet (zTup (zaCons (z2 zIx (zVar 0) (zC (.int 1))) (zaCons (zTup zaNil) zaNil)))) zNext)
    (zSeq (zIfS (ztOr (ztB (z2 zEq (zVar 1) (zC (.str [99, 111, 117, 110, 116, 101, 114])))) (ztB (z2 zEq (zVar 1) (zC (.str [99, 101, 108, 108]))))) (zRet (zTup (zaCons (zC (.int 0)) (zaCons (zTup (zaCons (zTup (zaCons (zVar 0) (zaCons (zC (.int 1)) zaNil))) zaNil)) zaNil)))) zNext)
    (zSeq (zIfS (ztB (z2 zEq (zVar 1) (zC (.str [110, 101, 103, 97, 116, 101])))) (zRet (zCall c._law_tidy_add (zaCons (zTup (zaCons (zC (.int 0)) (zaCons (zTup zaNil) zaNil))) (zaCons (zCall c._law_tidy (zaCons (z2 zIx (zVar 0) (zC (.int 1))) zaNil)) (zaCons (zNeg (zC (.int 1))) zaNil))))) zNext)
    (zSeq (zIfS (ztB (z2 zEq (zVar 1) (zC (.str [115, 99, 97, 108, 101])))) (zRet (zCall c._law_tidy_add (zaCons (zTup (zaCons (zC (.int 0)) (zaCons (zTup zaNil) zaNil))) (zaCons (zCall c._law_tidy (zaCons (z2 zIx (zVar 0) (zC (.int 2))) zaNil)) (zaCons (z2 zIx (zVar 0) (zC (.int 1))) zaNil))))) zNext)
    (zSeq (zIfS (ztB (z2 zEq (zVar 1) (zC (.str [112, 105, 99, 107])))) (zSeq (zAsg (zLc (zsAny (zSl (zVar 0) (zoSome (zC (.int 2))) zoNone)) (Tg.z (.nm 5)) ztYes (zCall c._law_tidy (zaCons (zVar 5) zaNil)) [5]) (zgName 2))
    (zRet (zCall c._law_tidy_pick (zaCons (z2 zIx (zVar 0) (zC (.int 1))) (zaCons (z2 zIx (zVar 2) (zC (.int 0))) (zaCons (z2 zIx (zVar 2) (zC (.int 1))) (zaCons (z2 zIx (zVar 2) (zC (.int 2))) (zaCons (z2 zIx (zVar 2) (zC (.int 3))) zaNil)))))))) zNext)
    (zSeq (zAsg (zCall c._law_tidy (zaCons (z2 zIx (zVar 0) (zC (.int 1))) zaNil)) (zgName 3))
    (zSeq (zAsg (zCall c._law_tidy (zaCons (z2 zIx (zVar 0) (zC (.int 2))) zaNil)) (zgName 4))
    (zSeq (zIfS (ztB (z2 zEq (zVar 1) (zC (.str [112, 108, 117, 115])))) (zRet (zCall c._law_tidy_add (zaCons (zVar 3) (zaCons (zVar 4) (zaCons (zC (.int 1)) zaNil))))) zNext)
    (zSeq (zIfS (ztB (z2 zEq (zVar 1) (zC (.str [109, 105, 110, 117, 115])))) (zRet (zCall c._law_tidy_add (zaCons (zVar 3) (zaCons (zVar 4) (zaCons (zNeg (zC (.int 1))) zaNil))))) zNext)
    (zRet (zCall c._law_tidy_many (zaCons (zVar 1) (zaCons (zLst (zaCons (zVar 3) (zaCons (zVar 4) zaNil))) zaNil))))))))))))))
def b__law_numbers_in (c : Cs) : ZS :=
    (zSeq (zIfS (ztB (z2 zEq (z2 zIx (zVar 0) (zC (.int 0))) (zC (.str [110, 117, 109, 98, 101, 114])))) (zRet (zLst (zaCons (z2 zIx (zVar 0) (zC (.int 1))) zaNil))) zNext)
    (zSeq (zAsg (zLst zaNil) (zgName 1))
    (zSeq (zIfS (ztB (z2 zEq (z2 zIx (zVar 0) (zC (.int 0))) (zC (.str [115, 99, 97, 108, 101])))) (zDrop (zMt "list" zAppend (zVar 1) (zaCons (z2 zIx (zVar 0) (zC (.int 1))) zaNil))) zNext)
    (zSeq (zFor (zsAny (zSl (zVar 0) (zoSome (zC (.int 1))) zoNone)) (zgName 2) (zIfS (ztAnd (ztOf (zIsa .tuple (zVar 2))) (ztB (z2 (zNot zEq) (z2 zIx (zVar 0) (zC (.int 0))) (zC (.str [99, 101, 108, 108]))))) (zAsg (z2 zAdd (zVar 1) (zCall c._law_numbers_in (zaCons (zVar 2) zaNil))) (zgName 1)) zNext))
    (zRet (zVar 1))))))
def b__law_same_parts (c : Cs) : ZS :=
    (zSeq (zAsg (zCall c._law_draw (zaCons (zVar 0) (zaCons (zC (.int 9)) zaNil))) (zgName 3))
    (zSeq (zIfS (ztOr (ztB (z2 zEq (zVar 2) (zC (.int 0)))) (ztB (z2 zLt (zVar 3) (zC (.int 2))))) (zRet (zCall c._law_one_of (zaCons (zVar 0) (zaCons (z2 zIx (zVar 1) (zC (.str [112, 111, 111, 108]))) zaNil)))) zNext)
    (zSeq (zIfS (ztB (z2 zEq (zVar 3) (zC (.int 2)))) (zRet (zTup (zaCons (zC (.str [110, 101, 103, 97, 116, 101])) (zaCons (zCall c._law_same_parts (zaCons (zVar 0) (zaCons (zVar 1) (zaCons (z2 zSub (zVar 2) (zC (.int 1))) zaNil)))) zaNil)))) zNext)
    (zSeq (zIfS (ztB (z2 zEq (zVar 3) (zC (.int 3)))) (zRet (zTup (zaCons (zC (.str [115, 99, 97, 108, 101])) (zaCons (zCall c._law_draw (zaCons (zVar 0) (zaCons (zC (.int 4)) zaNil))) (zaCons (zCall c._law_same_parts (zaCons (zVar 0) (zaCons (zVar 1) (zaCons (z2 zSub (zVar 2) (zC (.int 1))) zaNil)))) zaNil))))) zNext)
    (zSeq (zAsg (zCall c._law_same_parts (zaCons (zVar 0) (zaCons (zVar 1) (zaCons (z2 zSub (zVar 2) (zC (.int 1))) zaNil)))) (zgName 4))
    (zSeq (zAsg (zCall c._law_same_parts (zaCons (zVar 0) (zaCons (zVar 1) (zaCons (z2 zSub (zVar 2) (zC (.int 1))) zaNil)))) (zgName 5))
    (zSeq (zIfS (ztB (z2 zLt (zVar 3) (zC (.int 8)))) (zRet (zTup (zaCons (z2 zIx (zLst (zaCons (zC (.str [112, 108, 117, 115])) (zaCons (zC (.str [109, 105, 110, 117, 115])) (zaCons (zC (.str [108, 101, 97, 115, 116])) (zaCons (zC (.str [103, 114, 101, 97, 116, 101, 115, 116])) zaNil))))) (z2 zSub (zVar 3) (zC (.int 4)))) (zaCons (zVar 4) (zaCons (zVar 5) zaNil))))) zNext)
    (zSeq (zAsg (z2 zIx (zLst (zaCons (zC (.str [60])) (zaCons (zC (.str [60, 61])) (zaCons (zC (.str [62])) (zaCons (zC (.str [62, 61])) (zaCons (zC (.str [61, 61])) (zaCons (zC (.str [33, 61])) zaNil))))))) (zCall c._law_draw (zaCons (zVar 0) (zaCons (zC (.int 6)) zaNil)))) (zgName 6))
    (zRet (zTup (zaCons (zC (.str [112, 105, 99, 107])) (zaCons (zVar 6) (zaCons (zVar 4) (zaCons (zVar 5) (zaCons (zCall c._law_one_of (zaCons (zVar 0) (zaCons (z2 zIx (zVar 1) (zC (.str [112, 111, 111, 108]))) zaNil))) (zaCons (zCall c._law_one_of (zaCons (zVar 0) (zaCons (z2 zIx (zVar 1) (zC (.str [112, 111, 111, 108]))) zaNil))) zaNil))))))))))))))))
def b__law_pool_table (c : Cs) : ZS :=
    (zSeq (zAsg (zCall c._law_table_world (zaCons (zVar 0) (zaCons (z2 zAdd (zC (.int 1)) (zCall c._law_draw (zaCons (zVar 0) (zaCons (zC (.int 2)) zaNil)))) (zaCons (z2 zAdd (zC (.int 1)) (zCall c._law_draw (zaCons (zVar 0) (zaCons (zC (.int 2)) zaNil)))) (zaCons (zC (.int 1)) zaNil))))) (zgName 1))
    (zSeq (zDrop (zCall c._law_with_row (zaCons (zVar 0) (zaCons (zVar 1) (zaCons (zNeg (zC (.int 1))) zaNil)))))
    (zSeq (zAsg (zLst zaNil) (zgName 2))
    (zSeq (zFor (zsAny (z2 zIx (zVar 1) (zC (.str [114, 117, 108, 101, 95, 110, 97, 109, 101, 115])))) (zgName 3) (zSeq (zAsg (zC (.int 3)) (zgSub (zVar 1) (zC (.str [114, 111, 111, 109]))))
    (zSeq (zAsg (zVar 3) (zgSub (zVar 1) (zC (.str [110, 97, 109, 101]))))
    (zSeq (zAsg (z2 zAdd (zLc (zsR1 (zaCons (zC (.int 3)) zaNil)) (Tg.z (.nm 6)) ztYes (zCall c._law_leaf (zaCons (zVar 0) (zaCons (zVar 1) zaNil))) [6]) (zLst (zaCons (zTup (zaCons (zC (.str [110, 117, 109, 98, 101, 114])) (zaCons (zCall c._law_draw (zaCons (zVar 0) (zaCons (zC (.int 3)) zaNil))) zaNil))) (zaCons (zTup (zaCons (zC (.str [99, 111, 117, 110, 116, 101, 114])) (zaCons (zC (.int 0)) zaNil))) zaNil)))) (zgSub (zVar 1) (zC (.str [112, 111, 111, 108]))))
    (zSeq (zAsg (zTup (zaCons (zVar 3) (zaCons (zCall c._law_rim (zaCons (zVar 0) zaNil)) (zaCons (zCall c._law_same_parts (zaCons (zVar 0) (zaCons (zVar 1) (zaCons (zC (.int 3)) zaNil)))) zaNil)))) (zgName 4))
    (zSeq (zIfS (ztNot (ztOf (zCall c._law_can_be_read (zaCons (z2 zIx (zVar 1) (zC (.str [111, 118, 101, 114]))) (zaCons (zVar 4) zaNil))))) (zAsg (z2 zAdd (zSl (zVar 4) zoNone (zoSome (zC (.int 2)))) (zTup (zaCons (zTup (zaCons (zC (.str [112, 108, 117, 115])) (zaCons (z2 zIx (z2 zIx (zVar 1) (zC (.str [112, 111, 111, 108]))) (zC (.int 0))) (zaCons (z2 zIx (z2 zIx (zVar 1) (zC (.str [112, 111, 111, 108]))) (zC (.int 1))) zaNil)))) zaNil))) (zgName 4)) zNext)
    (zDrop (zMt "list" zAppend (zVar 2) (zaCons (zVar 4) zaNil)))))))))
    (zSeq (zAsg (zCall zTupC (zaCons (zLc (zsAny (z2 zIx (zVar 1) (zC (.str [103, 105, 118, 101, 110, 95, 110, 97, 109, 101, 115])))) (Tg.z (.nm 3)) ztYes (zCall c._law_given_row (zaCons (zVar 0) (zaCons (zVar 3) zaNil))) [3]) zaNil)) (zgName 5))
    (zRet (zTup (zaCons (z2 zIx (zVar 1) (zC (.str [111, 118, 101, 114]))) (zaCons (zVar 5) (zaCons (zCall zTupC (zaCons (zVar 2) zaNil)) (zaCons (zTup zaNil) zaNil)))))))))))
def b__law_token_count (c : Cs) : ZS :=
    (zSeq (zAsg (z2 zIx (zVar 1) (zC (.int 0))) (zgName 2))
    (zSeq (zIfS (ztOr (ztB (z2 zEq (zVar 2) (zC (.str [110, 117, 109, 98, 101, 114])))) (ztB (z2 zEq (zVar 2) (zC (.str [99, 111, 117, 110, 116, 101, 114]))))) (zRet (zC (.int 1))) zNext)
    (zSeq (zIfS (ztB (z2 zEq (zVar 2) (zC (.str [99, 101, 108, 108])))) (zRet (z2 zAdd (z2 zAdd (zC (.int 2)) (z2 zMul (zC (.int 2)) (zCall zLen (zaCons (zVar 0) zaNil)))) (z2 zMul (zC (.int 2)) (zCall zLen (zaCons (zLc (zsAny (z2 zIx (zVar 1) (zC (.int 2)))) (Tg.z (.nm 4)) (ztB (z2 (zNot zEq) (zVar 4) (zC (.int 0)))) (zVar 4) [4]) zaNil))))) zNext)
    (zSeq (zIfS (ztB (z2 zEq (zVar 2) (zC (.str [110, 101, 103, 97, 116, 101])))) (zRet (z2 zAdd (z2 zAdd (zC (.int 1)) (zCall c._law_token_count (zaCons (zVar 0) (zaCons (z2 zIx (zVar 1) (zC (.int 1))) zaNil)))) (z2 zMul (zC (.int 2)) (zCall zInt (zaCons (z2 (zInn false) (z2 zIx (z2 zIx (zVar 1) (zC (.int 1))) (zC (.int 0))) (zLst (zaCons (zC (.str [112, 108, 117, 115])) (zaCons (zC (.str [109, 105, 110, 117, 115])) (zaCons (zC (.str [110, 101, 103, 97, 116, 101])) zaNil))))) zaNil))))) zNext)
    (zSeq (zIfS (ztB (z2 zEq (zVar 2) (zC (.str [115, 99, 97, 108, 101])))) (zRet (z2 zAdd (z2 zAdd (zC (.int 2)) (zCall c._law_token_count (zaCons (zVar 0) (zaCons (z2 zIx (zVar 1) (zC (.int 2))) zaNil)))) (z2 zMul (zC (.int 2)) (zCall zInt (zaCons (z2 (zInn false) (z2 zIx (z2 zIx (zVar 1) (zC (.int 2))) (zC (.int 0))) (zLst (zaCons (zC (.str [112, 108, 117, 115])) (zaCons (zC (.str [109, 105, 110, 117, 115])) (zaCons (zC (.str [110, 101, 103, 97, 116, 101])) (zaCons (zC (.str [115, 99, 97, 108, 101])) zaNil)))))) zaNil))))) zNext)
    (zSeq (zAsg (zCall zSum (zaCons (zLc (zsAny (zSl (zVar 1) (zoSome (zC (.int 1))) zoNone)) (Tg.z (.nm 5)) (ztOf (zIsa .tuple (zVar 5))) (zCall c._law_token_count (zaCons (zVar 0) (zaCons (zVar 5) zaNil))) [5]) zaNil)) (zgName 3))
    (zSeq (zIfS (ztB (z2 zEq (zVar 2) (zC (.str [112, 105, 99, 107])))) (zRet (z2 zAdd (zVar 3) (zC (.int 6)))) zNext)
    (zSeq (zIfS (ztOr (ztB (z2 zEq (zVar 2) (zC (.str [112, 108, 117, 115])))) (ztB (z2 zEq (zVar 2) (zC (.str [109, 105, 110, 117, 115]))))) (zRet (z2 zAdd (z2 zAdd (zVar 3) (zC (.int 1))) (z2 zMul (zC (.int 2)) (zCall zInt (zaCons (z2 (zInn false) (z2 zIx (z2 zIx (zVar 1) (zC (.int 2))) (zC (.int 0))) (zLst (zaCons (zC (.str [112, 108, 117, 115])) (zaCons (zC (.str [109, 105, 110, 117, 115])) (zaCons (zC (.str [110, 101, 103, 97, 116, 101])) zaNil))))) zaNil))))) zNext)
    (zRet (z2 zAdd (zVar 3) (zC (.int 4))))))))))))
def b__law_can_be_read (c : Cs) : ZS :=
    (zSeq (zAsg (z2 zAdd (z2 zAdd (zC (.int 3)) (z2 zMul (zC (.int 2)) (zCall zInt (zaCons (z2 (zNot zEq) (z2 zIx (zVar 1) (zC (.int 1))) (zC (.int 0))) zaNil)))) (zCall zInt (zaCons (z2 zLt (z2 zIx (zVar 1) (zC (.int 1))) (zC (.int 0))) zaNil))) (zgName 2))
    (zSeq (zIfS (ztOr (ztB (z2 zGt (z2 zAdd (zVar 2) (zCall c._law_token_count (zaCons (zVar 0) (zaCons (z2 zIx (zVar 1) (zC (.int 2))) zaNil)))) (zC (.int 80)))) (ztB (z2 zGt (zCall zLen (zaCons (zCall c._law_refs (zaCons (z2 zIx (zVar 1) (zC (.int 2))) zaNil)) zaNil)) (zC (.int 12))))) (zRet (zC (.bl false))) zNext)
    (zRet (zCall zAll (zaCons (zLc (zsAny (zCall c._law_numbers_in (zaCons (z2 zIx (zVar 1) (zC (.int 2))) zaNil))) (Tg.z (.nm 3)) ztYes (z2 zLt (zVar 3) (z2 zPow (zC (.int 10)) (zC (.int 6)))) [3]) zaNil)))))
def b_law (c : Cs) : ZS :=
    (zSeq (zAsg (zCall c._law_start (zaCons (zVar 0) zaNil)) (zgName 1))
    (zSeq (zFor (zsR1 (zaCons (zC (.int 3)) zaNil)) (zgName 2) (zSeq (zAsg (z2 zIx (zLst (zaCons (zCall c._law_pool_table (zaCons (zVar 1) zaNil)) (zaCons (zCall c._law_any_table (zaCons (zVar 1) zaNil)) (zaCons (zCall c._law_pool_table (zaCons (zVar 1) zaNil)) zaNil)))) (zVar 2)) (zgName 3))
    (zFor (zsAny (z2 zIx (zVar 3) (zC (.int 2)))) (zgTup 3 (zgCons (zgName 4) (zgCons (zgName 5) (zgCons (zgName 6) zgNil)))) (zIfS (ztNot (ztOf (zCall c._law_same (zaCons (zCall c.tidy_sum (zaCons (zVar 6) zaNil)) (zaCons (zCall c._law_tidy (zaCons (zVar 6) zaNil)) zaNil))))) (zRet (zC (.bl false))) zNext))))
    (zSeq (zAsg (zTup (zaCons (zC (.str [99, 101, 108, 108])) (zaCons (zC (.str [97, 95, 97])) (zaCons (zTup (zaCons (zC (.int 1)) zaNil)) zaNil)))) (zgName 7))
    (zSeq (zAsg (zTup (zaCons (zC (.str [99, 111, 117, 110, 116, 101, 114])) (zaCons (zC (.int 0)) zaNil))) (zgName 8))
    (zSeq (zAsg (zTup (zaCons (zC (.str [108, 101, 97, 115, 116])) (zaCons (zVar 7) (zaCons (zTup (zaCons (zC (.str [108, 101, 97, 115, 116])) (zaCons (zTup (zaCons (zC (.str [112, 108, 117, 115])) (zaCons (zVar 8) (zaCons (zTup (zaCons (zC (.str [110, 117, 109, 98, 101, 114])) (zaCons (zC (.int 2)) zaNil))) zaNil)))) (zaCons (zTup (zaCons (zC (.str [112, 108, 117, 115])) (zaCons (zTup (zaCons (zC (.str [110, 117, 109, 98, 101, 114])) (zaCons (zC (.int 1)) zaNil))) (zaCons (zVar 8) zaNil)))) zaNil)))) zaNil)))) (zgName 9))
    (zSeq (zAsg (zTup (zaCons (zC (.int 0)) (zaCons (zTup (zaCons (zTup (zaCons (zTup (zaCons (zC (.str [108, 101, 97, 115, 116])) (zaCons (zTup (zaCons (zTup (zaCons (zC (.int 0)) (zaCons (zTup (zaCons (zTup (zaCons (zVar 7) (zaCons (zC (.int 1)) zaNil))) zaNil)) zaNil))) (zaCons (zTup (zaCons (zC (.int 1)) (zaCons (zTup (zaCons (zTup (zaCons (zVar 8) (zaCons (zC (.int 1)) zaNil))) zaNil)) zaNil))) zaNil))) zaNil))) (zaCons (zC (.int 1)) zaNil))) zaNil)) zaNil))) (zgName 10))
    (zSeq (zIfS (ztOr (ztNot (ztOf (zCall c._law_same (zaCons (zCall c.tidy_sum (zaCons (zVar 9) zaNil)) (zaCons (zVar 10) zaNil))))) (ztNot (ztOf (zCall c._law_same (zaCons (zCall c.tidy_sum (zaCons (zTup (zaCons (zC (.str [109, 105, 110, 117, 115])) (zaCons (zVar 9) (zaCons (zVar 9) zaNil)))) zaNil)) (zaCons (zTup (zaCons (zC (.int 0)) (zaCons (zTup zaNil) zaNil))) zaNil)))))) (zRet (zC (.bl false))) zNext)
    (zSeq (zAsg (zTup (zaCons (zC (.str [112, 105, 99, 107])) (zaCons (zC (.str [62, 61])) (zaCons (zVar 7) (zaCons (zVar 8) (zaCons (zTup (zaCons (zC (.str [110, 117, 109, 98, 101, 114])) (zaCons (zC (.int 5)) zaNil))) (zaCons (zTup (zaCons (zC (.str [110, 101, 103, 97, 116, 101])) (zaCons (zVar 8) zaNil))) zaNil))))))) (zgName 11))
    (zSeq (zAsg (zTup (zaCons (zC (.int 0)) (zaCons (zTup (zaCons (zTup (zaCons (zVar 7) (zaCons (zC (.int 1)) zaNil))) (zaCons (zTup (zaCons (zVar 8) (zaCons (zNeg (zC (.int 1))) zaNil))) zaNil))) zaNil))) (zgName 12))
    (zRet (zCall c._law_same (zaCons (zCall c.tidy_sum (zaCons (zVar 11) zaNil)) (zaCons (zTup (zaCons (zC (.int 0)) (zaCons (zTup (zaCons (zTup (zaCons (zTup (zaCons (zC (.str [112, 105, 99, 107])) (zaCons (zC (.str [60])) (zaCons (zVar 12) (zaCons (zTup (zaCons (zC (.int 0)) (zaCons (zTup (zaCons (zTup (zaCons (zVar 8) (zaCons (zNeg (zC (.int 1))) zaNil))) zaNil)) zaNil))) (zaCons (zTup (zaCons (zC (.int 5)) (zaCons (zTup zaNil) zaNil))) zaNil)))))) (zaCons (zC (.int 1)) zaNil))) zaNil)) zaNil))) zaNil)))))))))))))
section
variable {P : Program} {w : World} {K : PySem.W.Frag} {mg : Str → Option Value} {base : Heap} {k : Nat} {c : Cs} {f : Addr} {cdv : Value} {A : Around} {outer : List Env} {s : Shared} {H : Hp} {E : XK}
theorem d_added (e : Own P w K mg base k c) (hr : Room k (A.deeper (envOfC "added" (defScope s_added) s.heap.objs.size f cdv))) : QSs (cxOf CX0 P w K mg base N_added "added" (defScope s_added) f cdv A outer s H E).nox (defBody s_added) (b_added c) := by
  have hu := G.hu_of hr
  exact (qss_cons (qs_set (i := 3) S_added.nd rfl (.inl rfl) (q_sorted (qa_cons (qe_op qo_add (qe_lc rfl S_added.nd (own := [("atom", 5), ("number", 6)]) (t := (.tp (.cons (.nm 5) (.cons (.nm 6) .nil)))) (qi_any (q_ix hu (qv (i := 0) n_0 rfl (.inl rfl)) qe_int (fun _ _ => rfl))) (by show blkC N_added (defScope s_added) _ _ = true; decide +kernel) (by decide) (fun _ _ _ _ _ => (pg_tup rfl (pgs_cons (pg_name (i := 5) S_added.nd rfl (.inl rfl) (.inr rfl)) (pgs_cons (pg_name (i := 6) S_added.nd rfl (.inl rfl) (.inr rfl)) pgs_nil rfl) rfl) rfl rfl)) (fun _ _ _ _ _ => qts_nil) (fun _ _ _ _ _ => (qe_tup (qa_cons (qv (i := 5) n_2 rfl (.inl rfl)) (qa_cons (qv (i := 6) n_1 rfl (.inl rfl)) qa_nil rfl) rfl))) (fun _ => rfl)) (qe_lc rfl S_added.nd (own := [("atom", 5), ("number", 6)]) (t := (.tp (.cons (.nm 5) (.cons (.nm 6) .nil)))) (qi_any (q_ix hu (qv (i := 1) n_3 rfl (.inl rfl)) qe_int (fun _ _ => rfl))) (by show blkC N_added (defScope s_added) _ _ = true; decide +kernel) (by decide) (fun _ _ _ _ _ => (pg_tup rfl (pgs_cons (pg_name (i := 5) S_added.nd rfl (.inl rfl) (.inr rfl)) (pgs_cons (pg_name (i := 6) S_added.nd rfl (.inl rfl) (.inr rfl)) pgs_nil rfl) rfl) rfl rfl)) (fun _ _ _ _ _ => qts_nil) (fun _ _ _ _ _ => (qe_tup (qa_cons (qv (i := 5) n_2 rfl (.inl rfl)) (qa_cons (qe_op qo_mul (qv (i := 2) n_4 rfl (.inr (.inl rfl))) (qv (i := 6) n_1 rfl (.inl rfl))) qa_nil rfl) rfl))) (fun _ => rfl))) qa_nil rfl) rfl rfl hu rfl e.sorted) rfl (.inl rfl))
    (qss_cons (qs_set (i := 4) S_added.nd rfl (.inl rfl) (qe_lst qa_nil) rfl (.inl rfl))
    (qss_cons (qs_for PassesOwn.never rfl (qi_any (qv (i := 3) n_5 rfl (.inl rfl))) (qg_tup rfl (qgs_cons (qg_name (i := 5) S_added.nd rfl (.inl rfl) (.inl rfl)) (qgs_cons (qg_name (i := 6) S_added.nd rfl (.inl rfl) (.inl rfl)) qgs_nil rfl) rfl) rfl rfl) (qss_one (qs_if (q_w (qw_and (qt_of (qv (i := 4) n_6 rfl (.inl rfl)) (fun _ => rfl)) (qw_and1 (qt_cmp (q_eq hu) (q_ix hu (q_ix hu (qv (i := 4) n_6 rfl (.inl rfl)) (qe_neg qe_int) (fun _ _ => rfl)) qe_int (fun _ _ => rfl)) (qv (i := 5) n_2 rfl (.inl rfl)) (nomark _))))) (qss_one (qs_asg (qe_tup (qa_cons (qv (i := 5) n_2 rfl (.inl rfl)) (qa_cons (qe_op qo_add (q_ix hu (q_ix hu (qv (i := 4) n_6 rfl (.inl rfl)) (qe_neg qe_int) (fun _ _ => rfl)) qe_int (fun _ _ => rfl)) (qv (i := 6) n_1 rfl (.inl rfl))) qa_nil rfl) rfl)) (qg_sub' hu (qv (i := 4) n_6 rfl (.inl rfl)) (qe_neg qe_int) (fun _ => rfl)) rfl rfl rfl)) (qss_one (qs_expr (q_append (qv (i := 4) n_6 rfl (.inl rfl)) (qa_cons (qe_tup (qa_cons (qv (i := 5) n_2 rfl (.inl rfl)) (qa_cons (qv (i := 6) n_1 rfl (.inl rfl)) qa_nil rfl) rfl)) qa_nil rfl) rfl rfl rfl rfl rfl) rfl)))) (fun _ => rfl))
    (qss_one (qs_ret (qe_tup (qa_cons (qe_op qo_add (q_ix hu (qv (i := 0) n_0 rfl (.inl rfl)) qe_int (fun _ _ => rfl)) (qe_op qo_mul (qv (i := 2) n_4 rfl (.inr (.inl rfl))) (q_ix hu (qv (i := 1) n_3 rfl (.inl rfl)) qe_int (fun _ _ => rfl)))) (qa_cons (q_tuple (qa_cons (qe_lc rfl S_added.nd (own := [("pair", 7)]) (t := (.nm 7)) (qi_any (qv (i := 4) n_6 rfl (.inl rfl))) (by show blkC N_added (defScope s_added) _ _ = true; decide +kernel) (by decide) (fun _ _ _ _ _ => (pg_name (i := 7) S_added.nd rfl (.inl rfl) (.inr rfl))) (fun _ _ _ _ _ => (qts_one (qt_cmp (q_ne hu) (q_ix hu (qv (i := 7) n_7 rfl (.inl rfl)) qe_int (fun _ _ => rfl)) qe_int (nomark _)))) (fun _ _ _ _ _ => (qv (i := 7) n_7 rfl (.inl rfl))) (fun _ => rfl)) qa_nil rfl) rfl rfl rfl e.tuple) qa_nil rfl) rfl)))))))
theorem d_alone (e : Own P w K mg base k c) (hr : Room k (A.deeper (envOfC "alone" (defScope s_alone) s.heap.objs.size f cdv))) : QSs (cxOf CX0 P w K mg base N_alone "alone" (defScope s_alone) f cdv A outer s H E).nox (defBody s_alone) (b_alone c) := by
  have hu := G.hu_of hr
  exact (qss_one (qs_ret (qe_tup (qa_cons qe_int (qa_cons (qe_tup (qa_cons (qe_tup (qa_cons (qv (i := 0) n_2 rfl (.inl rfl)) (qa_cons qe_int qa_nil rfl) rfl)) qa_nil rfl)) qa_nil rfl) rfl))))
theorem d_spread_out (e : Own P w K mg base k c) (hr : Room k (A.deeper (envOfC "spread_out" (defScope s_spread_out) s.heap.objs.size f cdv))) : QSs (cxOf CX0 P w K mg base N_spread_out "spread_out" (defScope s_spread_out) f cdv A outer s H E).nox (defBody s_spread_out) (b_spread_out c) := by
  have hu := G.hu_of hr
  exact (qss_cons (qs_set (i := 2) S_spread_out.nd rfl (.inl rfl) (qe_lst qa_nil) rfl (.inl rfl))
    (qss_cons (qs_for PassesOwn.never rfl (qi_any (qv (i := 1) n_8 rfl (.inl rfl))) (qg_name (i := 3) S_spread_out.nd rfl (.inl rfl) (.inl rfl)) (qss_cons (qs_set (i := 4) S_spread_out.nd rfl (.inl rfl) (qe_and (qe_cmp (q_eq hu) (q_ix hu (qv (i := 3) n_0 rfl (.inl rfl)) qe_int (fun _ _ => rfl)) qe_int (nomark _)) (qe_and (qe_cmp (q_eq hu) (q_len (qa_cons (q_ix hu (qv (i := 3) n_0 rfl (.inl rfl)) qe_int (fun _ _ => rfl)) qa_nil rfl) rfl rfl rfl e.len) qe_int (nomark _)) (qe_and (qe_cmp (q_eq hu) (q_ix hu (q_ix hu (q_ix hu (qv (i := 3) n_0 rfl (.inl rfl)) qe_int (fun _ _ => rfl)) qe_int (fun _ _ => rfl)) qe_int (fun _ _ => rfl)) qe_int (nomark _)) (qe_one (qe_cmp (q_eq hu) (q_ix hu (q_ix hu (q_ix hu (q_ix hu (qv (i := 3) n_0 rfl (.inl rfl)) qe_int (fun _ _ => rfl)) qe_int (fun _ _ => rfl)) qe_int (fun _ _ => rfl)) qe_int (fun _ _ => rfl)) (qv (i := 0) n_9 rfl (.inl rfl)) (nomark _)))))) rfl (.inl rfl))
    (qss_one (qs_expr (q_extend (qv (i := 2) n_10 rfl (.inl rfl)) (qa_cons (qe_if (qt_of (qv (i := 4) n_11 rfl (.inl rfl)) (fun _ => rfl)) (q_ix hu (q_ix hu (q_ix hu (q_ix hu (qv (i := 3) n_0 rfl (.inl rfl)) qe_int (fun _ _ => rfl)) qe_int (fun _ _ => rfl)) qe_int (fun _ _ => rfl)) qe_int (fun _ _ => rfl)) (qe_lst (qa_cons (qv (i := 3) n_0 rfl (.inl rfl)) qa_nil rfl))) qa_nil rfl) rfl rfl rfl rfl rfl) rfl))) (fun _ => rfl))
    (qss_one (qs_ret (qv (i := 2) n_10 rfl (.inl rfl))))))
theorem d_chosen (e : Own P w K mg base k c) (hr : Room k (A.deeper (envOfC "chosen" (defScope s_chosen) s.heap.objs.size f cdv))) : QSs (cxOf CX0 P w K mg base N_chosen "chosen" (defScope s_chosen) f cdv A outer s H E).nox (defBody s_chosen) (b_chosen c) := by
  have hu := G.hu_of hr
  exact (qss_cons (qs_set (i := 2) S_chosen.nd rfl (.inl rfl) (qe_lst qa_nil) rfl (.inl rfl))
    (qss_cons (qs_set (i := 3) S_chosen.nd rfl (.inl rfl) (q_sorted (qa_cons (q_own e.f_spread_out hr n_12 rfl (qa_cons (qv (i := 0) n_9 rfl (.inl rfl)) (qa_cons (qv (i := 1) n_8 rfl (.inl rfl)) qa_nil rfl) rfl) rfl rfl) qa_nil rfl) rfl rfl hu rfl e.sorted) rfl (.inl rfl))
    (qss_cons (qs_for PassesOwn.never rfl (qi_any (qe_if (qt_cmp (q_eq hu) (qv (i := 0) n_9 rfl (.inl rfl)) (q_str s_0) (nomark _)) (qv (i := 3) n_5 rfl (.inl rfl)) (qe_rev (qv (i := 3) n_5 rfl (.inl rfl))))) (qg_tup rfl (qgs_cons (qg_name (i := 4) S_chosen.nd rfl (.inl rfl) (.inl rfl)) (qgs_cons (qg_name (i := 5) S_chosen.nd rfl (.inl rfl) (.inl rfl)) qgs_nil rfl) rfl) rfl rfl) (qss_one (qs_if (qt_cmp (qo_notIn hu) (qv (i := 5) n_6 rfl (.inl rfl)) (qe_lc rfl S_chosen.nd (own := [("other", 6), ("known", 7)]) (t := (.tp (.cons (.nm 6) (.cons (.nm 7) .nil)))) (qi_any (qv (i := 2) n_13 rfl (.inl rfl))) (by show blkC N_chosen (defScope s_chosen) _ _ = true; decide +kernel) (by decide) (fun _ _ _ _ _ => (pg_tup rfl (pgs_cons (pg_name (i := 6) S_chosen.nd rfl (.inl rfl) (.inr rfl)) (pgs_cons (pg_name (i := 7) S_chosen.nd rfl (.inl rfl) (.inr rfl)) pgs_nil rfl) rfl) rfl rfl)) (fun _ _ _ _ _ => qts_nil) (fun _ _ _ _ _ => (qv (i := 7) n_14 rfl (.inl rfl))) (fun _ => rfl)) (by with_unfolding_all rfl)) (qss_one (qs_expr (q_append (qv (i := 2) n_13 rfl (.inl rfl)) (qa_cons (qe_tup (qa_cons (qv (i := 4) n_15 rfl (.inl rfl)) (qa_cons (qv (i := 5) n_6 rfl (.inl rfl)) qa_nil rfl) rfl)) qa_nil rfl) rfl rfl rfl rfl rfl) rfl)) qss_nil)) (fun _ => rfl))
    (qss_one (qs_ret (qe_if (qt_cmp (q_eq hu) (q_len (qa_cons (qv (i := 2) n_13 rfl (.inl rfl)) qa_nil rfl) rfl rfl rfl e.len) qe_int (nomark _)) (q_ix hu (qv (i := 2) n_13 rfl (.inl rfl)) qe_int (fun _ _ => rfl)) (q_own e.f_alone hr n_16 rfl (qa_cons (qe_tup (qa_cons (qv (i := 0) n_9 rfl (.inl rfl)) (qa_cons (q_tuple (qa_cons (q_sorted (qa_cons (qv (i := 2) n_13 rfl (.inl rfl)) qa_nil rfl) rfl rfl hu rfl e.sorted) qa_nil rfl) rfl rfl rfl e.tuple) qa_nil rfl) rfl)) qa_nil rfl) rfl rfl)))))))
theorem d_picked (e : Own P w K mg base k c) (hr : Room k (A.deeper (envOfC "picked" (defScope s_picked) s.heap.objs.size f cdv))) : QSs (cxOf CX0 P w K mg base N_picked "picked" (defScope s_picked) f cdv A outer s H E).nox (defBody s_picked) (b_picked c) := by
  have hu := G.hu_of hr
  exact (qss_cons (qs_if (qt_not (qt_of (q_ix hu (qv (i := 1) n_17 rfl (.inl rfl)) qe_int (fun _ _ => rfl)) (fun _ => rfl))) (qss_cons (qs_set (i := 4) S_picked.nd rfl (.inl rfl) (qe_if (qt_cmp (q_eq hu) (qv (i := 0) n_18 rfl (.inl rfl)) (q_str s_1) (nomark _)) (qe_cmp qo_lt (q_ix hu (qv (i := 1) n_17 rfl (.inl rfl)) qe_int (fun _ _ => rfl)) qe_int (nomark _)) (qe_cmp (q_eq hu) (q_ix hu (qv (i := 1) n_17 rfl (.inl rfl)) qe_int (fun _ _ => rfl)) qe_int (nomark _))) rfl (.inl rfl))
    (qss_one (qs_ret (qe_if (qt_of (qv (i := 4) n_19 rfl (.inl rfl)) (fun _ => rfl)) (qv (i := 2) n_20 rfl (.inl rfl)) (qv (i := 3) n_21 rfl (.inl rfl)))))) qss_nil)
    (qss_one (qs_ret (qe_if (qt_cmp (q_eq hu) (qv (i := 2) n_20 rfl (.inl rfl)) (qv (i := 3) n_21 rfl (.inl rfl)) (nomark _)) (qv (i := 2) n_20 rfl (.inl rfl)) (q_own e.f_alone hr n_16 rfl (qa_cons (qe_tup (qa_cons (q_str s_2) (qa_cons (qv (i := 0) n_18 rfl (.inl rfl)) (qa_cons (qv (i := 1) n_17 rfl (.inl rfl)) (qa_cons (qv (i := 2) n_20 rfl (.inl rfl)) (qa_cons (qv (i := 3) n_21 rfl (.inl rfl)) qa_nil rfl) rfl) rfl) rfl) rfl)) qa_nil rfl) rfl rfl)))))
theorem d_forward (e : Own P w K mg base k c) (hr : Room k (A.deeper (envOfC "forward" (defScope s_forward) s.heap.objs.size f cdv))) : QSs (cxOf CX0 P w K mg base N_forward "forward" (defScope s_forward) f cdv A outer s H E).nox (defBody s_forward) (b_forward c) := by
  have hu := G.hu_of hr
  exact (qss_one (qs_ret (qe_if (q_w (qw_or (qt_not (qt_of (q_ix hu (qv (i := 0) n_17 rfl (.inl rfl)) qe_int (fun _ _ => rfl)) (fun _ => rfl))) (qw_or1 (qt_cmp qo_gt (q_ix hu (q_ix hu (q_ix hu (qv (i := 0) n_17 rfl (.inl rfl)) qe_int (fun _ _ => rfl)) qe_int (fun _ _ => rfl)) qe_int (fun _ _ => rfl)) qe_int (nomark _))))) (qv (i := 0) n_17 rfl (.inl rfl)) (q_own e.f_added hr n_23 rfl (qa_cons (q_glob n_22 rfl e.k_NOTHING) (qa_cons (qv (i := 0) n_17 rfl (.inl rfl)) (qa_cons (qe_neg qe_int) qa_nil rfl) rfl) rfl) rfl rfl))))
theorem d_tidy_pick (e : Own P w K mg base k c) (hr : Room k (A.deeper (envOfC "tidy_pick" (defScope s_tidy_pick) s.heap.objs.size f cdv))) : QSs (cxOf CX0 P w K mg base N_tidy_pick "tidy_pick" (defScope s_tidy_pick) f cdv A outer s H E).nox (defBody s_tidy_pick) (b_tidy_pick c) := by
  have hu := G.hu_of hr
  exact (qss_cons (qs_if (qt_cmp (qo_in hu) (qv (i := 0) n_18 rfl (.inl rfl)) (qe_tup (qa_cons (q_str s_4) (qa_cons (q_str s_3) qa_nil rfl) rfl)) (by with_unfolding_all rfl)) (qss_cons (qs_set (i := 5) S_tidy_pick.nd rfl (.inl rfl) (q_own e.f_forward hr n_25 rfl (qa_cons (q_own e.f_added hr n_23 rfl (qa_cons (qv (i := 1) n_13 rfl (.inl rfl)) (qa_cons (qv (i := 2) n_24 rfl (.inl rfl)) (qa_cons (qe_neg qe_int) qa_nil rfl) rfl) rfl) rfl rfl) qa_nil rfl) rfl rfl) rfl (.inl rfl))
    (qss_one (qs_ret (qe_if (qt_cmp (q_eq hu) (qv (i := 0) n_18 rfl (.inl rfl)) (q_str s_4) (nomark _)) (q_own e.f_picked hr n_26 rfl (qa_cons (q_str s_4) (qa_cons (qv (i := 5) n_17 rfl (.inl rfl)) (qa_cons (qv (i := 3) n_20 rfl (.inl rfl)) (qa_cons (qv (i := 4) n_21 rfl (.inl rfl)) qa_nil rfl) rfl) rfl) rfl) rfl rfl) (q_own e.f_picked hr n_26 rfl (qa_cons (q_str s_4) (qa_cons (qv (i := 5) n_17 rfl (.inl rfl)) (qa_cons (qv (i := 4) n_21 rfl (.inl rfl)) (qa_cons (qv (i := 3) n_20 rfl (.inl rfl)) qa_nil rfl) rfl) rfl) rfl) rfl rfl))))) qss_nil)
    (qss_cons (qs_if (qt_cmp (qo_in hu) (qv (i := 0) n_18 rfl (.inl rfl)) (qe_tup (qa_cons (q_str s_1) (qa_cons (q_str s_5) qa_nil rfl) rfl)) (by with_unfolding_all rfl)) (qss_one (qs_set (i := 5) S_tidy_pick.nd rfl (.inl rfl) (q_own e.f_added hr n_23 rfl (qa_cons (qv (i := 1) n_13 rfl (.inl rfl)) (qa_cons (qv (i := 2) n_24 rfl (.inl rfl)) (qa_cons (qe_neg qe_int) qa_nil rfl) rfl) rfl) rfl rfl) rfl (.inl rfl))) (qss_one (qs_set (i := 5) S_tidy_pick.nd rfl (.inl rfl) (q_own e.f_added hr n_23 rfl (qa_cons (qv (i := 2) n_24 rfl (.inl rfl)) (qa_cons (qv (i := 1) n_13 rfl (.inl rfl)) (qa_cons (qe_neg qe_int) qa_nil rfl) rfl) rfl) rfl rfl) rfl (.inl rfl))))
    (qss_one (qs_ret (qe_if (qt_cmp (qo_in hu) (qv (i := 0) n_18 rfl (.inl rfl)) (qe_tup (qa_cons (q_str s_1) (qa_cons (q_str s_6) qa_nil rfl) rfl)) (by with_unfolding_all rfl)) (q_own e.f_picked hr n_26 rfl (qa_cons (q_str s_1) (qa_cons (qv (i := 5) n_17 rfl (.inl rfl)) (qa_cons (qv (i := 3) n_20 rfl (.inl rfl)) (qa_cons (qv (i := 4) n_21 rfl (.inl rfl)) qa_nil rfl) rfl) rfl) rfl) rfl rfl) (q_own e.f_picked hr n_26 rfl (qa_cons (q_str s_1) (qa_cons (qv (i := 5) n_17 rfl (.inl rfl)) (qa_cons (qv (i := 4) n_21 rfl (.inl rfl)) (qa_cons (qv (i := 3) n_20 rfl (.inl rfl)) qa_nil rfl) rfl) rfl) rfl) rfl rfl))))))
theorem d_tidy_sum (e : Own P w K mg base k c) (hr : Room k (A.deeper (envOfC "tidy_sum" (defScope s_tidy_sum) s.heap.objs.size f cdv))) : QSs (cxOf CX0 P w K mg base N_tidy_sum "tidy_sum" (defScope s_tidy_sum) f cdv A outer s H E).nox (defBody s_tidy_sum) (b_tidy_sum c) := by
  have hu := G.hu_of hr
  exact (qss_cons (qs_set (i := 1) S_tidy_sum.nd rfl (.inl rfl) (q_ix hu (qv (i := 0) n_27 rfl (.inl rfl)) qe_int (fun _ _ => rfl)) rfl (.inl rfl))
    (qss_cons (qs_if (qt_cmp (q_eq hu) (qv (i := 1) n_9 rfl (.inl rfl)) (q_str s_7) (nomark _)) (qss_one (qs_ret (qe_tup (qa_cons (q_ix hu (qv (i := 0) n_27 rfl (.inl rfl)) qe_int (fun _ _ => rfl)) (qa_cons (qe_tup qa_nil) qa_nil rfl) rfl)))) qss_nil)
    (qss_cons (qs_if (qt_cmp (qo_in hu) (qv (i := 1) n_9 rfl (.inl rfl)) (qe_tup (qa_cons (q_str s_9) (qa_cons (q_str s_8) qa_nil rfl) rfl)) (by with_unfolding_all rfl)) (qss_one (qs_ret (q_own e.f_alone hr n_16 rfl (qa_cons (qv (i := 0) n_27 rfl (.inl rfl)) qa_nil rfl) rfl rfl))) qss_nil)
    (qss_cons (qs_if (qt_cmp (q_eq hu) (qv (i := 1) n_9 rfl (.inl rfl)) (q_str s_10) (nomark _)) (qss_one (qs_ret (q_own e.f_added hr n_23 rfl (qa_cons (q_glob n_22 rfl e.k_NOTHING) (qa_cons (q_own e.f_tidy_sum hr n_28 rfl (qa_cons (q_ix hu (qv (i := 0) n_27 rfl (.inl rfl)) qe_int (fun _ _ => rfl)) qa_nil rfl) rfl rfl) (qa_cons (qe_neg qe_int) qa_nil rfl) rfl) rfl) rfl rfl))) qss_nil)
    (qss_cons (qs_if (qt_cmp (q_eq hu) (qv (i := 1) n_9 rfl (.inl rfl)) (q_str s_11) (nomark _)) (qss_one (qs_ret (q_own e.f_added hr n_23 rfl (qa_cons (q_glob n_22 rfl e.k_NOTHING) (qa_cons (q_own e.f_tidy_sum hr n_28 rfl (qa_cons (q_ix hu (qv (i := 0) n_27 rfl (.inl rfl)) qe_int (fun _ _ => rfl)) qa_nil rfl) rfl rfl) (qa_cons (q_ix hu (qv (i := 0) n_27 rfl (.inl rfl)) qe_int (fun _ _ => rfl)) qa_nil rfl) rfl) rfl) rfl rfl))) qss_nil)
    (qss_cons (qs_if (qt_cmp (q_eq hu) (qv (i := 1) n_9 rfl (.inl rfl)) (q_str s_2) (nomark _)) (qss_cons (qs_setLc (i := 2) rfl S_tidy_sum.nd rfl rfl (sw_true rfl rfl rfl (by decide +kernel)) (own := [("part", 5)]) (t := (.nm 5)) (qi_any (qe_sl (qv (i := 0) n_27 rfl (.inl rfl)) (qp_some qe_int) qp_none)) (by show blkC N_tidy_sum (defScope s_tidy_sum) _ _ = true; decide +kernel) (by decide) (fun _ _ _ _ _ => (pg_name (i := 5) S_tidy_sum.nd rfl (.inl rfl) (.inr rfl))) (fun _ _ _ _ _ => qts_nil) (fun _ _ _ _ _ => (q_own e.f_tidy_sum hr n_28 rfl (qa_cons (qv (i := 5) n_29 rfl (.inl rfl)) qa_nil rfl) rfl rfl)) (fun _ => rfl))
    (qss_one (qs_ret (q_own e.f_tidy_pick hr n_31 rfl (qa_cons (q_ix hu (qv (i := 0) n_27 rfl (.inl rfl)) qe_int (fun _ _ => rfl)) (qa_cons (q_ix hu (qv (i := 2) n_30 rfl (.inl rfl)) qe_int (fun _ _ => rfl)) (qa_cons (q_ix hu (qv (i := 2) n_30 rfl (.inl rfl)) qe_int (fun _ _ => rfl)) (qa_cons (q_ix hu (qv (i := 2) n_30 rfl (.inl rfl)) qe_int (fun _ _ => rfl)) (qa_cons (q_ix hu (qv (i := 2) n_30 rfl (.inl rfl)) qe_int (fun _ _ => rfl)) qa_nil rfl) rfl) rfl) rfl) rfl) rfl rfl)))) qss_nil)
    (qss_cons (qs_set (i := 3) S_tidy_sum.nd rfl (.inl rfl) (q_own e.f_tidy_sum hr n_28 rfl (qa_cons (q_ix hu (qv (i := 0) n_27 rfl (.inl rfl)) qe_int (fun _ _ => rfl)) qa_nil rfl) rfl rfl) rfl (.inl rfl))
    (qss_cons (qs_set (i := 4) S_tidy_sum.nd rfl (.inl rfl) (q_own e.f_tidy_sum hr n_28 rfl (qa_cons (q_ix hu (qv (i := 0) n_27 rfl (.inl rfl)) qe_int (fun _ _ => rfl)) qa_nil rfl) rfl rfl) rfl (.inl rfl))
    (qss_cons (qs_if (qt_cmp (qo_in hu) (qv (i := 1) n_9 rfl (.inl rfl)) (qe_tup (qa_cons (q_str s_13) (qa_cons (q_str s_12) qa_nil rfl) rfl)) (by with_unfolding_all rfl)) (qss_one (qs_ret (q_own e.f_added hr n_23 rfl (qa_cons (qv (i := 3) n_13 rfl (.inl rfl)) (qa_cons (qv (i := 4) n_24 rfl (.inl rfl)) (qa_cons (qe_if (qt_cmp (q_eq hu) (qv (i := 1) n_9 rfl (.inl rfl)) (q_str s_13) (nomark _)) qe_int (qe_neg qe_int)) qa_nil rfl) rfl) rfl) rfl rfl))) qss_nil)
    (qss_one (qs_ret (q_own e.f_chosen hr n_32 rfl (qa_cons (qv (i := 1) n_9 rfl (.inl rfl)) (qa_cons (qe_lst (qa_cons (qv (i := 3) n_13 rfl (.inl rfl)) (qa_cons (qv (i := 4) n_24 rfl (.inl rfl)) qa_nil rfl) rfl)) qa_nil rfl) rfl) rfl rfl))))))))))))
theorem d__law_start (e : Own P w K mg base k c) (hr : Room k (A.deeper (envOfC "_law_start" (defScope s__law_start) s.heap.objs.size f cdv))) : QSs (cxOf CX0 P w K mg base N__law_start "_law_start" (defScope s__law_start) f cdv A outer s H E).nox (defBody s__law_start) (b__law_start c) := by
  have hu := G.hu_of hr
  exact (qss_one (qs_ret (qe_lst (qa_cons (q_list (qa_cons (qv (i := 0) n_33 rfl (.inl rfl)) qa_nil rfl) rfl rfl rfl rfl e.list) (qa_cons qe_int (qa_cons qe_int (qa_cons qe_int qa_nil rfl) rfl) rfl) rfl))))
theorem d__law_draw (e : Own P w K mg base k c) (hr : Room k (A.deeper (envOfC "_law_draw" (defScope s__law_draw) s.heap.objs.size f cdv))) : QSs (cxOf CX0 P w K mg base N__law_draw "_law_draw" (defScope s__law_draw) f cdv A outer s H E).nox (defBody s__law_draw) (b__law_draw c) := by
  have hu := G.hu_of hr
  exact (qss_cons (qs_asg (qe_op qo_add (q_ix hu (qv (i := 0) n_34 rfl (.inl rfl)) qe_int (fun _ _ => rfl)) qe_int) (qg_sub' hu (qv (i := 0) n_34 rfl (.inl rfl)) qe_int (fun _ => rfl)) rfl rfl rfl)
    (qss_cons (qs_if (qt_cmp qo_gt (q_ix hu (qv (i := 0) n_34 rfl (.inl rfl)) qe_int (fun _ _ => rfl)) qe_int (nomark _)) (qss_cons (qs_set (i := 2) S__law_draw.nd rfl (.inl rfl) (qe_op qo_mod (q_int (qa_cons (q_ix hu (qv (i := 0) n_34 rfl (.inl rfl)) qe_int (fun _ _ => rfl)) qa_nil rfl) rfl rfl rfl e.int) (qv (i := 1) n_35 rfl (.inl rfl))) rfl (.inl rfl))
    (qss_cons (qs_asg (qe_op qo_div (q_ix hu (qv (i := 0) n_34 rfl (.inl rfl)) qe_int (fun _ _ => rfl)) (qv (i := 1) n_35 rfl (.inl rfl))) (qg_sub' hu (qv (i := 0) n_34 rfl (.inl rfl)) qe_int (fun _ => rfl)) rfl rfl rfl)
    (qss_one (qs_ret (qv (i := 2) n_10 rfl (.inl rfl)))))) qss_nil)
    (qss_cons (qs_set (i := 3) S__law_draw.nd rfl (.inl rfl) qe_int rfl (.inl rfl))
    (qss_cons (qs_if (qt_cmp qo_gt (q_len (qa_cons (q_ix hu (qv (i := 0) n_34 rfl (.inl rfl)) qe_int (fun _ _ => rfl)) qa_nil rfl) rfl rfl rfl e.len) qe_int (nomark _)) (qss_one (qs_set (i := 3) S__law_draw.nd rfl (.inl rfl) (q_abs (qa_cons (q_ix hu (q_ix hu (qv (i := 0) n_34 rfl (.inl rfl)) qe_int (fun _ _ => rfl)) (qe_op qo_mod (q_int (qa_cons (q_ix hu (qv (i := 0) n_34 rfl (.inl rfl)) qe_int (fun _ _ => rfl)) qa_nil rfl) rfl rfl rfl e.int) (q_len (qa_cons (q_ix hu (qv (i := 0) n_34 rfl (.inl rfl)) qe_int (fun _ _ => rfl)) qa_nil rfl) rfl rfl rfl e.len)) (fun _ _ => rfl)) qa_nil rfl) rfl rfl rfl e.abs) rfl (.inl rfl))) qss_nil)
    (qss_cons (qs_asg (qe_op qo_add (q_ix hu (qv (i := 0) n_34 rfl (.inl rfl)) qe_int (fun _ _ => rfl)) qe_int) (qg_sub' hu (qv (i := 0) n_34 rfl (.inl rfl)) qe_int (fun _ => rfl)) rfl rfl rfl)
    (qss_cons (qs_if (qt_cmp qo_ge (qv (i := 3) n_36 rfl (.inl rfl)) (qe_op qo_pow qe_int qe_int) (nomark _)) (qss_cons (qs_asg (qe_op qo_div (qv (i := 3) n_36 rfl (.inl rfl)) (qv (i := 1) n_35 rfl (.inl rfl))) (qg_sub' hu (qv (i := 0) n_34 rfl (.inl rfl)) qe_int (fun _ => rfl)) rfl rfl rfl)
    (qss_one (qs_ret (qe_op qo_mod (q_int (qa_cons (qv (i := 3) n_36 rfl (.inl rfl)) qa_nil rfl) rfl rfl rfl e.int) (qv (i := 1) n_35 rfl (.inl rfl)))))) qss_nil)
    (qss_cons (qs_set (i := 4) S__law_draw.nd rfl (.inl rfl) (qe_op qo_mod (q_int (qa_cons (qe_op qo_add (qe_op qo_mul (qe_op qo_add (qv (i := 3) n_36 rfl (.inl rfl)) qe_int) qe_int) (qe_op qo_mul (q_ix hu (qv (i := 0) n_34 rfl (.inl rfl)) qe_int (fun _ _ => rfl)) qe_int)) qa_nil rfl) rfl rfl rfl e.int) qe_int) rfl (.inl rfl))
    (qss_cons (qs_set (i := 4) S__law_draw.nd rfl (.inl rfl) (qe_op qo_mod (q_int (qa_cons (qe_op qo_add (qe_op qo_add (qe_op qo_mul (qv (i := 4) n_37 rfl (.inl rfl)) qe_int) (qe_op qo_div (qv (i := 3) n_36 rfl (.inl rfl)) qe_int)) (q_ix hu (qv (i := 0) n_34 rfl (.inl rfl)) qe_int (fun _ _ => rfl))) qa_nil rfl) rfl rfl rfl e.int) qe_int) rfl (.inl rfl))
    (qss_one (qs_ret (qe_op qo_mod (qe_op qo_div (qv (i := 4) n_37 rfl (.inl rfl)) qe_int) (qv (i := 1) n_35 rfl (.inl rfl)))))))))))))
theorem d__law_one_of (e : Own P w K mg base k c) (hr : Room k (A.deeper (envOfC "_law_one_of" (defScope s__law_one_of) s.heap.objs.size f cdv))) : QSs (cxOf CX0 P w K mg base N__law_one_of "_law_one_of" (defScope s__law_one_of) f cdv A outer s H E).nox (defBody s__law_one_of) (b__law_one_of c) := by
  have hu := G.hu_of hr
  exact (qss_one (qs_ret (q_ix hu (qv (i := 1) n_38 rfl (.inl rfl)) (q_own e.f__law_draw hr n_39 rfl (qa_cons (qv (i := 0) n_34 rfl (.inl rfl)) (qa_cons (q_len (qa_cons (qv (i := 1) n_38 rfl (.inl rfl)) qa_nil rfl) rfl rfl rfl e.len) qa_nil rfl) rfl) rfl rfl) (fun _ _ => rfl))))
theorem d__law_words (e : Own P w K mg base k c) (hr : Room k (A.deeper (envOfC "_law_words" (defScope s__law_words) s.heap.objs.size f cdv))) : QSs (cxOf CX0 P w K mg base N__law_words "_law_words" (defScope s__law_words) f cdv A outer s H E).nox (defBody s__law_words) (b__law_words c) := by
  have hu := G.hu_of hr
  exact (qss_cons (qs_set (i := 2) S__law_words.nd rfl (.inr rfl) (q_str s_14) rfl (.inl rfl))
    (qss_cons (qs_set (i := 3) S__law_words.nd rfl (.inr rfl) (q_own e.f__law_draw hr n_39 rfl (qa_cons (qv (i := 0) n_34 rfl (.inl rfl)) (qa_cons qe_int qa_nil rfl) rfl) rfl rfl) rfl (.inl rfl))
    (qss_cons (qs_set (i := 4) S__law_words.nd rfl (.inr rfl) (qe_op qo_add qe_int (qe_op qo_mul qe_int (q_own e.f__law_draw hr n_39 rfl (qa_cons (qv (i := 0) n_34 rfl (.inl rfl)) (qa_cons qe_int qa_nil rfl) rfl) rfl rfl))) rfl (.inl rfl))
    (qss_cons (qs_set (i := 5) S__law_words.nd rfl (.inr rfl) (qe_sl (q_str s_15) qp_none (qp_some (q_own e.f__law_draw hr n_39 rfl (qa_cons (qv (i := 0) n_34 rfl (.inl rfl)) (qa_cons qe_int qa_nil rfl) rfl) rfl rfl))) rfl (.inl rfl))
    (qss_cons (qs_if (qt_cmp (q_eq hu) (q_own e.f__law_draw hr n_39 rfl (qa_cons (qv (i := 0) n_34 rfl (.inl rfl)) (qa_cons qe_int qa_nil rfl) rfl) rfl rfl) qe_int (nomark _)) (qss_one (qs_ret (qe_lc rfl S__law_words.nd (own := [("k", 6)]) (t := (.nm 6)) (qi_r1 rfl e.range (qa_cons (qv (i := 1) n_40 rfl (.inl rfl)) qa_nil rfl) rfl) (by show blkC N__law_words (defScope s__law_words) _ _ = true; decide +kernel) (by decide) (fun _ _ _ _ _ => (pg_name (i := 6) S__law_words.nd rfl (.inl rfl) (.inr rfl))) (fun _ _ _ _ _ => qts_nil) (fun _ _ _ _ _ => (qe_op qo_add (qv (i := 5) n_41 rfl (.inr (.inl rfl))) (q_ix hu (qv (i := 2) n_42 rfl (.inr (.inl rfl))) (qe_op qo_mod (q_int (qa_cons (qe_op qo_add (qv (i := 3) n_43 rfl (.inr (.inl rfl))) (qe_op qo_mul (qv (i := 6) n_44 rfl (.inl rfl)) (qv (i := 4) n_45 rfl (.inr (.inl rfl))))) qa_nil rfl) rfl rfl rfl e.int) qe_int) (fun _ _ => rfl)))) (fun _ => rfl)))) qss_nil)
    (qss_one (qs_ret (qe_lc rfl S__law_words.nd (own := [("k", 6)]) (t := (.nm 6)) (qi_r1 rfl e.range (qa_cons (qv (i := 1) n_40 rfl (.inl rfl)) qa_nil rfl) rfl) (by show blkC N__law_words (defScope s__law_words) _ _ = true; decide +kernel) (by decide) (fun _ _ _ _ _ => (pg_name (i := 6) S__law_words.nd rfl (.inl rfl) (.inr rfl))) (fun _ _ _ _ _ => qts_nil) (fun _ _ _ _ _ => (qe_op qo_add (q_ix hu (qv (i := 2) n_42 rfl (.inr (.inl rfl))) (qe_op qo_mod (q_int (qa_cons (qe_op qo_add (qv (i := 3) n_43 rfl (.inr (.inl rfl))) (qe_op qo_mul (qv (i := 6) n_44 rfl (.inl rfl)) (qv (i := 4) n_45 rfl (.inr (.inl rfl))))) qa_nil rfl) rfl rfl rfl e.int) qe_int) (fun _ _ => rfl)) (qv (i := 5) n_41 rfl (.inr (.inl rfl))))) (fun _ => rfl)))))))))
theorem d__law_is_int (e : Own P w K mg base k c) (hr : Room k (A.deeper (envOfC "_law_is_int" (defScope s__law_is_int) s.heap.objs.size f cdv))) : QSs (cxOf CX0 P w K mg base N__law_is_int "_law_is_int" (defScope s__law_is_int) f cdv A outer s H E).nox (defBody s__law_is_int) (b__law_is_int c) := by
  have hu := G.hu_of hr
  exact (qss_one (qs_ret (qe_and (q_isa .int rfl e.isinstance rfl e.int (qv (i := 0) n_46 rfl (.inl rfl)) rfl rfl rfl) (qe_one (qe_not (q_isa .bool rfl e.isinstance rfl e.bool (qv (i := 0) n_46 rfl (.inl rfl)) rfl rfl rfl))))))
theorem d__law_same (e : Own P w K mg base k c) (hr : Room k (A.deeper (envOfC "_law_same" (defScope s__law_same) s.heap.objs.size f cdv))) : QSs (cxOf CX0 P w K mg base N__law_same "_law_same" (defScope s__law_same) f cdv A outer s H E).nox (defBody s__law_same) (b__law_same c) := by
  have hu := G.hu_of hr
  exact (qss_cons (qs_if (qt_of (q_isa .tuple rfl e.isinstance rfl e.tuple (qv (i := 1) n_47 rfl (.inr (.inl rfl))) rfl rfl rfl) (fun _ => rfl)) (qss_cons (qs_if (q_w (qw_or (qt_not (qt_of (q_isa .tuple rfl e.isinstance rfl e.tuple (qv (i := 0) n_46 rfl (.inr (.inl rfl))) rfl rfl rfl) (fun _ => rfl))) (qw_or1 (qt_cmp (q_ne hu) (q_len (qa_cons (qv (i := 0) n_46 rfl (.inr (.inl rfl))) qa_nil rfl) rfl rfl rfl e.len) (q_len (qa_cons (qv (i := 1) n_47 rfl (.inr (.inl rfl))) qa_nil rfl) rfl rfl rfl e.len) (nomark _))))) (qss_one (qs_ret qe_bl)) qss_nil)
    (qss_one (qs_ret (q_all (qa_cons (qe_lc rfl S__law_same.nd (own := [("k", 2)]) (t := (.nm 2)) (qi_r1 rfl e.range (qa_cons (q_len (qa_cons (qv (i := 1) n_47 rfl (.inr (.inl rfl))) qa_nil rfl) rfl rfl rfl e.len) qa_nil rfl) rfl) (by show blkC N__law_same (defScope s__law_same) _ _ = true; decide +kernel) (by decide) (fun _ _ _ _ _ => (pg_name (i := 2) S__law_same.nd rfl (.inl rfl) (.inr rfl))) (fun _ _ _ _ _ => qts_nil) (fun _ _ _ _ _ => (q_own e.f__law_same hr n_48 rfl (qa_cons (q_ix hu (qv (i := 0) n_46 rfl (.inr (.inl rfl))) (qv (i := 2) n_44 rfl (.inl rfl)) (fun _ _ => rfl)) (qa_cons (q_ix hu (qv (i := 1) n_47 rfl (.inr (.inl rfl))) (qv (i := 2) n_44 rfl (.inl rfl)) (fun _ _ => rfl)) qa_nil rfl) rfl) rfl rfl)) (fun _ => rfl)) qa_nil rfl) rfl rfl rfl rfl e.all)))) qss_nil)
    (qss_cons (qs_if (qt_of (q_isa .str rfl e.isinstance rfl e.str (qv (i := 1) n_47 rfl (.inr (.inl rfl))) rfl rfl rfl) (fun _ => rfl)) (qss_one (qs_ret (qe_and (q_isa .str rfl e.isinstance rfl e.str (qv (i := 0) n_46 rfl (.inr (.inl rfl))) rfl rfl rfl) (qe_one (qe_cmp (q_eq hu) (qv (i := 0) n_46 rfl (.inr (.inl rfl))) (qv (i := 1) n_47 rfl (.inr (.inl rfl))) (nomark _)))))) qss_nil)
    (qss_one (qs_ret (qe_and (q_own e.f__law_is_int hr n_49 rfl (qa_cons (qv (i := 0) n_46 rfl (.inr (.inl rfl))) qa_nil rfl) rfl rfl) (qe_one (qe_cmp (q_eq hu) (qv (i := 0) n_46 rfl (.inr (.inl rfl))) (qv (i := 1) n_47 rfl (.inr (.inl rfl))) (nomark _))))))))
theorem d__law_offsets (e : Own P w K mg base k c) (hr : Room k (A.deeper (envOfC "_law_offsets" (defScope s__law_offsets) s.heap.objs.size f cdv))) : QSs (cxOf CX0 P w K mg base N__law_offsets "_law_offsets" (defScope s__law_offsets) f cdv A outer s H E).nox (defBody s__law_offsets) (b__law_offsets c) := by
  have hu := G.hu_of hr
  exact (qss_one (qs_ret (q_tuple (qa_cons (qe_lc rfl S__law_offsets.nd (own := [("k", 3)]) (t := (.nm 3)) (qi_r1 rfl e.range (qa_cons (qv (i := 1) n_40 rfl (.inl rfl)) qa_nil rfl) rfl) (by show blkC N__law_offsets (defScope s__law_offsets) _ _ = true; decide +kernel) (by decide) (fun _ _ _ _ _ => (pg_name (i := 3) S__law_offsets.nd rfl (.inl rfl) (.inr rfl))) (fun _ _ _ _ _ => qts_nil) (fun _ _ _ _ _ => (qe_op qo_sub (q_own e.f__law_draw hr n_39 rfl (qa_cons (qv (i := 0) n_34 rfl (.inr (.inl rfl))) (qa_cons (qe_op qo_add (qe_op qo_mul qe_int (qv (i := 2) n_35 rfl (.inr (.inl rfl)))) qe_int) qa_nil rfl) rfl) rfl rfl) (qv (i := 2) n_35 rfl (.inr (.inl rfl))))) (fun _ => rfl)) qa_nil rfl) rfl rfl rfl e.tuple)))
theorem d__law_some_part (e : Own P w K mg base k c) (hr : Room k (A.deeper (envOfC "_law_some_part" (defScope s__law_some_part) s.heap.objs.size f cdv))) : QSs (cxOf CX0 P w K mg base N__law_some_part "_law_some_part" (defScope s__law_some_part) f cdv A outer s H E).nox (defBody s__law_some_part) (b__law_some_part c) := by
  have hu := G.hu_of hr
  exact (qss_cons (qs_set (i := 3) S__law_some_part.nd rfl (.inl rfl) (q_own e.f__law_draw hr n_39 rfl (qa_cons (qv (i := 0) n_34 rfl (.inl rfl)) (qa_cons qe_int qa_nil rfl) rfl) rfl rfl) rfl (.inl rfl))
    (qss_cons (qs_if (q_w (qw_or (qt_cmp (q_eq hu) (qv (i := 2) n_50 rfl (.inl rfl)) qe_int (nomark _)) (qw_or1 (qt_cmp qo_lt (qv (i := 3) n_51 rfl (.inl rfl)) qe_int (nomark _))))) (qss_one (qs_ret (q_own e.f__law_leaf hr n_53 rfl (qa_cons (qv (i := 0) n_34 rfl (.inl rfl)) (qa_cons (qv (i := 1) n_52 rfl (.inl rfl)) qa_nil rfl) rfl) rfl rfl))) qss_nil)
    (qss_cons (qs_if (qt_cmp (q_eq hu) (qv (i := 3) n_51 rfl (.inl rfl)) qe_int (nomark _)) (qss_one (qs_ret (qe_tup (qa_cons (q_str s_10) (qa_cons (q_own e.f__law_some_part hr n_54 rfl (qa_cons (qv (i := 0) n_34 rfl (.inl rfl)) (qa_cons (qv (i := 1) n_52 rfl (.inl rfl)) (qa_cons (qe_op qo_sub (qv (i := 2) n_50 rfl (.inl rfl)) qe_int) qa_nil rfl) rfl) rfl) rfl rfl) qa_nil rfl) rfl)))) qss_nil)
    (qss_cons (qs_if (qt_cmp (q_eq hu) (qv (i := 3) n_51 rfl (.inl rfl)) qe_int (nomark _)) (qss_one (qs_ret (qe_tup (qa_cons (q_str s_11) (qa_cons (q_own e.f__law_draw hr n_39 rfl (qa_cons (qv (i := 0) n_34 rfl (.inl rfl)) (qa_cons qe_int qa_nil rfl) rfl) rfl rfl) (qa_cons (q_own e.f__law_some_part hr n_54 rfl (qa_cons (qv (i := 0) n_34 rfl (.inl rfl)) (qa_cons (qv (i := 1) n_52 rfl (.inl rfl)) (qa_cons (qe_op qo_sub (qv (i := 2) n_50 rfl (.inl rfl)) qe_int) qa_nil rfl) rfl) rfl) rfl rfl) qa_nil rfl) rfl) rfl)))) qss_nil)
    (qss_cons (qs_set (i := 4) S__law_some_part.nd rfl (.inl rfl) (q_own e.f__law_some_part hr n_54 rfl (qa_cons (qv (i := 0) n_34 rfl (.inl rfl)) (qa_cons (qv (i := 1) n_52 rfl (.inl rfl)) (qa_cons (qe_op qo_sub (qv (i := 2) n_50 rfl (.inl rfl)) qe_int) qa_nil rfl) rfl) rfl) rfl rfl) rfl (.inl rfl))
    (qss_cons (qs_set (i := 5) S__law_some_part.nd rfl (.inl rfl) (q_own e.f__law_some_part hr n_54 rfl (qa_cons (qv (i := 0) n_34 rfl (.inl rfl)) (qa_cons (qv (i := 1) n_52 rfl (.inl rfl)) (qa_cons (qe_op qo_sub (qv (i := 2) n_50 rfl (.inl rfl)) qe_int) qa_nil rfl) rfl) rfl) rfl rfl) rfl (.inl rfl))
    (qss_cons (qs_if (qt_cmp qo_lt (qv (i := 3) n_51 rfl (.inl rfl)) qe_int (nomark _)) (qss_one (qs_ret (qe_tup (qa_cons (q_ix hu (qe_lst (qa_cons (q_str s_13) (qa_cons (q_str s_12) (qa_cons (q_str s_0) (qa_cons (q_str s_16) qa_nil rfl) rfl) rfl) rfl)) (qe_op qo_sub (qv (i := 3) n_51 rfl (.inl rfl)) qe_int) (fun _ _ => rfl)) (qa_cons (qv (i := 4) n_0 rfl (.inl rfl)) (qa_cons (qv (i := 5) n_3 rfl (.inl rfl)) qa_nil rfl) rfl) rfl)))) qss_nil)
    (qss_cons (qs_set (i := 6) S__law_some_part.nd rfl (.inl rfl) (q_ix hu (qe_lst (qa_cons (q_str s_1) (qa_cons (q_str s_17) (qa_cons (q_str s_6) (qa_cons (q_str s_5) (qa_cons (q_str s_4) (qa_cons (q_str s_3) qa_nil rfl) rfl) rfl) rfl) rfl) rfl)) (q_own e.f__law_draw hr n_39 rfl (qa_cons (qv (i := 0) n_34 rfl (.inl rfl)) (qa_cons qe_int qa_nil rfl) rfl) rfl rfl) (fun _ _ => rfl)) rfl (.inl rfl))
    (qss_one (qs_ret (qe_tup (qa_cons (q_str s_2) (qa_cons (qv (i := 6) n_18 rfl (.inl rfl)) (qa_cons (qv (i := 4) n_0 rfl (.inl rfl)) (qa_cons (q_own e.f__law_leaf hr n_53 rfl (qa_cons (qv (i := 0) n_34 rfl (.inl rfl)) (qa_cons (qv (i := 1) n_52 rfl (.inl rfl)) qa_nil rfl) rfl) rfl rfl) (qa_cons (qv (i := 5) n_3 rfl (.inl rfl)) (qa_cons (q_own e.f__law_leaf hr n_53 rfl (qa_cons (qv (i := 0) n_34 rfl (.inl rfl)) (qa_cons (qv (i := 1) n_52 rfl (.inl rfl)) qa_nil rfl) rfl) rfl rfl) qa_nil rfl) rfl) rfl) rfl) rfl) rfl))))))))))))
theorem d__law_leaf (e : Own P w K mg base k c) (hr : Room k (A.deeper (envOfC "_law_leaf" (defScope s__law_leaf) s.heap.objs.size f cdv))) : QSs (cxOf CX0 P w K mg base N__law_leaf "_law_leaf" (defScope s__law_leaf) f cdv A outer s H E).nox (defBody s__law_leaf) (b__law_leaf c) := by
  have hu := G.hu_of hr
  exact (qss_cons (qs_set (i := 2) S__law_leaf.nd rfl (.inl rfl) (q_own e.f__law_draw hr n_39 rfl (qa_cons (qv (i := 0) n_34 rfl (.inl rfl)) (qa_cons qe_int qa_nil rfl) rfl) rfl rfl) rfl (.inl rfl))
    (qss_cons (qs_if (qt_cmp (q_eq hu) (qv (i := 2) n_51 rfl (.inl rfl)) qe_int (nomark _)) (qss_one (qs_ret (qe_tup (qa_cons (q_str s_7) (qa_cons (q_own e.f__law_draw hr n_39 rfl (qa_cons (qv (i := 0) n_34 rfl (.inl rfl)) (qa_cons qe_int qa_nil rfl) rfl) rfl rfl) qa_nil rfl) rfl)))) qss_nil)
    (qss_cons (qs_if (qt_cmp (q_eq hu) (qv (i := 2) n_51 rfl (.inl rfl)) qe_int (nomark _)) (qss_one (qs_ret (qe_tup (qa_cons (q_str s_9) (qa_cons (q_own e.f__law_draw hr n_39 rfl (qa_cons (qv (i := 0) n_34 rfl (.inl rfl)) (qa_cons (q_ix hu (qv (i := 1) n_52 rfl (.inl rfl)) (q_str s_18) (fun _ _ => rfl)) qa_nil rfl) rfl) rfl rfl) qa_nil rfl) rfl)))) qss_nil)
    (qss_cons (qs_if (q_w (qw_or (qt_cmp (q_eq hu) (q_ix hu (qv (i := 1) n_52 rfl (.inl rfl)) (q_str s_19) (fun _ _ => rfl)) qe_int (nomark _)) (qw_or1 (q_w (qw_and (qt_cmp (q_eq hu) (qv (i := 2) n_51 rfl (.inl rfl)) qe_int (nomark _)) (qw_and1 (qt_cmp (q_eq hu) (q_ix hu (qv (i := 1) n_52 rfl (.inl rfl)) (q_str s_20) (fun _ _ => rfl)) (qe_lst qa_nil) (nomark _)))))))) (qss_one (qs_ret (qe_tup (qa_cons (q_str s_7) (qa_cons (q_own e.f__law_draw hr n_39 rfl (qa_cons (qv (i := 0) n_34 rfl (.inl rfl)) (qa_cons qe_int qa_nil rfl) rfl) rfl rfl) qa_nil rfl) rfl)))) qss_nil)
    (qss_cons (qs_asg (qe_op qo_sub (q_ix hu (qv (i := 1) n_52 rfl (.inl rfl)) (q_str s_19) (fun _ _ => rfl)) qe_int) (qg_sub' hu (qv (i := 1) n_52 rfl (.inl rfl)) (q_str s_19) (fun _ => rfl)) rfl rfl rfl)
    (qss_cons (qs_if (qt_cmp (q_eq hu) (qv (i := 2) n_51 rfl (.inl rfl)) qe_int (nomark _)) (qss_one (qs_ret (qe_tup (qa_cons (q_str s_8) (qa_cons (q_own e.f__law_one_of hr n_56 rfl (qa_cons (qv (i := 0) n_34 rfl (.inl rfl)) (qa_cons (q_ix hu (qv (i := 1) n_52 rfl (.inl rfl)) (q_str s_20) (fun _ _ => rfl)) qa_nil rfl) rfl) rfl rfl) (qa_cons (q_own e.f__law_offsets hr n_55 rfl (qa_cons (qv (i := 0) n_34 rfl (.inl rfl)) (qa_cons (q_ix hu (qv (i := 1) n_52 rfl (.inl rfl)) (q_str s_18) (fun _ _ => rfl)) (qa_cons qe_int qa_nil rfl) rfl) rfl) rfl rfl) qa_nil rfl) rfl) rfl)))) qss_nil)
    (qss_cons (qs_set (i := 3) S__law_leaf.nd rfl (.inl rfl) (q_own e.f__law_one_of hr n_56 rfl (qa_cons (qv (i := 0) n_34 rfl (.inl rfl)) (qa_cons (q_ix hu (qv (i := 1) n_52 rfl (.inl rfl)) (q_str s_21) (fun _ _ => rfl)) qa_nil rfl) rfl) rfl rfl) rfl (.inl rfl))
    (qss_cons (qs_set (i := 4) S__law_leaf.nd rfl (.inl rfl) (q_own e.f__law_offsets hr n_55 rfl (qa_cons (qv (i := 0) n_34 rfl (.inl rfl)) (qa_cons (q_ix hu (qv (i := 1) n_52 rfl (.inl rfl)) (q_str s_18) (fun _ _ => rfl)) (qa_cons (q_ix hu (qv (i := 1) n_52 rfl (.inl rfl)) (q_str s_22) (fun _ _ => rfl)) qa_nil rfl) rfl) rfl) rfl rfl) rfl (.inl rfl))
    (qss_cons (qs_if (q_w (qw_and (qt_cmp qo_isNot (q_ix hu (qv (i := 1) n_52 rfl (.inl rfl)) (q_str s_23) (fun _ _ => rfl)) qe_non (nomark _)) (qw_and1 (qt_cmp qo_gt (q_own e.f__law_slope hr n_58 rfl (qa_cons (qv (i := 1) n_52 rfl (.inl rfl)) (qa_cons (q_ix hu (qv (i := 1) n_52 rfl (.inl rfl)) (q_str s_24) (fun _ _ => rfl)) (qa_cons (qv (i := 3) n_3 rfl (.inl rfl)) (qa_cons (qv (i := 4) n_57 rfl (.inl rfl)) qa_nil rfl) rfl) rfl) rfl) rfl rfl) (q_ix hu (qv (i := 1) n_52 rfl (.inl rfl)) (q_str s_0) (fun _ _ => rfl)) (nomark _))))) (qss_one (qs_ret (qe_tup (qa_cons (q_str s_7) (qa_cons (q_own e.f__law_draw hr n_39 rfl (qa_cons (qv (i := 0) n_34 rfl (.inl rfl)) (qa_cons qe_int qa_nil rfl) rfl) rfl rfl) qa_nil rfl) rfl)))) qss_nil)
    (qss_one (qs_ret (qe_tup (qa_cons (q_str s_8) (qa_cons (qv (i := 3) n_3 rfl (.inl rfl)) (qa_cons (qv (i := 4) n_57 rfl (.inl rfl)) qa_nil rfl) rfl) rfl)))))))))))))
theorem d__law_slope (e : Own P w K mg base k c) (hr : Room k (A.deeper (envOfC "_law_slope" (defScope s__law_slope) s.heap.objs.size f cdv))) : QSs (cxOf CX0 P w K mg base N__law_slope "_law_slope" (defScope s__law_slope) f cdv A outer s H E).nox (defBody s__law_slope) (b__law_slope c) := by
  have hu := G.hu_of hr
  exact (qss_cons (qs_set (i := 4) S__law_slope.nd rfl (.inl rfl) (q_sum (qa_cons (qe_lc rfl S__law_slope.nd (own := [("k", 5)]) (t := (.nm 5)) (qi_r1 rfl e.range (qa_cons (q_len (qa_cons (qv (i := 3) n_57 rfl (.inr (.inl rfl))) qa_nil rfl) rfl rfl rfl e.len) qa_nil rfl) rfl) (by show blkC N__law_slope (defScope s__law_slope) _ _ = true; decide +kernel) (by decide) (fun _ _ _ _ _ => (pg_name (i := 5) S__law_slope.nd rfl (.inl rfl) (.inr rfl))) (fun _ _ _ _ _ => qts_nil) (fun _ _ _ _ _ => (qe_op qo_mul (q_ix hu (q_ix hu (qv (i := 0) n_52 rfl (.inr (.inl rfl))) (q_str s_23) (fun _ _ => rfl)) (qv (i := 5) n_44 rfl (.inl rfl)) (fun _ _ => rfl)) (q_ix hu (qv (i := 3) n_57 rfl (.inr (.inl rfl))) (qv (i := 5) n_44 rfl (.inl rfl)) (fun _ _ => rfl)))) (fun _ => rfl)) qa_nil rfl) rfl rfl rfl rfl e.sum) rfl (.inl rfl))
    (qss_one (qs_ret (qe_op qo_sub (qe_op qo_add (qv (i := 4) n_59 rfl (.inl rfl)) (q_ix hu (q_ix hu (qv (i := 0) n_52 rfl (.inr (.inl rfl))) (q_str s_25) (fun _ _ => rfl)) (qv (i := 2) n_3 rfl (.inl rfl)) (fun _ _ => rfl))) (q_ix hu (q_ix hu (qv (i := 0) n_52 rfl (.inr (.inl rfl))) (q_str s_25) (fun _ _ => rfl)) (qv (i := 1) n_60 rfl (.inl rfl)) (fun _ _ => rfl))))))
theorem d__law_rim (e : Own P w K mg base k c) (hr : Room k (A.deeper (envOfC "_law_rim" (defScope s__law_rim) s.heap.objs.size f cdv))) : QSs (cxOf CX0 P w K mg base N__law_rim "_law_rim" (defScope s__law_rim) f cdv A outer s H E).nox (defBody s__law_rim) (b__law_rim c) := by
  have hu := G.hu_of hr
  exact (qss_one (qs_ret (q_ix hu (qe_lst (qa_cons qe_int (qa_cons qe_int (qa_cons (qe_op qo_sub (q_own e.f__law_draw hr n_39 rfl (qa_cons (qv (i := 0) n_34 rfl (.inl rfl)) (qa_cons qe_int qa_nil rfl) rfl) rfl rfl) qe_int) qa_nil rfl) rfl) rfl)) (q_own e.f__law_draw hr n_39 rfl (qa_cons (qv (i := 0) n_34 rfl (.inl rfl)) (qa_cons qe_int qa_nil rfl) rfl) rfl rfl) (fun _ _ => rfl))))
theorem d__law_given_row (e : Own P w K mg base k c) (hr : Room k (A.deeper (envOfC "_law_given_row" (defScope s__law_given_row) s.heap.objs.size f cdv))) : QSs (cxOf CX0 P w K mg base N__law_given_row "_law_given_row" (defScope s__law_given_row) f cdv A outer s H E).nox (defBody s__law_given_row) (b__law_given_row c) := by
  have hu := G.hu_of hr
  exact (qss_cons (qs_set (i := 2) S__law_given_row.nd rfl (.inl rfl) (q_own e.f__law_rim hr n_61 rfl (qa_cons (qv (i := 0) n_34 rfl (.inl rfl)) qa_nil rfl) rfl rfl) rfl (.inl rfl))
    (qss_cons (qs_set (i := 3) S__law_given_row.nd rfl (.inl rfl) (q_ix hu (qe_lst (qa_cons (qe_tup qa_nil) (qa_cons (qe_op qo_sub (qv (i := 2) n_62 rfl (.inl rfl)) (q_own e.f__law_draw hr n_39 rfl (qa_cons (qv (i := 0) n_34 rfl (.inl rfl)) (qa_cons qe_int qa_nil rfl) rfl) rfl rfl)) qa_nil rfl) rfl)) (q_own e.f__law_draw hr n_39 rfl (qa_cons (qv (i := 0) n_34 rfl (.inl rfl)) (qa_cons qe_int qa_nil rfl) rfl) rfl rfl) (fun _ _ => rfl)) rfl (.inl rfl))
    (qss_cons (qs_set (i := 4) S__law_given_row.nd rfl (.inl rfl) (q_ix hu (qe_lst (qa_cons (qe_tup qa_nil) (qa_cons (qe_op qo_add (qv (i := 2) n_62 rfl (.inl rfl)) (q_own e.f__law_draw hr n_39 rfl (qa_cons (qv (i := 0) n_34 rfl (.inl rfl)) (qa_cons qe_int qa_nil rfl) rfl) rfl rfl)) qa_nil rfl) rfl)) (q_own e.f__law_draw hr n_39 rfl (qa_cons (qv (i := 0) n_34 rfl (.inl rfl)) (qa_cons qe_int qa_nil rfl) rfl) rfl rfl) (fun _ _ => rfl)) rfl (.inl rfl))
    (qss_one (qs_ret (qe_tup (qa_cons (qv (i := 1) n_60 rfl (.inl rfl)) (qa_cons (qv (i := 2) n_62 rfl (.inl rfl)) (qa_cons (qv (i := 3) n_64 rfl (.inl rfl)) (qa_cons (qv (i := 4) n_63 rfl (.inl rfl)) qa_nil rfl) rfl) rfl) rfl)))))))
theorem d__law_table_world (e : Own P w K mg base k c) (hr : Room k (A.deeper (envOfC "_law_table_world" (defScope s__law_table_world) s.heap.objs.size f cdv))) : QSs (cxOf CX0 P w K mg base N__law_table_world "_law_table_world" (defScope s__law_table_world) f cdv A outer s H E).nox (defBody s__law_table_world) (b__law_table_world c) := by
  have hu := G.hu_of hr
  exact (qss_cons (qs_set (i := 4) S__law_table_world.nd rfl (.inl rfl) (q_own e.f__law_words hr n_67 rfl (qa_cons (qv (i := 0) n_34 rfl (.inl rfl)) (qa_cons (qe_op qo_add (qe_op qo_add (qv (i := 1) n_40 rfl (.inl rfl)) (qv (i := 2) n_65 rfl (.inl rfl))) (qv (i := 3) n_66 rfl (.inl rfl))) qa_nil rfl) rfl) rfl rfl) rfl (.inl rfl))
    (qss_cons (qs_set (i := 5) S__law_table_world.nd rfl (.inl rfl) (qe_disp (qps_cons (q_str s_18) (qv (i := 1) n_40 rfl (.inl rfl)) (qps_cons (q_str s_26) (q_tuple (qa_cons (qe_sl (qv (i := 4) n_68 rfl (.inl rfl)) qp_none (qp_some (qv (i := 1) n_40 rfl (.inl rfl)))) qa_nil rfl) rfl rfl rfl e.tuple) (qps_cons (q_str s_21) (q_sorted (qa_cons (qe_sl (qv (i := 4) n_68 rfl (.inl rfl)) (qp_some (qv (i := 1) n_40 rfl (.inl rfl))) (qp_some (qe_op qo_add (qv (i := 1) n_40 rfl (.inl rfl)) (qv (i := 2) n_65 rfl (.inl rfl))))) qa_nil rfl) rfl rfl hu rfl e.sorted) (qps_cons (q_str s_22) qe_int qps_nil)))) rfl rfl (fun z => by cases z) (by decide)) rfl (.inl rfl))
    (qss_cons (qs_asg (q_sorted (qa_cons (qe_sl (qv (i := 4) n_68 rfl (.inl rfl)) (qp_some (qe_op qo_add (qv (i := 1) n_40 rfl (.inl rfl)) (qv (i := 2) n_65 rfl (.inl rfl)))) qp_none) qa_nil rfl) rfl rfl hu rfl e.sorted) (qg_sub' hu (qv (i := 5) n_52 rfl (.inl rfl)) (q_str s_20) (fun _ => rfl)) rfl rfl rfl)
    (qss_cons (qs_asg qe_non (qg_sub' hu (qv (i := 5) n_52 rfl (.inl rfl)) (q_str s_23) (fun _ => rfl)) rfl rfl rfl)
    (qss_one (qs_ret (qv (i := 5) n_52 rfl (.inl rfl))))))))
theorem d__law_with_row (e : Own P w K mg base k c) (hr : Room k (A.deeper (envOfC "_law_with_row" (defScope s__law_with_row) s.heap.objs.size f cdv))) : QSs (cxOf CX0 P w K mg base N__law_with_row "_law_with_row" (defScope s__law_with_row) f cdv A outer s H E).nox (defBody s__law_with_row) (b__law_with_row c) := by
  have hu := G.hu_of hr
  exact (qss_cons (qs_asg (qe_lc rfl S__law_with_row.nd (own := [("k", 4)]) (t := (.nm 4)) (qi_r1 rfl e.range (qa_cons (q_ix hu (qv (i := 1) n_52 rfl (.inl rfl)) (q_str s_18) (fun _ _ => rfl)) qa_nil rfl) rfl) (by show blkC N__law_with_row (defScope s__law_with_row) _ _ = true; decide +kernel) (by decide) (fun _ _ _ _ _ => (pg_name (i := 4) S__law_with_row.nd rfl (.inl rfl) (.inr rfl))) (fun _ _ _ _ _ => qts_nil) (fun _ _ _ _ _ => (qe_op qo_sub (q_own e.f__law_draw hr n_39 rfl (qa_cons (qv (i := 0) n_34 rfl (.inr (.inl rfl))) (qa_cons qe_int qa_nil rfl) rfl) rfl rfl) qe_int)) (fun _ => rfl)) (qg_sub' hu (qv (i := 1) n_52 rfl (.inl rfl)) (q_str s_23) (fun _ => rfl)) rfl rfl rfl)
    (qss_cons (qs_asg (q_ix hu (qe_lst (qa_cons qe_int (qa_cons (qe_neg qe_int) (qa_cons qe_int qa_nil rfl) rfl) rfl)) (q_own e.f__law_draw hr n_39 rfl (qa_cons (qv (i := 0) n_34 rfl (.inr (.inl rfl))) (qa_cons qe_int qa_nil rfl) rfl) rfl rfl) (fun _ _ => rfl)) (qg_sub' hu (q_ix hu (qv (i := 1) n_52 rfl (.inl rfl)) (q_str s_23) (fun _ _ => rfl)) (q_own e.f__law_draw hr n_39 rfl (qa_cons (qv (i := 0) n_34 rfl (.inr (.inl rfl))) (qa_cons (q_ix hu (qv (i := 1) n_52 rfl (.inl rfl)) (q_str s_18) (fun _ _ => rfl)) qa_nil rfl) rfl) rfl rfl) (fun _ => rfl)) rfl rfl rfl)
    (qss_cons (qs_asg qe_dn (qg_sub' hu (qv (i := 1) n_52 rfl (.inl rfl)) (q_str s_25) (fun _ => rfl)) rfl rfl rfl)
    (qss_cons (qs_for PassesOwn.never rfl (qi_any (q_ix hu (qv (i := 1) n_52 rfl (.inl rfl)) (q_str s_21) (fun _ _ => rfl))) (qg_name (i := 3) S__law_with_row.nd rfl (.inl rfl) (.inl rfl)) (qss_one (qs_asg (q_own e.f__law_draw hr n_39 rfl (qa_cons (qv (i := 0) n_34 rfl (.inr (.inl rfl))) (qa_cons qe_int qa_nil rfl) rfl) rfl rfl) (qg_sub' hu (q_ix hu (qv (i := 1) n_52 rfl (.inl rfl)) (q_str s_25) (fun _ _ => rfl)) (qv (i := 3) n_60 rfl (.inl rfl)) (fun _ => rfl)) rfl rfl rfl)) (fun _ => rfl))
    (qss_one (qs_asg (qv (i := 2) n_69 rfl (.inl rfl)) (qg_sub' hu (qv (i := 1) n_52 rfl (.inl rfl)) (q_str s_0) (fun _ => rfl)) rfl rfl rfl))))))
theorem d__law_rules_of (e : Own P w K mg base k c) (hr : Room k (A.deeper (envOfC "_law_rules_of" (defScope s__law_rules_of) s.heap.objs.size f cdv))) : QSs (cxOf CX0 P w K mg base N__law_rules_of "_law_rules_of" (defScope s__law_rules_of) f cdv A outer s H E).nox (defBody s__law_rules_of) (b__law_rules_of c) := by
  have hu := G.hu_of hr
  exact (qss_cons (qs_set (i := 3) S__law_rules_of.nd rfl (.inl rfl) (qe_lst qa_nil) rfl (.inl rfl))
    (qss_cons (qs_for PassesOwn.never rfl (qi_any (q_ix hu (qv (i := 1) n_52 rfl (.inl rfl)) (q_str s_21) (fun _ _ => rfl))) (qg_name (i := 4) S__law_rules_of.nd rfl (.inl rfl) (.inl rfl)) (qss_cons (qs_asg (q_ix hu (qe_lst (qa_cons qe_int (qa_cons qe_int (qa_cons qe_int qa_nil rfl) rfl) rfl)) (qe_op qo_sub (q_ix hu (qv (i := 1) n_52 rfl (.inl rfl)) (q_str s_18) (fun _ _ => rfl)) qe_int) (fun _ _ => rfl)) (qg_sub' hu (qv (i := 1) n_52 rfl (.inl rfl)) (q_str s_19) (fun _ => rfl)) rfl rfl rfl)
    (qss_cons (qs_asg (qv (i := 4) n_60 rfl (.inl rfl)) (qg_sub' hu (qv (i := 1) n_52 rfl (.inl rfl)) (q_str s_24) (fun _ => rfl)) rfl rfl rfl)
    (qss_one (qs_expr (q_append (qv (i := 3) n_65 rfl (.inl rfl)) (qa_cons (qe_tup (qa_cons (qv (i := 4) n_60 rfl (.inl rfl)) (qa_cons (q_own e.f__law_rim hr n_61 rfl (qa_cons (qv (i := 0) n_34 rfl (.inr (.inl rfl))) qa_nil rfl) rfl rfl) (qa_cons (q_own e.f__law_some_part hr n_54 rfl (qa_cons (qv (i := 0) n_34 rfl (.inr (.inl rfl))) (qa_cons (qv (i := 1) n_52 rfl (.inl rfl)) (qa_cons (qv (i := 2) n_50 rfl (.inl rfl)) qa_nil rfl) rfl) rfl) rfl rfl) qa_nil rfl) rfl) rfl)) qa_nil rfl) rfl rfl rfl rfl rfl) rfl)))) (fun _ => rfl))
    (qss_cons (qs_set (i := 5) S__law_rules_of.nd rfl (.inl rfl) (q_tuple (qa_cons (qe_lc rfl S__law_rules_of.nd (own := [("name", 4)]) (t := (.nm 4)) (qi_any (q_ix hu (qv (i := 1) n_52 rfl (.inl rfl)) (q_str s_20) (fun _ _ => rfl))) (by show blkC N__law_rules_of (defScope s__law_rules_of) _ _ = true; decide +kernel) (by decide) (fun _ _ _ _ _ => (pg_name (i := 4) S__law_rules_of.nd rfl (.inl rfl) (.inr rfl))) (fun _ _ _ _ _ => qts_nil) (fun _ _ _ _ _ => (q_own e.f__law_given_row hr n_70 rfl (qa_cons (qv (i := 0) n_34 rfl (.inr (.inl rfl))) (qa_cons (qv (i := 4) n_60 rfl (.inl rfl)) qa_nil rfl) rfl) rfl rfl)) (fun _ => rfl)) qa_nil rfl) rfl rfl rfl e.tuple) rfl (.inl rfl))
    (qss_one (qs_ret (qe_tup (qa_cons (q_ix hu (qv (i := 1) n_52 rfl (.inl rfl)) (q_str s_26) (fun _ _ => rfl)) (qa_cons (qv (i := 5) n_66 rfl (.inl rfl)) (qa_cons (q_tuple (qa_cons (qv (i := 3) n_65 rfl (.inl rfl)) qa_nil rfl) rfl rfl rfl e.tuple) (qa_cons (qe_tup qa_nil) qa_nil rfl) rfl) rfl) rfl)))))))
theorem d__law_any_table (e : Own P w K mg base k c) (hr : Room k (A.deeper (envOfC "_law_any_table" (defScope s__law_any_table) s.heap.objs.size f cdv))) : QSs (cxOf CX0 P w K mg base N__law_any_table "_law_any_table" (defScope s__law_any_table) f cdv A outer s H E).nox (defBody s__law_any_table) (b__law_any_table c) := by
  have hu := G.hu_of hr
  exact (qss_cons (qs_set (i := 1) S__law_any_table.nd rfl (.inl rfl) (q_own e.f__law_table_world hr n_71 rfl (qa_cons (qv (i := 0) n_34 rfl (.inl rfl)) (qa_cons (qe_op qo_add qe_int (q_own e.f__law_draw hr n_39 rfl (qa_cons (qv (i := 0) n_34 rfl (.inl rfl)) (qa_cons qe_int qa_nil rfl) rfl) rfl rfl)) (qa_cons (qe_op qo_add qe_int (q_own e.f__law_draw hr n_39 rfl (qa_cons (qv (i := 0) n_34 rfl (.inl rfl)) (qa_cons qe_int qa_nil rfl) rfl) rfl rfl)) (qa_cons (q_own e.f__law_draw hr n_39 rfl (qa_cons (qv (i := 0) n_34 rfl (.inl rfl)) (qa_cons qe_int qa_nil rfl) rfl) rfl rfl) qa_nil rfl) rfl) rfl) rfl) rfl rfl) rfl (.inl rfl))
    (qss_cons (qs_asg (qe_op qo_add qe_int (q_own e.f__law_draw hr n_39 rfl (qa_cons (qv (i := 0) n_34 rfl (.inl rfl)) (qa_cons qe_int qa_nil rfl) rfl) rfl rfl)) (qg_sub' hu (qv (i := 1) n_52 rfl (.inl rfl)) (q_str s_22) (fun _ => rfl)) rfl rfl rfl)
    (qss_one (qs_ret (q_own e.f__law_rules_of hr n_72 rfl (qa_cons (qv (i := 0) n_34 rfl (.inl rfl)) (qa_cons (qv (i := 1) n_52 rfl (.inl rfl)) (qa_cons qe_int qa_nil rfl) rfl) rfl) rfl rfl)))))
theorem d__law_refs (e : Own P w K mg base k c) (hr : Room k (A.deeper (envOfC "_law_refs" (defScope s__law_refs) s.heap.objs.size f cdv))) : QSs (cxOf CX0 P w K mg base N__law_refs "_law_refs" (defScope s__law_refs) f cdv A outer s H E).nox (defBody s__law_refs) (b__law_refs c) := by
  have hu := G.hu_of hr
  exact (qss_cons (qs_if (qt_cmp (q_eq hu) (q_ix hu (qv (i := 0) n_73 rfl (.inl rfl)) qe_int (fun _ _ => rfl)) (q_str s_8) (nomark _)) (qss_one (qs_ret (qe_lst (qa_cons (qv (i := 0) n_73 rfl (.inl rfl)) qa_nil rfl)))) qss_nil)
    (qss_cons (qs_set (i := 1) S__law_refs.nd rfl (.inl rfl) (qe_lst qa_nil) rfl (.inl rfl))
    (qss_cons (qs_for PassesOwn.never rfl (qi_any (qe_sl (qv (i := 0) n_73 rfl (.inl rfl)) (qp_some qe_int) qp_none)) (qg_name (i := 2) S__law_refs.nd rfl (.inl rfl) (.inl rfl)) (qss_one (qs_if (qt_of (q_isa .tuple rfl e.isinstance rfl e.tuple (qv (i := 2) n_29 rfl (.inl rfl)) rfl rfl rfl) (fun _ => rfl)) (qss_one (qs_set (i := 1) S__law_refs.nd rfl (.inl rfl) (qe_op qo_add (qv (i := 1) n_10 rfl (.inl rfl)) (q_own e.f__law_refs hr n_74 rfl (qa_cons (qv (i := 2) n_29 rfl (.inl rfl)) qa_nil rfl) rfl rfl)) rfl (.inl rfl))) qss_nil)) (fun _ => rfl))
    (qss_one (qs_ret (qv (i := 1) n_10 rfl (.inl rfl)))))))
theorem d__law_tidy_add (e : Own P w K mg base k c) (hr : Room k (A.deeper (envOfC "_law_tidy_add" (defScope s__law_tidy_add) s.heap.objs.size f cdv))) : QSs (cxOf CX0 P w K mg base N__law_tidy_add "_law_tidy_add" (defScope s__law_tidy_add) f cdv A outer s H E).nox (defBody s__law_tidy_add) (b__law_tidy_add c) := by
  have hu := G.hu_of hr
  exact (qss_cons (qs_set (i := 3) S__law_tidy_add.nd rfl (.inr rfl) (qe_lc rfl S__law_tidy_add.nd (own := [("atom", 5), ("number", 6)]) (t := (.tp (.cons (.nm 5) (.cons (.nm 6) .nil)))) (qi_any (q_ix hu (qv (i := 0) n_0 rfl (.inl rfl)) qe_int (fun _ _ => rfl))) (by show blkC N__law_tidy_add (defScope s__law_tidy_add) _ _ = true; decide +kernel) (by decide) (fun _ _ _ _ _ => (pg_tup rfl (pgs_cons (pg_name (i := 5) S__law_tidy_add.nd rfl (.inl rfl) (.inr rfl)) (pgs_cons (pg_name (i := 6) S__law_tidy_add.nd rfl (.inl rfl) (.inr rfl)) pgs_nil rfl) rfl) rfl rfl)) (fun _ _ _ _ _ => qts_nil) (fun _ _ _ _ _ => (qv (i := 5) n_2 rfl (.inl rfl))) (fun _ => rfl)) rfl (.inl rfl))
    (qss_cons (qs_set (i := 4) S__law_tidy_add.nd rfl (.inr rfl) (qe_lc rfl S__law_tidy_add.nd (own := [("atom", 5), ("number", 6)]) (t := (.tp (.cons (.nm 5) (.cons (.nm 6) .nil)))) (qi_any (q_ix hu (qv (i := 0) n_0 rfl (.inl rfl)) qe_int (fun _ _ => rfl))) (by show blkC N__law_tidy_add (defScope s__law_tidy_add) _ _ = true; decide +kernel) (by decide) (fun _ _ _ _ _ => (pg_tup rfl (pgs_cons (pg_name (i := 5) S__law_tidy_add.nd rfl (.inl rfl) (.inr rfl)) (pgs_cons (pg_name (i := 6) S__law_tidy_add.nd rfl (.inl rfl) (.inr rfl)) pgs_nil rfl) rfl) rfl rfl)) (fun _ _ _ _ _ => qts_nil) (fun _ _ _ _ _ => (qv (i := 6) n_1 rfl (.inl rfl))) (fun _ => rfl)) rfl (.inl rfl))
    (qss_cons (qs_for PassesOwn.never rfl (qi_any (q_ix hu (qv (i := 1) n_3 rfl (.inl rfl)) qe_int (fun _ _ => rfl))) (qg_tup rfl (qgs_cons (qg_name (i := 5) S__law_tidy_add.nd rfl (.inl rfl) (.inl rfl)) (qgs_cons (qg_name (i := 6) S__law_tidy_add.nd rfl (.inl rfl) (.inl rfl)) qgs_nil rfl) rfl) rfl rfl) (qss_one (qs_if (qt_cmp (qo_in hu) (qv (i := 5) n_2 rfl (.inl rfl)) (qv (i := 3) n_75 rfl (.inr (.inl rfl))) (by with_unfolding_all rfl)) (qss_cons (qs_set (i := 7) S__law_tidy_add.nd rfl (.inl rfl) (q_index (qv (i := 3) n_75 rfl (.inr (.inl rfl))) (qa_cons (qv (i := 5) n_2 rfl (.inl rfl)) qa_nil rfl) rfl rfl rfl rfl hu rfl) rfl (.inl rfl))
    (qss_one (qs_asg (qe_op qo_add (q_ix hu (qv (i := 4) n_76 rfl (.inr (.inl rfl))) (qv (i := 7) n_44 rfl (.inl rfl)) (fun _ _ => rfl)) (qe_op qo_mul (qv (i := 2) n_4 rfl (.inl rfl)) (qv (i := 6) n_1 rfl (.inl rfl)))) (qg_sub' hu (qv (i := 4) n_76 rfl (.inr (.inl rfl))) (qv (i := 7) n_44 rfl (.inl rfl)) (fun _ => rfl)) rfl rfl rfl))) (qss_cons (qs_expr (q_append (qv (i := 3) n_75 rfl (.inr (.inl rfl))) (qa_cons (qv (i := 5) n_2 rfl (.inl rfl)) qa_nil rfl) rfl rfl rfl rfl rfl) rfl)
    (qss_one (qs_expr (q_append (qv (i := 4) n_76 rfl (.inr (.inl rfl))) (qa_cons (qe_op qo_mul (qv (i := 2) n_4 rfl (.inl rfl)) (qv (i := 6) n_1 rfl (.inl rfl))) qa_nil rfl) rfl rfl rfl rfl rfl) rfl))))) (fun _ => rfl))
    (qss_cons (qs_set (i := 8) S__law_tidy_add.nd rfl (.inl rfl) (q_sorted (qa_cons (qe_lc rfl S__law_tidy_add.nd (own := [("k", 7)]) (t := (.nm 7)) (qi_r1 rfl e.range (qa_cons (q_len (qa_cons (qv (i := 3) n_75 rfl (.inr (.inl rfl))) qa_nil rfl) rfl rfl rfl e.len) qa_nil rfl) rfl) (by show blkC N__law_tidy_add (defScope s__law_tidy_add) _ _ = true; decide +kernel) (by decide) (fun _ _ _ _ _ => (pg_name (i := 7) S__law_tidy_add.nd rfl (.inl rfl) (.inr rfl))) (fun _ _ _ _ _ => (qts_one (qt_cmp (q_ne hu) (q_ix hu (qv (i := 4) n_76 rfl (.inr (.inl rfl))) (qv (i := 7) n_44 rfl (.inl rfl)) (fun _ _ => rfl)) qe_int (nomark _)))) (fun _ _ _ _ _ => (qe_tup (qa_cons (q_ix hu (qv (i := 3) n_75 rfl (.inr (.inl rfl))) (qv (i := 7) n_44 rfl (.inl rfl)) (fun _ _ => rfl)) (qa_cons (q_ix hu (qv (i := 4) n_76 rfl (.inr (.inl rfl))) (qv (i := 7) n_44 rfl (.inl rfl)) (fun _ _ => rfl)) qa_nil rfl) rfl))) (fun _ => rfl)) qa_nil rfl) rfl rfl hu rfl e.sorted) rfl (.inl rfl))
    (qss_one (qs_ret (qe_tup (qa_cons (qe_op qo_add (q_ix hu (qv (i := 0) n_0 rfl (.inl rfl)) qe_int (fun _ _ => rfl)) (qe_op qo_mul (qv (i := 2) n_4 rfl (.inl rfl)) (q_ix hu (qv (i := 1) n_3 rfl (.inl rfl)) qe_int (fun _ _ => rfl)))) (qa_cons (q_tuple (qa_cons (qv (i := 8) n_6 rfl (.inl rfl)) qa_nil rfl) rfl rfl rfl e.tuple) qa_nil rfl) rfl))))))))
theorem d__law_tidy_many (e : Own P w K mg base k c) (hr : Room k (A.deeper (envOfC "_law_tidy_many" (defScope s__law_tidy_many) s.heap.objs.size f cdv))) : QSs (cxOf CX0 P w K mg base N__law_tidy_many "_law_tidy_many" (defScope s__law_tidy_many) f cdv A outer s H E).nox (defBody s__law_tidy_many) (b__law_tidy_many c) := by
  have hu := G.hu_of hr
  exact (qss_cons (qs_set (i := 2) S__law_tidy_many.nd rfl (.inl rfl) (qe_lst qa_nil) rfl (.inl rfl))
    (qss_cons (qs_for PassesOwn.never rfl (qi_any (qv (i := 1) n_8 rfl (.inl rfl))) (qg_name (i := 3) S__law_tidy_many.nd rfl (.inr rfl) (.inl rfl)) (qss_one (qs_if (q_w (qw_and (qt_cmp (q_eq hu) (q_ix hu (qv (i := 3) n_0 rfl (.inr (.inl rfl))) qe_int (fun _ _ => rfl)) qe_int (nomark _)) (qw_and (qt_cmp (q_eq hu) (q_len (qa_cons (q_ix hu (qv (i := 3) n_0 rfl (.inr (.inl rfl))) qe_int (fun _ _ => rfl)) qa_nil rfl) rfl rfl rfl e.len) qe_int (nomark _)) (qw_and (qt_cmp (q_eq hu) (q_ix hu (q_ix hu (q_ix hu (qv (i := 3) n_0 rfl (.inr (.inl rfl))) qe_int (fun _ _ => rfl)) qe_int (fun _ _ => rfl)) qe_int (fun _ _ => rfl)) qe_int (nomark _)) (qw_and1 (qt_cmp (q_eq hu) (q_ix hu (q_ix hu (q_ix hu (q_ix hu (qv (i := 3) n_0 rfl (.inr (.inl rfl))) qe_int (fun _ _ => rfl)) qe_int (fun _ _ => rfl)) qe_int (fun _ _ => rfl)) qe_int (fun _ _ => rfl)) (qv (i := 0) n_9 rfl (.inl rfl)) (nomark _))))))) (qss_one (qs_set (i := 2) S__law_tidy_many.nd rfl (.inl rfl) (qe_op qo_add (qv (i := 2) n_77 rfl (.inl rfl)) (q_list (qa_cons (q_ix hu (q_ix hu (q_ix hu (q_ix hu (qv (i := 3) n_0 rfl (.inr (.inl rfl))) qe_int (fun _ _ => rfl)) qe_int (fun _ _ => rfl)) qe_int (fun _ _ => rfl)) qe_int (fun _ _ => rfl)) qa_nil rfl) rfl rfl rfl rfl e.list)) rfl (.inl rfl))) (qss_one (qs_expr (q_append (qv (i := 2) n_77 rfl (.inl rfl)) (qa_cons (qv (i := 3) n_0 rfl (.inr (.inl rfl))) qa_nil rfl) rfl rfl rfl rfl rfl) rfl)))) (fun _ => rfl))
    (qss_cons (qs_set (i := 4) S__law_tidy_many.nd rfl (.inr rfl) (qe_lst qa_nil) rfl (.inl rfl))
    (qss_cons (qs_for PassesOwn.never rfl (qi_any (qv (i := 2) n_77 rfl (.inl rfl))) (qg_name (i := 3) S__law_tidy_many.nd rfl (.inr rfl) (.inl rfl)) (qss_cons (qs_setLc (i := 5) rfl S__law_tidy_many.nd rfl rfl (sw_true rfl rfl rfl (by decide +kernel)) (own := [("k", 6)]) (t := (.nm 6)) (qi_r1 rfl e.range (qa_cons (q_len (qa_cons (qv (i := 4) n_78 rfl (.inr (.inl rfl))) qa_nil rfl) rfl rfl rfl e.len) qa_nil rfl) rfl) (by show blkC N__law_tidy_many (defScope s__law_tidy_many) _ _ = true; decide +kernel) (by decide) (fun _ _ _ _ _ => (pg_name (i := 6) S__law_tidy_many.nd rfl (.inl rfl) (.inr rfl))) (fun _ _ _ _ _ => (qts_one (qt_cmp (q_eq hu) (q_ix hu (q_ix hu (qv (i := 4) n_78 rfl (.inr (.inl rfl))) (qv (i := 6) n_44 rfl (.inl rfl)) (fun _ _ => rfl)) qe_int (fun _ _ => rfl)) (q_ix hu (qv (i := 3) n_0 rfl (.inr (.inl rfl))) qe_int (fun _ _ => rfl)) (nomark _)))) (fun _ _ _ _ _ => (qv (i := 6) n_44 rfl (.inl rfl))) (fun _ => rfl))
    (qss_one (qs_if (qt_cmp (q_eq hu) (qv (i := 5) n_79 rfl (.inl rfl)) (qe_lst qa_nil) (nomark _)) (qss_one (qs_expr (q_append (qv (i := 4) n_78 rfl (.inr (.inl rfl))) (qa_cons (qv (i := 3) n_0 rfl (.inr (.inl rfl))) qa_nil rfl) rfl rfl rfl rfl rfl) rfl)) (qss_one (qs_if (q_w (qw_or (q_w (qw_and (qt_cmp (q_eq hu) (qv (i := 0) n_9 rfl (.inl rfl)) (q_str s_0) (nomark _)) (qw_and1 (qt_cmp qo_lt (q_ix hu (qv (i := 3) n_0 rfl (.inr (.inl rfl))) qe_int (fun _ _ => rfl)) (q_ix hu (q_ix hu (qv (i := 4) n_78 rfl (.inr (.inl rfl))) (q_ix hu (qv (i := 5) n_79 rfl (.inl rfl)) qe_int (fun _ _ => rfl)) (fun _ _ => rfl)) qe_int (fun _ _ => rfl)) (nomark _))))) (qw_or1 (q_w (qw_and (qt_cmp (q_eq hu) (qv (i := 0) n_9 rfl (.inl rfl)) (q_str s_16) (nomark _)) (qw_and1 (qt_cmp qo_gt (q_ix hu (qv (i := 3) n_0 rfl (.inr (.inl rfl))) qe_int (fun _ _ => rfl)) (q_ix hu (q_ix hu (qv (i := 4) n_78 rfl (.inr (.inl rfl))) (q_ix hu (qv (i := 5) n_79 rfl (.inl rfl)) qe_int (fun _ _ => rfl)) (fun _ _ => rfl)) qe_int (fun _ _ => rfl)) (nomark _)))))))) (qss_one (qs_asg (qv (i := 3) n_0 rfl (.inr (.inl rfl))) (qg_sub' hu (qv (i := 4) n_78 rfl (.inr (.inl rfl))) (q_ix hu (qv (i := 5) n_79 rfl (.inl rfl)) qe_int (fun _ _ => rfl)) (fun _ => rfl)) rfl rfl rfl)) qss_nil))))) (fun _ => rfl))
    (qss_cons (qs_if (qt_cmp (q_eq hu) (q_len (qa_cons (qv (i := 4) n_78 rfl (.inr (.inl rfl))) qa_nil rfl) rfl rfl rfl e.len) qe_int (nomark _)) (qss_one (qs_ret (q_ix hu (qv (i := 4) n_78 rfl (.inr (.inl rfl))) qe_int (fun _ _ => rfl)))) qss_nil)
    (qss_one (qs_ret (qe_tup (qa_cons qe_int (qa_cons (qe_tup (qa_cons (qe_tup (qa_cons (qe_tup (qa_cons (qv (i := 0) n_9 rfl (.inl rfl)) (qa_cons (q_tuple (qa_cons (q_sorted (qa_cons (qv (i := 4) n_78 rfl (.inr (.inl rfl))) qa_nil rfl) rfl rfl hu rfl e.sorted) qa_nil rfl) rfl rfl rfl e.tuple) qa_nil rfl) rfl)) (qa_cons qe_int qa_nil rfl) rfl)) qa_nil rfl)) qa_nil rfl) rfl)))))))))
theorem d__law_tidy_pick (e : Own P w K mg base k c) (hr : Room k (A.deeper (envOfC "_law_tidy_pick" (defScope s__law_tidy_pick) s.heap.objs.size f cdv))) : QSs (cxOf CX0 P w K mg base N__law_tidy_pick "_law_tidy_pick" (defScope s__law_tidy_pick) f cdv A outer s H E).nox (defBody s__law_tidy_pick) (b__law_tidy_pick c) := by
  have hu := G.hu_of hr
  exact (qss_cons (qs_if (qt_cmp (qo_in hu) (qv (i := 0) n_18 rfl (.inl rfl)) (qe_lst (qa_cons (q_str s_17) (qa_cons (q_str s_5) (qa_cons (q_str s_3) qa_nil rfl) rfl) rfl)) (by with_unfolding_all rfl)) (qss_cons (qs_set (i := 0) S__law_tidy_pick.nd rfl (.inl rfl) (q_ix hu (qe_disp (qps_cons (q_str s_17) (q_str s_6) (qps_cons (q_str s_5) (q_str s_1) (qps_cons (q_str s_3) (q_str s_4) qps_nil))) rfl rfl (fun z => by cases z) (by decide)) (qv (i := 0) n_18 rfl (.inl rfl)) (fun _ _ => rfl)) rfl (.inl rfl))
    (qss_one (qs_par (i := 3) (j := 4) rfl S__law_tidy_pick.nd rfl rfl (by decide) rfl rfl (qa_cons (qv (i := 4) n_21 rfl (.inl rfl)) (qa_cons (qv (i := 3) n_20 rfl (.inl rfl)) qa_nil rfl) rfl) rfl rfl))) qss_nil)
    (qss_cons (qs_set (i := 5) S__law_tidy_pick.nd rfl (.inl rfl) (q_own e.f__law_tidy_add hr n_80 rfl (qa_cons (qv (i := 1) n_0 rfl (.inl rfl)) (qa_cons (qv (i := 2) n_3 rfl (.inl rfl)) (qa_cons (qe_neg qe_int) qa_nil rfl) rfl) rfl) rfl rfl) rfl (.inl rfl))
    (qss_cons (qs_if (qt_cmp (q_eq hu) (qv (i := 0) n_18 rfl (.inl rfl)) (q_str s_6) (nomark _)) (qss_cons (qs_set (i := 5) S__law_tidy_pick.nd rfl (.inl rfl) (q_own e.f__law_tidy_add hr n_80 rfl (qa_cons (qv (i := 2) n_3 rfl (.inl rfl)) (qa_cons (qv (i := 1) n_0 rfl (.inl rfl)) (qa_cons (qe_neg qe_int) qa_nil rfl) rfl) rfl) rfl rfl) rfl (.inl rfl))
    (qss_one (qs_set (i := 0) S__law_tidy_pick.nd rfl (.inl rfl) (q_str s_1) rfl (.inl rfl)))) qss_nil)
    (qss_cons (qs_if (q_w (qw_and (qt_cmp (q_eq hu) (qv (i := 0) n_18 rfl (.inl rfl)) (q_str s_4) (nomark _)) (qw_and (qt_cmp (q_ne hu) (q_ix hu (qv (i := 5) n_17 rfl (.inl rfl)) qe_int (fun _ _ => rfl)) (qe_tup qa_nil) (nomark _)) (qw_and1 (qt_cmp qo_lt (q_ix hu (q_ix hu (q_ix hu (qv (i := 5) n_17 rfl (.inl rfl)) qe_int (fun _ _ => rfl)) qe_int (fun _ _ => rfl)) qe_int (fun _ _ => rfl)) qe_int (nomark _)))))) (qss_one (qs_set (i := 5) S__law_tidy_pick.nd rfl (.inl rfl) (q_own e.f__law_tidy_add hr n_80 rfl (qa_cons (qe_tup (qa_cons qe_int (qa_cons (qe_tup qa_nil) qa_nil rfl) rfl)) (qa_cons (qv (i := 5) n_17 rfl (.inl rfl)) (qa_cons (qe_neg qe_int) qa_nil rfl) rfl) rfl) rfl rfl) rfl (.inl rfl))) qss_nil)
    (qss_cons (qs_if (qt_cmp (q_eq hu) (q_ix hu (qv (i := 5) n_17 rfl (.inl rfl)) qe_int (fun _ _ => rfl)) (qe_tup qa_nil) (nomark _)) (qss_one (qs_ret (q_ix hu (qe_lst (qa_cons (qv (i := 4) n_21 rfl (.inl rfl)) (qa_cons (qv (i := 3) n_20 rfl (.inl rfl)) qa_nil rfl) rfl)) (q_int (qa_cons (qe_or (qe_and (qe_cmp (q_eq hu) (qv (i := 0) n_18 rfl (.inl rfl)) (q_str s_1) (nomark _)) (qe_one (qe_cmp qo_lt (q_ix hu (qv (i := 5) n_17 rfl (.inl rfl)) qe_int (fun _ _ => rfl)) qe_int (nomark _)))) (qe_one (qe_and (qe_cmp (q_eq hu) (qv (i := 0) n_18 rfl (.inl rfl)) (q_str s_4) (nomark _)) (qe_one (qe_cmp (q_eq hu) (q_ix hu (qv (i := 5) n_17 rfl (.inl rfl)) qe_int (fun _ _ => rfl)) qe_int (nomark _)))))) qa_nil rfl) rfl rfl rfl e.int) (fun _ _ => rfl)))) qss_nil)
    (qss_cons (qs_if (qt_cmp (q_eq hu) (qv (i := 3) n_20 rfl (.inl rfl)) (qv (i := 4) n_21 rfl (.inl rfl)) (nomark _)) (qss_one (qs_ret (qv (i := 3) n_20 rfl (.inl rfl)))) qss_nil)
    (qss_one (qs_ret (qe_tup (qa_cons qe_int (qa_cons (qe_tup (qa_cons (qe_tup (qa_cons (qe_tup (qa_cons (q_str s_2) (qa_cons (qv (i := 0) n_18 rfl (.inl rfl)) (qa_cons (qv (i := 5) n_17 rfl (.inl rfl)) (qa_cons (qv (i := 3) n_20 rfl (.inl rfl)) (qa_cons (qv (i := 4) n_21 rfl (.inl rfl)) qa_nil rfl) rfl) rfl) rfl) rfl)) (qa_cons qe_int qa_nil rfl) rfl)) qa_nil rfl)) qa_nil rfl) rfl))))))))))
theorem d__law_tidy (e : Own P w K mg base k c) (hr : Room k (A.deeper (envOfC "_law_tidy" (defScope s__law_tidy) s.heap.objs.size f cdv))) : QSs (cxOf CX0 P w K mg base N__law_tidy "_law_tidy" (defScope s__law_tidy) f cdv A outer s H E).nox (defBody s__law_tidy) (b__law_tidy c) := by
  have hu := G.hu_of hr
  exact (qss_cons (qs_set (i := 1) S__law_tidy.nd rfl (.inl rfl) (q_ix hu (qv (i := 0) n_73 rfl (.inl rfl)) qe_int (fun _ _ => rfl)) rfl (.inl rfl))
    (qss_cons (qs_if (qt_cmp (q_eq hu) (qv (i := 1) n_9 rfl (.inl rfl)) (q_str s_7) (nomark _)) (qss_one (qs_ret (qe_tup (qa_cons (q_ix hu (qv (i := 0) n_73 rfl (.inl rfl)) qe_int (fun _ _ => rfl)) (qa_cons (qe_tup qa_nil) qa_nil rfl) rfl)))) qss_nil)
    (qss_cons (qs_if (q_w (qw_or (qt_cmp (q_eq hu) (qv (i := 1) n_9 rfl (.inl rfl)) (q_str s_9) (nomark _)) (qw_or1 (qt_cmp (q_eq hu) (qv (i := 1) n_9 rfl (.inl rfl)) (q_str s_8) (nomark _))))) (qss_one (qs_ret (qe_tup (qa_cons qe_int (qa_cons (qe_tup (qa_cons (qe_tup (qa_cons (qv (i := 0) n_73 rfl (.inl rfl)) (qa_cons qe_int qa_nil rfl) rfl)) qa_nil rfl)) qa_nil rfl) rfl)))) qss_nil)
    (qss_cons (qs_if (qt_cmp (q_eq hu) (qv (i := 1) n_9 rfl (.inl rfl)) (q_str s_10) (nomark _)) (qss_one (qs_ret (q_own e.f__law_tidy_add hr n_80 rfl (qa_cons (qe_tup (qa_cons qe_int (qa_cons (qe_tup qa_nil) qa_nil rfl) rfl)) (qa_cons (q_own e.f__law_tidy hr n_81 rfl (qa_cons (q_ix hu (qv (i := 0) n_73 rfl (.inl rfl)) qe_int (fun _ _ => rfl)) qa_nil rfl) rfl rfl) (qa_cons (qe_neg qe_int) qa_nil rfl) rfl) rfl) rfl rfl))) qss_nil)
    (qss_cons (qs_if (qt_cmp (q_eq hu) (qv (i := 1) n_9 rfl (.inl rfl)) (q_str s_11) (nomark _)) (qss_one (qs_ret (q_own e.f__law_tidy_add hr n_80 rfl (qa_cons (qe_tup (qa_cons qe_int (qa_cons (qe_tup qa_nil) qa_nil rfl) rfl)) (qa_cons (q_own e.f__law_tidy hr n_81 rfl (qa_cons (q_ix hu (qv (i := 0) n_73 rfl (.inl rfl)) qe_int (fun _ _ => rfl)) qa_nil rfl) rfl rfl) (qa_cons (q_ix hu (qv (i := 0) n_73 rfl (.inl rfl)) qe_int (fun _ _ => rfl)) qa_nil rfl) rfl) rfl) rfl rfl))) qss_nil)
    (qss_cons (qs_if (qt_cmp (q_eq hu) (qv (i := 1) n_9 rfl (.inl rfl)) (q_str s_2) (nomark _)) (qss_cons (qs_setLc (i := 2) rfl S__law_tidy.nd rfl rfl (sw_true rfl rfl rfl (by decide +kernel)) (own := [("part", 5)]) (t := (.nm 5)) (qi_any (qe_sl (qv (i := 0) n_73 rfl (.inl rfl)) (qp_some qe_int) qp_none)) (by show blkC N__law_tidy (defScope s__law_tidy) _ _ = true; decide +kernel) (by decide) (fun _ _ _ _ _ => (pg_name (i := 5) S__law_tidy.nd rfl (.inl rfl) (.inr rfl))) (fun _ _ _ _ _ => qts_nil) (fun _ _ _ _ _ => (q_own e.f__law_tidy hr n_81 rfl (qa_cons (qv (i := 5) n_29 rfl (.inl rfl)) qa_nil rfl) rfl rfl)) (fun _ => rfl))
    (qss_one (qs_ret (q_own e.f__law_tidy_pick hr n_82 rfl (qa_cons (q_ix hu (qv (i := 0) n_73 rfl (.inl rfl)) qe_int (fun _ _ => rfl)) (qa_cons (q_ix hu (qv (i := 2) n_30 rfl (.inl rfl)) qe_int (fun _ _ => rfl)) (qa_cons (q_ix hu (qv (i := 2) n_30 rfl (.inl rfl)) qe_int (fun _ _ => rfl)) (qa_cons (q_ix hu (qv (i := 2) n_30 rfl (.inl rfl)) qe_int (fun _ _ => rfl)) (qa_cons (q_ix hu (qv (i := 2) n_30 rfl (.inl rfl)) qe_int (fun _ _ => rfl)) qa_nil rfl) rfl) rfl) rfl) rfl) rfl rfl)))) qss_nil)
    (qss_cons (qs_set (i := 3) S__law_tidy.nd rfl (.inl rfl) (q_own e.f__law_tidy hr n_81 rfl (qa_cons (q_ix hu (qv (i := 0) n_73 rfl (.inl rfl)) qe_int (fun _ _ => rfl)) qa_nil rfl) rfl rfl) rfl (.inl rfl))
    (qss_cons (qs_set (i := 4) S__law_tidy.nd rfl (.inl rfl) (q_own e.f__law_tidy hr n_81 rfl (qa_cons (q_ix hu (qv (i := 0) n_73 rfl (.inl rfl)) qe_int (fun _ _ => rfl)) qa_nil rfl) rfl rfl) rfl (.inl rfl))
    (qss_cons (qs_if (qt_cmp (q_eq hu) (qv (i := 1) n_9 rfl (.inl rfl)) (q_str s_13) (nomark _)) (qss_one (qs_ret (q_own e.f__law_tidy_add hr n_80 rfl (qa_cons (qv (i := 3) n_0 rfl (.inl rfl)) (qa_cons (qv (i := 4) n_3 rfl (.inl rfl)) (qa_cons qe_int qa_nil rfl) rfl) rfl) rfl rfl))) qss_nil)
    (qss_cons (qs_if (qt_cmp (q_eq hu) (qv (i := 1) n_9 rfl (.inl rfl)) (q_str s_12) (nomark _)) (qss_one (qs_ret (q_own e.f__law_tidy_add hr n_80 rfl (qa_cons (qv (i := 3) n_0 rfl (.inl rfl)) (qa_cons (qv (i := 4) n_3 rfl (.inl rfl)) (qa_cons (qe_neg qe_int) qa_nil rfl) rfl) rfl) rfl rfl))) qss_nil)
    (qss_one (qs_ret (q_own e.f__law_tidy_many hr n_83 rfl (qa_cons (qv (i := 1) n_9 rfl (.inl rfl)) (qa_cons (qe_lst (qa_cons (qv (i := 3) n_0 rfl (.inl rfl)) (qa_cons (qv (i := 4) n_3 rfl (.inl rfl)) qa_nil rfl) rfl)) qa_nil rfl) rfl) rfl rfl)))))))))))))
theorem d__law_numbers_in (e : Own P w K mg base k c) (hr : Room k (A.deeper (envOfC "_law_numbers_in" (defScope s__law_numbers_in) s.heap.objs.size f cdv))) : QSs (cxOf CX0 P w K mg base N__law_numbers_in "_law_numbers_in" (defScope s__law_numbers_in) f cdv A outer s H E).nox (defBody s__law_numbers_in) (b__law_numbers_in c) := by
  have hu := G.hu_of hr
  exact (qss_cons (qs_if (qt_cmp (q_eq hu) (q_ix hu (qv (i := 0) n_73 rfl (.inl rfl)) qe_int (fun _ _ => rfl)) (q_str s_7) (nomark _)) (qss_one (qs_ret (qe_lst (qa_cons (q_ix hu (qv (i := 0) n_73 rfl (.inl rfl)) qe_int (fun _ _ => rfl)) qa_nil rfl)))) qss_nil)
    (qss_cons (qs_set (i := 1) S__law_numbers_in.nd rfl (.inl rfl) (qe_lst qa_nil) rfl (.inl rfl))
    (qss_cons (qs_if (qt_cmp (q_eq hu) (q_ix hu (qv (i := 0) n_73 rfl (.inl rfl)) qe_int (fun _ _ => rfl)) (q_str s_11) (nomark _)) (qss_one (qs_expr (q_append (qv (i := 1) n_10 rfl (.inl rfl)) (qa_cons (q_ix hu (qv (i := 0) n_73 rfl (.inl rfl)) qe_int (fun _ _ => rfl)) qa_nil rfl) rfl rfl rfl rfl rfl) rfl)) qss_nil)
    (qss_cons (qs_for PassesOwn.never rfl (qi_any (qe_sl (qv (i := 0) n_73 rfl (.inl rfl)) (qp_some qe_int) qp_none)) (qg_name (i := 2) S__law_numbers_in.nd rfl (.inl rfl) (.inl rfl)) (qss_one (qs_if (q_w (qw_and (qt_of (q_isa .tuple rfl e.isinstance rfl e.tuple (qv (i := 2) n_29 rfl (.inl rfl)) rfl rfl rfl) (fun _ => rfl)) (qw_and1 (qt_cmp (q_ne hu) (q_ix hu (qv (i := 0) n_73 rfl (.inl rfl)) qe_int (fun _ _ => rfl)) (q_str s_8) (nomark _))))) (qss_one (qs_set (i := 1) S__law_numbers_in.nd rfl (.inl rfl) (qe_op qo_add (qv (i := 1) n_10 rfl (.inl rfl)) (q_own e.f__law_numbers_in hr n_84 rfl (qa_cons (qv (i := 2) n_29 rfl (.inl rfl)) qa_nil rfl) rfl rfl)) rfl (.inl rfl))) qss_nil)) (fun _ => rfl))
    (qss_one (qs_ret (qv (i := 1) n_10 rfl (.inl rfl))))))))
theorem d__law_same_parts (e : Own P w K mg base k c) (hr : Room k (A.deeper (envOfC "_law_same_parts" (defScope s__law_same_parts) s.heap.objs.size f cdv))) : QSs (cxOf CX0 P w K mg base N__law_same_parts "_law_same_parts" (defScope s__law_same_parts) f cdv A outer s H E).nox (defBody s__law_same_parts) (b__law_same_parts c) := by
  have hu := G.hu_of hr
  exact (qss_cons (qs_set (i := 3) S__law_same_parts.nd rfl (.inl rfl) (q_own e.f__law_draw hr n_39 rfl (qa_cons (qv (i := 0) n_34 rfl (.inl rfl)) (qa_cons qe_int qa_nil rfl) rfl) rfl rfl) rfl (.inl rfl))
    (qss_cons (qs_if (q_w (qw_or (qt_cmp (q_eq hu) (qv (i := 2) n_50 rfl (.inl rfl)) qe_int (nomark _)) (qw_or1 (qt_cmp qo_lt (qv (i := 3) n_51 rfl (.inl rfl)) qe_int (nomark _))))) (qss_one (qs_ret (q_own e.f__law_one_of hr n_56 rfl (qa_cons (qv (i := 0) n_34 rfl (.inl rfl)) (qa_cons (q_ix hu (qv (i := 1) n_52 rfl (.inl rfl)) (q_str s_27) (fun _ _ => rfl)) qa_nil rfl) rfl) rfl rfl))) qss_nil)
    (qss_cons (qs_if (qt_cmp (q_eq hu) (qv (i := 3) n_51 rfl (.inl rfl)) qe_int (nomark _)) (qss_one (qs_ret (qe_tup (qa_cons (q_str s_10) (qa_cons (q_own e.f__law_same_parts hr n_85 rfl (qa_cons (qv (i := 0) n_34 rfl (.inl rfl)) (qa_cons (qv (i := 1) n_52 rfl (.inl rfl)) (qa_cons (qe_op qo_sub (qv (i := 2) n_50 rfl (.inl rfl)) qe_int) qa_nil rfl) rfl) rfl) rfl rfl) qa_nil rfl) rfl)))) qss_nil)
    (qss_cons (qs_if (qt_cmp (q_eq hu) (qv (i := 3) n_51 rfl (.inl rfl)) qe_int (nomark _)) (qss_one (qs_ret (qe_tup (qa_cons (q_str s_11) (qa_cons (q_own e.f__law_draw hr n_39 rfl (qa_cons (qv (i := 0) n_34 rfl (.inl rfl)) (qa_cons qe_int qa_nil rfl) rfl) rfl rfl) (qa_cons (q_own e.f__law_same_parts hr n_85 rfl (qa_cons (qv (i := 0) n_34 rfl (.inl rfl)) (qa_cons (qv (i := 1) n_52 rfl (.inl rfl)) (qa_cons (qe_op qo_sub (qv (i := 2) n_50 rfl (.inl rfl)) qe_int) qa_nil rfl) rfl) rfl) rfl rfl) qa_nil rfl) rfl) rfl)))) qss_nil)
    (qss_cons (qs_set (i := 4) S__law_same_parts.nd rfl (.inl rfl) (q_own e.f__law_same_parts hr n_85 rfl (qa_cons (qv (i := 0) n_34 rfl (.inl rfl)) (qa_cons (qv (i := 1) n_52 rfl (.inl rfl)) (qa_cons (qe_op qo_sub (qv (i := 2) n_50 rfl (.inl rfl)) qe_int) qa_nil rfl) rfl) rfl) rfl rfl) rfl (.inl rfl))
    (qss_cons (qs_set (i := 5) S__law_same_parts.nd rfl (.inl rfl) (q_own e.f__law_same_parts hr n_85 rfl (qa_cons (qv (i := 0) n_34 rfl (.inl rfl)) (qa_cons (qv (i := 1) n_52 rfl (.inl rfl)) (qa_cons (qe_op qo_sub (qv (i := 2) n_50 rfl (.inl rfl)) qe_int) qa_nil rfl) rfl) rfl) rfl rfl) rfl (.inl rfl))
    (qss_cons (qs_if (qt_cmp qo_lt (qv (i := 3) n_51 rfl (.inl rfl)) qe_int (nomark _)) (qss_one (qs_ret (qe_tup (qa_cons (q_ix hu (qe_lst (qa_cons (q_str s_13) (qa_cons (q_str s_12) (qa_cons (q_str s_0) (qa_cons (q_str s_16) qa_nil rfl) rfl) rfl) rfl)) (qe_op qo_sub (qv (i := 3) n_51 rfl (.inl rfl)) qe_int) (fun _ _ => rfl)) (qa_cons (qv (i := 4) n_0 rfl (.inl rfl)) (qa_cons (qv (i := 5) n_3 rfl (.inl rfl)) qa_nil rfl) rfl) rfl)))) qss_nil)
    (qss_cons (qs_set (i := 6) S__law_same_parts.nd rfl (.inl rfl) (q_ix hu (qe_lst (qa_cons (q_str s_1) (qa_cons (q_str s_17) (qa_cons (q_str s_6) (qa_cons (q_str s_5) (qa_cons (q_str s_4) (qa_cons (q_str s_3) qa_nil rfl) rfl) rfl) rfl) rfl) rfl)) (q_own e.f__law_draw hr n_39 rfl (qa_cons (qv (i := 0) n_34 rfl (.inl rfl)) (qa_cons qe_int qa_nil rfl) rfl) rfl rfl) (fun _ _ => rfl)) rfl (.inl rfl))
    (qss_one (qs_ret (qe_tup (qa_cons (q_str s_2) (qa_cons (qv (i := 6) n_18 rfl (.inl rfl)) (qa_cons (qv (i := 4) n_0 rfl (.inl rfl)) (qa_cons (qv (i := 5) n_3 rfl (.inl rfl)) (qa_cons (q_own e.f__law_one_of hr n_56 rfl (qa_cons (qv (i := 0) n_34 rfl (.inl rfl)) (qa_cons (q_ix hu (qv (i := 1) n_52 rfl (.inl rfl)) (q_str s_27) (fun _ _ => rfl)) qa_nil rfl) rfl) rfl rfl) (qa_cons (q_own e.f__law_one_of hr n_56 rfl (qa_cons (qv (i := 0) n_34 rfl (.inl rfl)) (qa_cons (q_ix hu (qv (i := 1) n_52 rfl (.inl rfl)) (q_str s_27) (fun _ _ => rfl)) qa_nil rfl) rfl) rfl rfl) qa_nil rfl) rfl) rfl) rfl) rfl) rfl))))))))))))
theorem d__law_pool_table (e : Own P w K mg base k c) (hr : Room k (A.deeper (envOfC "_law_pool_table" (defScope s__law_pool_table) s.heap.objs.size f cdv))) : QSs (cxOf CX0 P w K mg base N__law_pool_table "_law_pool_table" (defScope s__law_pool_table) f cdv A outer s H E).nox (defBody s__law_pool_table) (b__law_pool_table c) := by
  have hu := G.hu_of hr
  exact (qss_cons (qs_set (i := 1) S__law_pool_table.nd rfl (.inr rfl) (q_own e.f__law_table_world hr n_71 rfl (qa_cons (qv (i := 0) n_34 rfl (.inr (.inl rfl))) (qa_cons (qe_op qo_add qe_int (q_own e.f__law_draw hr n_39 rfl (qa_cons (qv (i := 0) n_34 rfl (.inr (.inl rfl))) (qa_cons qe_int qa_nil rfl) rfl) rfl rfl)) (qa_cons (qe_op qo_add qe_int (q_own e.f__law_draw hr n_39 rfl (qa_cons (qv (i := 0) n_34 rfl (.inr (.inl rfl))) (qa_cons qe_int qa_nil rfl) rfl) rfl rfl)) (qa_cons qe_int qa_nil rfl) rfl) rfl) rfl) rfl rfl) rfl (.inl rfl))
    (qss_cons (qs_expr (q_own e.f__law_with_row hr n_86 rfl (qa_cons (qv (i := 0) n_34 rfl (.inr (.inl rfl))) (qa_cons (qv (i := 1) n_52 rfl (.inr (.inl rfl))) (qa_cons (qe_neg qe_int) qa_nil rfl) rfl) rfl) rfl rfl) rfl)
    (qss_cons (qs_set (i := 2) S__law_pool_table.nd rfl (.inl rfl) (qe_lst qa_nil) rfl (.inl rfl))
    (qss_cons (qs_for PassesOwn.never rfl (qi_any (q_ix hu (qv (i := 1) n_52 rfl (.inr (.inl rfl))) (q_str s_21) (fun _ _ => rfl))) (qg_name (i := 3) S__law_pool_table.nd rfl (.inl rfl) (.inl rfl)) (qss_cons (qs_asg qe_int (qg_sub' hu (qv (i := 1) n_52 rfl (.inr (.inl rfl))) (q_str s_19) (fun _ => rfl)) rfl rfl rfl)
    (qss_cons (qs_asg (qv (i := 3) n_60 rfl (.inl rfl)) (qg_sub' hu (qv (i := 1) n_52 rfl (.inr (.inl rfl))) (q_str s_24) (fun _ => rfl)) rfl rfl rfl)
    (qss_cons (qs_asg (qe_op qo_add (qe_lc rfl S__law_pool_table.nd (own := [("k", 6)]) (t := (.nm 6)) (qi_r1 rfl e.range (qa_cons qe_int qa_nil rfl) rfl) (by show blkC N__law_pool_table (defScope s__law_pool_table) _ _ = true; decide +kernel) (by decide) (fun _ _ _ _ _ => (pg_name (i := 6) S__law_pool_table.nd rfl (.inl rfl) (.inr rfl))) (fun _ _ _ _ _ => qts_nil) (fun _ _ _ _ _ => (q_own e.f__law_leaf hr n_53 rfl (qa_cons (qv (i := 0) n_34 rfl (.inr (.inl rfl))) (qa_cons (qv (i := 1) n_52 rfl (.inr (.inl rfl))) qa_nil rfl) rfl) rfl rfl)) (fun _ => rfl)) (qe_lst (qa_cons (qe_tup (qa_cons (q_str s_7) (qa_cons (q_own e.f__law_draw hr n_39 rfl (qa_cons (qv (i := 0) n_34 rfl (.inr (.inl rfl))) (qa_cons qe_int qa_nil rfl) rfl) rfl rfl) qa_nil rfl) rfl)) (qa_cons (qe_tup (qa_cons (q_str s_9) (qa_cons qe_int qa_nil rfl) rfl)) qa_nil rfl) rfl))) (qg_sub' hu (qv (i := 1) n_52 rfl (.inr (.inl rfl))) (q_str s_27) (fun _ => rfl)) rfl rfl rfl)
    (qss_cons (qs_set (i := 4) S__law_pool_table.nd rfl (.inl rfl) (qe_tup (qa_cons (qv (i := 3) n_60 rfl (.inl rfl)) (qa_cons (q_own e.f__law_rim hr n_61 rfl (qa_cons (qv (i := 0) n_34 rfl (.inr (.inl rfl))) qa_nil rfl) rfl rfl) (qa_cons (q_own e.f__law_same_parts hr n_85 rfl (qa_cons (qv (i := 0) n_34 rfl (.inr (.inl rfl))) (qa_cons (qv (i := 1) n_52 rfl (.inr (.inl rfl))) (qa_cons qe_int qa_nil rfl) rfl) rfl) rfl rfl) qa_nil rfl) rfl) rfl)) rfl (.inl rfl))
    (qss_cons (qs_if (qt_not (qt_of (q_own e.f__law_can_be_read hr n_88 rfl (qa_cons (q_ix hu (qv (i := 1) n_52 rfl (.inr (.inl rfl))) (q_str s_26) (fun _ _ => rfl)) (qa_cons (qv (i := 4) n_87 rfl (.inl rfl)) qa_nil rfl) rfl) rfl rfl) (fun _ => rfl))) (qss_one (qs_set (i := 4) S__law_pool_table.nd rfl (.inl rfl) (qe_op qo_add (qe_sl (qv (i := 4) n_87 rfl (.inl rfl)) qp_none (qp_some qe_int)) (qe_tup (qa_cons (qe_tup (qa_cons (q_str s_13) (qa_cons (q_ix hu (q_ix hu (qv (i := 1) n_52 rfl (.inr (.inl rfl))) (q_str s_27) (fun _ _ => rfl)) qe_int (fun _ _ => rfl)) (qa_cons (q_ix hu (q_ix hu (qv (i := 1) n_52 rfl (.inr (.inl rfl))) (q_str s_27) (fun _ _ => rfl)) qe_int (fun _ _ => rfl)) qa_nil rfl) rfl) rfl)) qa_nil rfl))) rfl (.inl rfl))) qss_nil)
    (qss_one (qs_expr (q_append (qv (i := 2) n_65 rfl (.inl rfl)) (qa_cons (qv (i := 4) n_87 rfl (.inl rfl)) qa_nil rfl) rfl rfl rfl rfl rfl) rfl))))))) (fun _ => rfl))
    (qss_cons (qs_set (i := 5) S__law_pool_table.nd rfl (.inl rfl) (q_tuple (qa_cons (qe_lc rfl S__law_pool_table.nd (own := [("name", 3)]) (t := (.nm 3)) (qi_any (q_ix hu (qv (i := 1) n_52 rfl (.inr (.inl rfl))) (q_str s_20) (fun _ _ => rfl))) (by show blkC N__law_pool_table (defScope s__law_pool_table) _ _ = true; decide +kernel) (by decide) (fun _ _ _ _ _ => (pg_name (i := 3) S__law_pool_table.nd rfl (.inl rfl) (.inr rfl))) (fun _ _ _ _ _ => qts_nil) (fun _ _ _ _ _ => (q_own e.f__law_given_row hr n_70 rfl (qa_cons (qv (i := 0) n_34 rfl (.inr (.inl rfl))) (qa_cons (qv (i := 3) n_60 rfl (.inl rfl)) qa_nil rfl) rfl) rfl rfl)) (fun _ => rfl)) qa_nil rfl) rfl rfl rfl e.tuple) rfl (.inl rfl))
    (qss_one (qs_ret (qe_tup (qa_cons (q_ix hu (qv (i := 1) n_52 rfl (.inr (.inl rfl))) (q_str s_26) (fun _ _ => rfl)) (qa_cons (qv (i := 5) n_66 rfl (.inl rfl)) (qa_cons (q_tuple (qa_cons (qv (i := 2) n_65 rfl (.inl rfl)) qa_nil rfl) rfl rfl rfl e.tuple) (qa_cons (qe_tup qa_nil) qa_nil rfl) rfl) rfl) rfl)))))))))
theorem d__law_token_count (e : Own P w K mg base k c) (hr : Room k (A.deeper (envOfC "_law_token_count" (defScope s__law_token_count) s.heap.objs.size f cdv))) : QSs (cxOf CX0 P w K mg base N__law_token_count "_law_token_count" (defScope s__law_token_count) f cdv A outer s H E).nox (defBody s__law_token_count) (b__law_token_count c) := by
  have hu := G.hu_of hr
  exact (qss_cons (qs_set (i := 2) S__law_token_count.nd rfl (.inl rfl) (q_ix hu (qv (i := 1) n_73 rfl (.inl rfl)) qe_int (fun _ _ => rfl)) rfl (.inl rfl))
    (qss_cons (qs_if (q_w (qw_or (qt_cmp (q_eq hu) (qv (i := 2) n_9 rfl (.inl rfl)) (q_str s_7) (nomark _)) (qw_or1 (qt_cmp (q_eq hu) (qv (i := 2) n_9 rfl (.inl rfl)) (q_str s_9) (nomark _))))) (qss_one (qs_ret qe_int)) qss_nil)
    (qss_cons (qs_if (qt_cmp (q_eq hu) (qv (i := 2) n_9 rfl (.inl rfl)) (q_str s_8) (nomark _)) (qss_one (qs_ret (qe_op qo_add (qe_op qo_add qe_int (qe_op qo_mul qe_int (q_len (qa_cons (qv (i := 0) n_89 rfl (.inr (.inl rfl))) qa_nil rfl) rfl rfl rfl e.len))) (qe_op qo_mul qe_int (q_len (qa_cons (qe_lc rfl S__law_token_count.nd (own := [("x", 4)]) (t := (.nm 4)) (qi_any (q_ix hu (qv (i := 1) n_73 rfl (.inl rfl)) qe_int (fun _ _ => rfl))) (by show blkC N__law_token_count (defScope s__law_token_count) _ _ = true; decide +kernel) (by decide) (fun _ _ _ _ _ => (pg_name (i := 4) S__law_token_count.nd rfl (.inl rfl) (.inr rfl))) (fun _ _ _ _ _ => (qts_one (qt_cmp (q_ne hu) (qv (i := 4) n_46 rfl (.inl rfl)) qe_int (nomark _)))) (fun _ _ _ _ _ => (qv (i := 4) n_46 rfl (.inl rfl))) (fun _ => rfl)) qa_nil rfl) rfl rfl rfl e.len))))) qss_nil)
    (qss_cons (qs_if (qt_cmp (q_eq hu) (qv (i := 2) n_9 rfl (.inl rfl)) (q_str s_10) (nomark _)) (qss_one (qs_ret (qe_op qo_add (qe_op qo_add qe_int (q_own e.f__law_token_count hr n_90 rfl (qa_cons (qv (i := 0) n_89 rfl (.inr (.inl rfl))) (qa_cons (q_ix hu (qv (i := 1) n_73 rfl (.inl rfl)) qe_int (fun _ _ => rfl)) qa_nil rfl) rfl) rfl rfl)) (qe_op qo_mul qe_int (q_int (qa_cons (qe_cmp (qo_in hu) (q_ix hu (q_ix hu (qv (i := 1) n_73 rfl (.inl rfl)) qe_int (fun _ _ => rfl)) qe_int (fun _ _ => rfl)) (qe_lst (qa_cons (q_str s_13) (qa_cons (q_str s_12) (qa_cons (q_str s_10) qa_nil rfl) rfl) rfl)) (by with_unfolding_all rfl)) qa_nil rfl) rfl rfl rfl e.int))))) qss_nil)
    (qss_cons (qs_if (qt_cmp (q_eq hu) (qv (i := 2) n_9 rfl (.inl rfl)) (q_str s_11) (nomark _)) (qss_one (qs_ret (qe_op qo_add (qe_op qo_add qe_int (q_own e.f__law_token_count hr n_90 rfl (qa_cons (qv (i := 0) n_89 rfl (.inr (.inl rfl))) (qa_cons (q_ix hu (qv (i := 1) n_73 rfl (.inl rfl)) qe_int (fun _ _ => rfl)) qa_nil rfl) rfl) rfl rfl)) (qe_op qo_mul qe_int (q_int (qa_cons (qe_cmp (qo_in hu) (q_ix hu (q_ix hu (qv (i := 1) n_73 rfl (.inl rfl)) qe_int (fun _ _ => rfl)) qe_int (fun _ _ => rfl)) (qe_lst (qa_cons (q_str s_13) (qa_cons (q_str s_12) (qa_cons (q_str s_10) (qa_cons (q_str s_11) qa_nil rfl) rfl) rfl) rfl)) (by with_unfolding_all rfl)) qa_nil rfl) rfl rfl rfl e.int))))) qss_nil)
    (qss_cons (qs_set (i := 3) S__law_token_count.nd rfl (.inl rfl) (q_sum (qa_cons (qe_lc rfl S__law_token_count.nd (own := [("part", 5)]) (t := (.nm 5)) (qi_any (qe_sl (qv (i := 1) n_73 rfl (.inl rfl)) (qp_some qe_int) qp_none)) (by show blkC N__law_token_count (defScope s__law_token_count) _ _ = true; decide +kernel) (by decide) (fun _ _ _ _ _ => (pg_name (i := 5) S__law_token_count.nd rfl (.inl rfl) (.inr rfl))) (fun _ _ _ _ _ => (qts_one (qt_of (q_isa .tuple rfl e.isinstance rfl e.tuple (qv (i := 5) n_29 rfl (.inl rfl)) rfl rfl rfl) (fun _ => rfl)))) (fun _ _ _ _ _ => (q_own e.f__law_token_count hr n_90 rfl (qa_cons (qv (i := 0) n_89 rfl (.inr (.inl rfl))) (qa_cons (qv (i := 5) n_29 rfl (.inl rfl)) qa_nil rfl) rfl) rfl rfl)) (fun _ => rfl)) qa_nil rfl) rfl rfl rfl rfl e.sum) rfl (.inl rfl))
    (qss_cons (qs_if (qt_cmp (q_eq hu) (qv (i := 2) n_9 rfl (.inl rfl)) (q_str s_2) (nomark _)) (qss_one (qs_ret (qe_op qo_add (qv (i := 3) n_59 rfl (.inl rfl)) qe_int))) qss_nil)
    (qss_cons (qs_if (q_w (qw_or (qt_cmp (q_eq hu) (qv (i := 2) n_9 rfl (.inl rfl)) (q_str s_13) (nomark _)) (qw_or1 (qt_cmp (q_eq hu) (qv (i := 2) n_9 rfl (.inl rfl)) (q_str s_12) (nomark _))))) (qss_one (qs_ret (qe_op qo_add (qe_op qo_add (qv (i := 3) n_59 rfl (.inl rfl)) qe_int) (qe_op qo_mul qe_int (q_int (qa_cons (qe_cmp (qo_in hu) (q_ix hu (q_ix hu (qv (i := 1) n_73 rfl (.inl rfl)) qe_int (fun _ _ => rfl)) qe_int (fun _ _ => rfl)) (qe_lst (qa_cons (q_str s_13) (qa_cons (q_str s_12) (qa_cons (q_str s_10) qa_nil rfl) rfl) rfl)) (by with_unfolding_all rfl)) qa_nil rfl) rfl rfl rfl e.int))))) qss_nil)
    (qss_one (qs_ret (qe_op qo_add (qv (i := 3) n_59 rfl (.inl rfl)) qe_int)))))))))))
theorem d__law_can_be_read (e : Own P w K mg base k c) (hr : Room k (A.deeper (envOfC "_law_can_be_read" (defScope s__law_can_be_read) s.heap.objs.size f cdv))) : QSs (cxOf CX0 P w K mg base N__law_can_be_read "_law_can_be_read" (defScope s__law_can_be_read) f cdv A outer s H E).nox (defBody s__law_can_be_read) (b__law_can_be_read c) := by
  have hu := G.hu_of hr
  exact (qss_cons (qs_set (i := 2) S__law_can_be_read.nd rfl (.inl rfl) (qe_op qo_add (qe_op qo_add qe_int (qe_op qo_mul qe_int (q_int (qa_cons (qe_cmp (q_ne hu) (q_ix hu (qv (i := 1) n_87 rfl (.inl rfl)) qe_int (fun _ _ => rfl)) qe_int (nomark _)) qa_nil rfl) rfl rfl rfl e.int))) (q_int (qa_cons (qe_cmp qo_lt (q_ix hu (qv (i := 1) n_87 rfl (.inl rfl)) qe_int (fun _ _ => rfl)) qe_int (nomark _)) qa_nil rfl) rfl rfl rfl e.int)) rfl (.inl rfl))
    (qss_cons (qs_if (q_w (qw_or (qt_cmp qo_gt (qe_op qo_add (qv (i := 2) n_91 rfl (.inl rfl)) (q_own e.f__law_token_count hr n_90 rfl (qa_cons (qv (i := 0) n_89 rfl (.inl rfl)) (qa_cons (q_ix hu (qv (i := 1) n_87 rfl (.inl rfl)) qe_int (fun _ _ => rfl)) qa_nil rfl) rfl) rfl rfl)) qe_int (nomark _)) (qw_or1 (qt_cmp qo_gt (q_len (qa_cons (q_own e.f__law_refs hr n_74 rfl (qa_cons (q_ix hu (qv (i := 1) n_87 rfl (.inl rfl)) qe_int (fun _ _ => rfl)) qa_nil rfl) rfl rfl) qa_nil rfl) rfl rfl rfl e.len) qe_int (nomark _))))) (qss_one (qs_ret qe_bl)) qss_nil)
    (qss_one (qs_ret (q_all (qa_cons (qe_lc rfl S__law_can_be_read.nd (own := [("number", 3)]) (t := (.nm 3)) (qi_any (q_own e.f__law_numbers_in hr n_84 rfl (qa_cons (q_ix hu (qv (i := 1) n_87 rfl (.inl rfl)) qe_int (fun _ _ => rfl)) qa_nil rfl) rfl rfl)) (by show blkC N__law_can_be_read (defScope s__law_can_be_read) _ _ = true; decide +kernel) (by decide) (fun _ _ _ _ _ => (pg_name (i := 3) S__law_can_be_read.nd rfl (.inl rfl) (.inr rfl))) (fun _ _ _ _ _ => qts_nil) (fun _ _ _ _ _ => (qe_cmp qo_lt (qv (i := 3) n_1 rfl (.inl rfl)) (qe_op qo_pow qe_int qe_int) (nomark _))) (fun _ => rfl)) qa_nil rfl) rfl rfl rfl rfl e.all)))))
theorem d_law (e : Own P w K mg base k c) (hr : Room k (A.deeper (envOfC "law" (defScope s_law) s.heap.objs.size f cdv))) : QSs (cxOf CX0 P w K mg base N_law "law" (defScope s_law) f cdv A outer s H E).nox (defBody s_law) (b_law c) := by
  have hu := G.hu_of hr
  exact (qss_cons (qs_set (i := 1) S_law.nd rfl (.inl rfl) (q_own e.f__law_start hr n_92 rfl (qa_cons (qv (i := 0) n_33 rfl (.inl rfl)) qa_nil rfl) rfl rfl) rfl (.inl rfl))
    (qss_cons (qs_for PassesOwn.never rfl (qi_r1 rfl e.range (qa_cons qe_int qa_nil rfl) rfl) (qg_name (i := 2) S_law.nd rfl (.inl rfl) (.inl rfl)) (qss_cons (qs_set (i := 3) S_law.nd rfl (.inl rfl) (q_ix hu (qe_lst (qa_cons (q_own e.f__law_pool_table hr n_93 rfl (qa_cons (qv (i := 1) n_34 rfl (.inl rfl)) qa_nil rfl) rfl rfl) (qa_cons (q_own e.f__law_any_table hr n_94 rfl (qa_cons (qv (i := 1) n_34 rfl (.inl rfl)) qa_nil rfl) rfl rfl) (qa_cons (q_own e.f__law_pool_table hr n_93 rfl (qa_cons (qv (i := 1) n_34 rfl (.inl rfl)) qa_nil rfl) rfl rfl) qa_nil rfl) rfl) rfl)) (qv (i := 2) n_95 rfl (.inl rfl)) (fun _ _ => rfl)) rfl (.inl rfl))
    (qss_one (qs_for PassesOwn.never rfl (qi_any (q_ix hu (qv (i := 3) n_96 rfl (.inl rfl)) qe_int (fun _ _ => rfl))) (qg_tup rfl (qgs_cons (qg_name (i := 4) S_law.nd rfl (.inl rfl) (.inl rfl)) (qgs_cons (qg_name (i := 5) S_law.nd rfl (.inl rfl) (.inl rfl)) (qgs_cons (qg_name (i := 6) S_law.nd rfl (.inl rfl) (.inl rfl)) qgs_nil rfl) rfl) rfl) rfl rfl) (qss_one (qs_if (qt_not (qt_of (q_own e.f__law_same hr n_48 rfl (qa_cons (q_own e.f_tidy_sum hr n_28 rfl (qa_cons (qv (i := 6) n_73 rfl (.inl rfl)) qa_nil rfl) rfl rfl) (qa_cons (q_own e.f__law_tidy hr n_81 rfl (qa_cons (qv (i := 6) n_73 rfl (.inl rfl)) qa_nil rfl) rfl rfl) qa_nil rfl) rfl) rfl rfl) (fun _ => rfl))) (qss_one (qs_ret qe_bl)) qss_nil)) (fun _ => rfl)))) (fun _ => rfl))
    (qss_cons (qs_set (i := 7) S_law.nd rfl (.inl rfl) (qe_tup (qa_cons (q_str s_8) (qa_cons (q_str s_28) (qa_cons (qe_tup (qa_cons qe_int qa_nil rfl)) qa_nil rfl) rfl) rfl)) rfl (.inl rfl))
    (qss_cons (qs_set (i := 8) S_law.nd rfl (.inl rfl) (qe_tup (qa_cons (q_str s_9) (qa_cons qe_int qa_nil rfl) rfl)) rfl (.inl rfl))
    (qss_cons (qs_set (i := 9) S_law.nd rfl (.inl rfl) (qe_tup (qa_cons (q_str s_0) (qa_cons (qv (i := 7) n_46 rfl (.inl rfl)) (qa_cons (qe_tup (qa_cons (q_str s_0) (qa_cons (qe_tup (qa_cons (q_str s_13) (qa_cons (qv (i := 8) n_47 rfl (.inl rfl)) (qa_cons (qe_tup (qa_cons (q_str s_7) (qa_cons qe_int qa_nil rfl) rfl)) qa_nil rfl) rfl) rfl)) (qa_cons (qe_tup (qa_cons (q_str s_13) (qa_cons (qe_tup (qa_cons (q_str s_7) (qa_cons qe_int qa_nil rfl) rfl)) (qa_cons (qv (i := 8) n_47 rfl (.inl rfl)) qa_nil rfl) rfl) rfl)) qa_nil rfl) rfl) rfl)) qa_nil rfl) rfl) rfl)) rfl (.inl rfl))
    (qss_cons (qs_set (i := 10) S_law.nd rfl (.inl rfl) (qe_tup (qa_cons qe_int (qa_cons (qe_tup (qa_cons (qe_tup (qa_cons (qe_tup (qa_cons (q_str s_0) (qa_cons (qe_tup (qa_cons (qe_tup (qa_cons qe_int (qa_cons (qe_tup (qa_cons (qe_tup (qa_cons (qv (i := 7) n_46 rfl (.inl rfl)) (qa_cons qe_int qa_nil rfl) rfl)) qa_nil rfl)) qa_nil rfl) rfl)) (qa_cons (qe_tup (qa_cons qe_int (qa_cons (qe_tup (qa_cons (qe_tup (qa_cons (qv (i := 8) n_47 rfl (.inl rfl)) (qa_cons qe_int qa_nil rfl) rfl)) qa_nil rfl)) qa_nil rfl) rfl)) qa_nil rfl) rfl)) qa_nil rfl) rfl)) (qa_cons qe_int qa_nil rfl) rfl)) qa_nil rfl)) qa_nil rfl) rfl)) rfl (.inl rfl))
    (qss_cons (qs_if (q_w (qw_or (qt_not (qt_of (q_own e.f__law_same hr n_48 rfl (qa_cons (q_own e.f_tidy_sum hr n_28 rfl (qa_cons (qv (i := 9) n_0 rfl (.inl rfl)) qa_nil rfl) rfl rfl) (qa_cons (qv (i := 10) n_97 rfl (.inl rfl)) qa_nil rfl) rfl) rfl rfl) (fun _ => rfl))) (qw_or1 (qt_not (qt_of (q_own e.f__law_same hr n_48 rfl (qa_cons (q_own e.f_tidy_sum hr n_28 rfl (qa_cons (qe_tup (qa_cons (q_str s_12) (qa_cons (qv (i := 9) n_0 rfl (.inl rfl)) (qa_cons (qv (i := 9) n_0 rfl (.inl rfl)) qa_nil rfl) rfl) rfl)) qa_nil rfl) rfl rfl) (qa_cons (qe_tup (qa_cons qe_int (qa_cons (qe_tup qa_nil) qa_nil rfl) rfl)) qa_nil rfl) rfl) rfl rfl) (fun _ => rfl)))))) (qss_one (qs_ret qe_bl)) qss_nil)
    (qss_cons (qs_set (i := 11) S_law.nd rfl (.inl rfl) (qe_tup (qa_cons (q_str s_2) (qa_cons (q_str s_5) (qa_cons (qv (i := 7) n_46 rfl (.inl rfl)) (qa_cons (qv (i := 8) n_47 rfl (.inl rfl)) (qa_cons (qe_tup (qa_cons (q_str s_7) (qa_cons qe_int qa_nil rfl) rfl)) (qa_cons (qe_tup (qa_cons (q_str s_10) (qa_cons (qv (i := 8) n_47 rfl (.inl rfl)) qa_nil rfl) rfl)) qa_nil rfl) rfl) rfl) rfl) rfl) rfl)) rfl (.inl rfl))
    (qss_cons (qs_set (i := 12) S_law.nd rfl (.inl rfl) (qe_tup (qa_cons qe_int (qa_cons (qe_tup (qa_cons (qe_tup (qa_cons (qv (i := 7) n_46 rfl (.inl rfl)) (qa_cons qe_int qa_nil rfl) rfl)) (qa_cons (qe_tup (qa_cons (qv (i := 8) n_47 rfl (.inl rfl)) (qa_cons (qe_neg qe_int) qa_nil rfl) rfl)) qa_nil rfl) rfl)) qa_nil rfl) rfl)) rfl (.inl rfl))
    (qss_one (qs_ret (q_own e.f__law_same hr n_48 rfl (qa_cons (q_own e.f_tidy_sum hr n_28 rfl (qa_cons (qv (i := 11) n_98 rfl (.inl rfl)) qa_nil rfl) rfl rfl) (qa_cons (qe_tup (qa_cons qe_int (qa_cons (qe_tup (qa_cons (qe_tup (qa_cons (qe_tup (qa_cons (q_str s_2) (qa_cons (q_str s_1) (qa_cons (qv (i := 12) n_17 rfl (.inl rfl)) (qa_cons (qe_tup (qa_cons qe_int (qa_cons (qe_tup (qa_cons (qe_tup (qa_cons (qv (i := 8) n_47 rfl (.inl rfl)) (qa_cons (qe_neg qe_int) qa_nil rfl) rfl)) qa_nil rfl)) qa_nil rfl) rfl)) (qa_cons (qe_tup (qa_cons qe_int (qa_cons (qe_tup qa_nil) qa_nil rfl) rfl)) qa_nil rfl) rfl) rfl) rfl) rfl)) (qa_cons qe_int qa_nil rfl) rfl)) qa_nil rfl)) qa_nil rfl) rfl)) qa_nil rfl) rfl) rfl rfl))))))))))))
end
def c0 : Cs := ⟨fun _ _ _ => False, fun _ _ _ => False, fun _ _ _ => False, fun _ _ _ => False, fun _ _ _ => False, fun _ _ _ => False, fun _ _ _ => False, fun _ _ _ => False, fun _ _ _ => False, fun _ _ _ => False, fun _ _ _ => False, fun _ _ _ => False, fun _ _ _ => False, fun _ _ _ => False, fun _ _ _ => False, fun _ _ _ => False, fun _ _ _ => False, fun _ _ _ => False, fun _ _ _ => False, fun _ _ _ => False, fun _ _ _ => False, fun _ _ _ => False, fun _ _ _ => False, fun _ _ _ => False, fun _ _ _ => False, fun _ _ _ => False, fun _ _ _ => False, fun _ _ _ => False, fun _ _ _ => False, fun _ _ _ => False, fun _ _ _ => False, fun _ _ _ => False, fun _ _ _ => False, fun _ _ _ => False, fun _ _ _ => False⟩
def cS (c : Cs) : Cs := ⟨zFn 8 3 (b_added c),
  zFn 1 1 (b_alone c),
  zFn 5 2 (b_spread_out c),
  zFn 8 2 (b_chosen c),
  zFn 5 4 (b_picked c),
  zFn 1 1 (b_forward c),
  zFn 6 5 (b_tidy_pick c),
  zFn 6 1 (b_tidy_sum c),
  zFn 1 1 (b__law_start c),
  zFn 5 2 (b__law_draw c),
  zFn 2 2 (b__law_one_of c),
  zFn 7 2 (b__law_words c),
  zFn 1 1 (b__law_is_int c),
  zFn 3 2 (b__law_same c),
  zFn 4 3 (b__law_offsets c),
  zFn 7 3 (b__law_some_part c),
  zFn 5 2 (b__law_leaf c),
  zFn 6 4 (b__law_slope c),
  zFn 1 1 (b__law_rim c),
  zFn 5 2 (b__law_given_row c),
  zFn 6 4 (b__law_table_world c),
  zFn 5 3 (b__law_with_row c),
  zFn 6 3 (b__law_rules_of c),
  zFn 2 1 (b__law_any_table c),
  zFn 3 1 (b__law_refs c),
  zFn 9 3 (b__law_tidy_add c),
  zFn 7 2 (b__law_tidy_many c),
  zFn 6 5 (b__law_tidy_pick c),
  zFn 6 1 (b__law_tidy c),
  zFn 3 1 (b__law_numbers_in c),
  zFn 7 3 (b__law_same_parts c),
  zFn 7 1 (b__law_pool_table c),
  zFn 6 2 (b__law_token_count c),
  zFn 4 2 (b__law_can_be_read c),
  zFn 13 1 (b_law c)⟩
def wC : Nat → Cs
  | 0 => c0
  | k + 1 => cS (wC k)
/-- what the head tells -/
structure Bs (K : PySem.W.Frag) (mg : Str → Option Value) : Prop where
  len : mg "len" = none
  abs : mg "abs" = none
  sum : mg "sum" = none
  all : mg "all" = none
  sorted : mg "sorted" = none
  int : mg "int" = none
  tuple : mg "tuple" = none
  list : mg "list" = none
  range : mg "range" = none
  isinstance : mg "isinstance" = none
  str : mg "str" = none
  bool : mg "bool" = none
  k_NOTHING : ∃ v u, mg "NOTHING" = some u ∧ RelV v u ∧ ∀ H, RV K H v (.tup [(.int 0), (.tup [])])
  f_added : FB K mg "added" s_added ["one", "other", "factor"]
  f_alone : FB K mg "alone" s_alone ["atom"]
  f_spread_out : FB K mg "spread_out" s_spread_out ["kind", "sums"]
  f_chosen : FB K mg "chosen" s_chosen ["kind", "sums"]
  f_picked : FB K mg "picked" s_picked ["sign", "compared", "yes", "no"]
  f_forward : FB K mg "forward" s_forward ["compared"]
  f_tidy_pick : FB K mg "tidy_pick" s_tidy_pick ["sign", "left", "right", "yes", "no"]
  f_tidy_sum : FB K mg "tidy_sum" s_tidy_sum ["expression"]
  f__law_start : FB K mg "_law_start" s__law_start ["script"]
  f__law_draw : FB K mg "_law_draw" s__law_draw ["state", "most"]
  f__law_one_of : FB K mg "_law_one_of" s__law_one_of ["state", "items"]
  f__law_words : FB K mg "_law_words" s__law_words ["state", "many"]
  f__law_is_int : FB K mg "_law_is_int" s__law_is_int ["x"]
  f__law_same : FB K mg "_law_same" s__law_same ["x", "y"]
  f__law_offsets : FB K mg "_law_offsets" s__law_offsets ["state", "many", "most"]
  f__law_some_part : FB K mg "_law_some_part" s__law_some_part ["state", "w", "depth"]
  f__law_leaf : FB K mg "_law_leaf" s__law_leaf ["state", "w"]
  f__law_slope : FB K mg "_law_slope" s__law_slope ["w", "name", "other", "offsets"]
  f__law_rim : FB K mg "_law_rim" s__law_rim ["state"]
  f__law_given_row : FB K mg "_law_given_row" s__law_given_row ["state", "name"]
  f__law_table_world : FB K mg "_law_table_world" s__law_table_world ["state", "many", "rules", "givens"]
  f__law_with_row : FB K mg "_law_with_row" s__law_with_row ["state", "w", "least"]
  f__law_rules_of : FB K mg "_law_rules_of" s__law_rules_of ["state", "w", "depth"]
  f__law_any_table : FB K mg "_law_any_table" s__law_any_table ["state"]
  f__law_refs : FB K mg "_law_refs" s__law_refs ["e"]
  f__law_tidy_add : FB K mg "_law_tidy_add" s__law_tidy_add ["one", "other", "factor"]
  f__law_tidy_many : FB K mg "_law_tidy_many" s__law_tidy_many ["kind", "sums"]
  f__law_tidy_pick : FB K mg "_law_tidy_pick" s__law_tidy_pick ["sign", "one", "other", "yes", "no"]
  f__law_tidy : FB K mg "_law_tidy" s__law_tidy ["e"]
  f__law_numbers_in : FB K mg "_law_numbers_in" s__law_numbers_in ["e"]
  f__law_same_parts : FB K mg "_law_same_parts" s__law_same_parts ["state", "w", "depth"]
  f__law_pool_table : FB K mg "_law_pool_table" s__law_pool_table ["state"]
  f__law_token_count : FB K mg "_law_token_count" s__law_token_count ["over", "e"]
  f__law_can_be_read : FB K mg "_law_can_be_read" s__law_can_be_read ["over", "row"]
  f_law : FB K mg "law" s_law ["script"]
theorem own {P : Program} {w : World} {K : PySem.W.Frag} {mg : Str → Option Value} {base : Heap} (b : Bs K mg) : ∀ k, Own P w K mg base k (wC k)
  | 0 => {
    len := b.len,
    abs := b.abs,
    sum := b.sum,
    all := b.all,
    sorted := b.sorted,
    int := b.int,
    tuple := b.tuple,
    list := b.list,
    range := b.range,
    isinstance := b.isinstance,
    str := b.str,
    bool := b.bool,
    k_NOTHING := b.k_NOTHING,
    f_added := qfd0 b.f_added,
    f_alone := qfd0 b.f_alone,
    f_spread_out := qfd0 b.f_spread_out,
    f_chosen := qfd0 b.f_chosen,
    f_picked := qfd0 b.f_picked,
    f_forward := qfd0 b.f_forward,
    f_tidy_pick := qfd0 b.f_tidy_pick,
    f_tidy_sum := qfd0 b.f_tidy_sum,
    f__law_start := qfd0 b.f__law_start,
    f__law_draw := qfd0 b.f__law_draw,
    f__law_one_of := qfd0 b.f__law_one_of,
    f__law_words := qfd0 b.f__law_words,
    f__law_is_int := qfd0 b.f__law_is_int,
    f__law_same := qfd0 b.f__law_same,
    f__law_offsets := qfd0 b.f__law_offsets,
    f__law_some_part := qfd0 b.f__law_some_part,
    f__law_leaf := qfd0 b.f__law_leaf,
    f__law_slope := qfd0 b.f__law_slope,
    f__law_rim := qfd0 b.f__law_rim,
    f__law_given_row := qfd0 b.f__law_given_row,
    f__law_table_world := qfd0 b.f__law_table_world,
    f__law_with_row := qfd0 b.f__law_with_row,
    f__law_rules_of := qfd0 b.f__law_rules_of,
    f__law_any_table := qfd0 b.f__law_any_table,
    f__law_refs := qfd0 b.f__law_refs,
    f__law_tidy_add := qfd0 b.f__law_tidy_add,
    f__law_tidy_many := qfd0 b.f__law_tidy_many,
    f__law_tidy_pick := qfd0 b.f__law_tidy_pick,
    f__law_tidy := qfd0 b.f__law_tidy,
    f__law_numbers_in := qfd0 b.f__law_numbers_in,
    f__law_same_parts := qfd0 b.f__law_same_parts,
    f__law_pool_table := qfd0 b.f__law_pool_table,
    f__law_token_count := qfd0 b.f__law_token_count,
    f__law_can_be_read := qfd0 b.f__law_can_be_read,
    f_law := qfd0 b.f_law }
  | k + 1 =>
    have ih := own b k
    {
    len := b.len,
    abs := b.abs,
    sum := b.sum,
    all := b.all,
    sorted := b.sorted,
    int := b.int,
    tuple := b.tuple,
    list := b.list,
    range := b.range,
    isinstance := b.isinstance,
    str := b.str,
    bool := b.bool,
    k_NOTHING := b.k_NOTHING,
    f_added := qfd b.f_added S_added rfl rfl fun f cdv A outer s H E hr => d_added ih hr,
    f_alone := qfd b.f_alone S_alone rfl rfl fun f cdv A outer s H E hr => d_alone ih hr,
    f_spread_out := qfd b.f_spread_out S_spread_out rfl rfl fun f cdv A outer s H E hr => d_spread_out ih hr,
    f_chosen := qfd b.f_chosen S_chosen rfl rfl fun f cdv A outer s H E hr => d_chosen ih hr,
    f_picked := qfd b.f_picked S_picked rfl rfl fun f cdv A outer s H E hr => d_picked ih hr,
    f_forward := qfd b.f_forward S_forward rfl rfl fun f cdv A outer s H E hr => d_forward ih hr,
    f_tidy_pick := qfd b.f_tidy_pick S_tidy_pick rfl rfl fun f cdv A outer s H E hr => d_tidy_pick ih hr,
    f_tidy_sum := qfd b.f_tidy_sum S_tidy_sum rfl rfl fun f cdv A outer s H E hr => d_tidy_sum ih hr,
    f__law_start := qfd b.f__law_start S__law_start rfl rfl fun f cdv A outer s H E hr => d__law_start ih hr,
    f__law_draw := qfd b.f__law_draw S__law_draw rfl rfl fun f cdv A outer s H E hr => d__law_draw ih hr,
    f__law_one_of := qfd b.f__law_one_of S__law_one_of rfl rfl fun f cdv A outer s H E hr => d__law_one_of ih hr,
    f__law_words := qfd b.f__law_words S__law_words rfl rfl fun f cdv A outer s H E hr => d__law_words ih hr,
    f__law_is_int := qfd b.f__law_is_int S__law_is_int rfl rfl fun f cdv A outer s H E hr => d__law_is_int ih hr,
    f__law_same := qfd b.f__law_same S__law_same rfl rfl fun f cdv A outer s H E hr => d__law_same ih hr,
    f__law_offsets := qfd b.f__law_offsets S__law_offsets rfl rfl fun f cdv A outer s H E hr => d__law_offsets ih hr,
    f__law_some_part := qfd b.f__law_some_part S__law_some_part rfl rfl fun f cdv A outer s H E hr => d__law_some_part ih hr,
    f__law_leaf := qfd b.f__law_leaf S__law_leaf rfl rfl fun f cdv A outer s H E hr => d__law_leaf ih hr,
    f__law_slope := qfd b.f__law_slope S__law_slope rfl rfl fun f cdv A outer s H E hr => d__law_slope ih hr,
    f__law_rim := qfd b.f__law_rim S__law_rim rfl rfl fun f cdv A outer s H E hr => d__law_rim ih hr,
    f__law_given_row := qfd b.f__law_given_row S__law_given_row rfl rfl fun f cdv A outer s H E hr => d__law_given_row ih hr,
    f__law_table_world := qfd b.f__law_table_world S__law_table_world rfl rfl fun f cdv A outer s H E hr => d__law_table_world ih hr,
    f__law_with_row := qfd b.f__law_with_row S__law_with_row rfl rfl fun f cdv A outer s H E hr => d__law_with_row ih hr,
    f__law_rules_of := qfd b.f__law_rules_of S__law_rules_of rfl rfl fun f cdv A outer s H E hr => d__law_rules_of ih hr,
    f__law_any_table := qfd b.f__law_any_table S__law_any_table rfl rfl fun f cdv A outer s H E hr => d__law_any_table ih hr,
    f__law_refs := qfd b.f__law_refs S__law_refs rfl rfl fun f cdv A outer s H E hr => d__law_refs ih hr,
    f__law_tidy_add := qfd b.f__law_tidy_add S__law_tidy_add rfl rfl fun f cdv A outer s H E hr => d__law_tidy_add ih hr,
    f__law_tidy_many := qfd b.f__law_tidy_many S__law_tidy_many rfl rfl fun f cdv A outer s H E hr => d__law_tidy_many ih hr,
    f__law_tidy_pick := qfd b.f__law_tidy_pick S__law_tidy_pick rfl rfl fun f cdv A outer s H E hr => d__law_tidy_pick ih hr,
    f__law_tidy := qfd b.f__law_tidy S__law_tidy rfl rfl fun f cdv A outer s H E hr => d__law_tidy ih hr,
    f__law_numbers_in := qfd b.f__law_numbers_in S__law_numbers_in rfl rfl fun f cdv A outer s H E hr => d__law_numbers_in ih hr,
    f__law_same_parts := qfd b.f__law_same_parts S__law_same_parts rfl rfl fun f cdv A outer s H E hr => d__law_same_parts ih hr,
    f__law_pool_table := qfd b.f__law_pool_table S__law_pool_table rfl rfl fun f cdv A outer s H E hr => d__law_pool_table ih hr,
    f__law_token_count := qfd b.f__law_token_count S__law_token_count rfl rfl fun f cdv A outer s H E hr => d__law_token_count ih hr,
    f__law_can_be_read := qfd b.f__law_can_be_read S__law_can_be_read rfl rfl fun f cdv A outer s H E hr => d__law_can_be_read ih hr,
    f_law := qfd b.f_law S_law rfl rfl fun f cdv A outer s H E hr => d_law ih hr }
/-! ### the head -/
def fn0 : List He.DefD := [⟨("added", none), "added", "added", defArgs s_added, defBody s_added, defScope s_added, [], []⟩,
  ⟨("alone", none), "alone", "alone", defArgs s_alone, defBody s_alone, defScope s_alone, [], []⟩,
  ⟨("spread_out", none), "spread_out", "spread_out", defArgs s_spread_out, defBody s_spread_out, defScope s_spread_out, [], []⟩,
  ⟨("chosen", none), "chosen", "chosen", defArgs s_chosen, defBody s_chosen, defScope s_chosen, [], []⟩,
  ⟨("picked", none), "picked", "picked", defArgs s_picked, defBody s_picked, defScope s_picked, [], []⟩,
  ⟨("forward", none), "forward", "forward", defArgs s_forward, defBody s_forward, defScope s_forward, [], []⟩,
  ⟨("tidy_pick", none), "tidy_pick", "tidy_pick", defArgs s_tidy_pick, defBody s_tidy_pick, defScope s_tidy_pick, [], []⟩,
  ⟨("tidy_sum", none), "tidy_sum", "tidy_sum", defArgs s_tidy_sum, defBody s_tidy_sum, defScope s_tidy_sum, [], []⟩,
  ⟨("_law_start", none), "_law_start", "_law_start", defArgs s__law_start, defBody s__law_start, defScope s__law_start, [], []⟩,
  ⟨("_law_draw", none), "_law_draw", "_law_draw", defArgs s__law_draw, defBody s__law_draw, defScope s__law_draw, [], []⟩,
  ⟨("_law_one_of", none), "_law_one_of", "_law_one_of", defArgs s__law_one_of, defBody s__law_one_of, defScope s__law_one_of, [], []⟩,
  ⟨("_law_words", none), "_law_words", "_law_words", defArgs s__law_words, defBody s__law_words, defScope s__law_words, [], []⟩,
  ⟨("_law_is_int", none), "_law_is_int", "_law_is_int", defArgs s__law_is_int, defBody s__law_is_int, defScope s__law_is_int, [], []⟩,
  ⟨("_law_same", none), "_law_same", "_law_same", defArgs s__law_same, defBody s__law_same, defScope s__law_same, [], []⟩,
  ⟨("_law_offsets", none), "_law_offsets", "_law_offsets", defArgs s__law_offsets, defBody s__law_offsets, defScope s__law_offsets, [], []⟩,
  ⟨("_law_some_part", none), "_law_some_part", "_law_some_part", defArgs s__law_some_part, defBody s__law_some_part, defScope s__law_some_part, [], []⟩,
  ⟨("_law_leaf", none), "_law_leaf", "_law_leaf", defArgs s__law_leaf, defBody s__law_leaf, defScope s__law_leaf, [], []⟩,
  ⟨("_law_slope", none), "_law_slope", "_law_slope", defArgs s__law_slope, defBody s__law_slope, defScope s__law_slope, [], []⟩,
  ⟨("_law_rim", none), "_law_rim", "_law_rim", defArgs s__law_rim, defBody s__law_rim, defScope s__law_rim, [], []⟩,
  ⟨("_law_given_row", none), "_law_given_row", "_law_given_row", defArgs s__law_given_row, defBody s__law_given_row, defScope s__law_given_row, [], []⟩,
  ⟨("_law_table_world", none), "_law_table_world", "_law_table_world", defArgs s__law_table_world, defBody s__law_table_world, defScope s__law_table_world, [], []⟩,
  ⟨("_law_with_row", none), "_law_with_row", "_law_with_row", defArgs s__law_with_row, defBody s__law_with_row, defScope s__law_with_row, [], []⟩,
  ⟨("_law_rules_of", none), "_law_rules_of", "_law_rules_of", defArgs s__law_rules_of, defBody s__law_rules_of, defScope s__law_rules_of, [], []⟩,
  ⟨("_law_any_table", none), "_law_any_table", "_law_any_table", defArgs s__law_any_table, defBody s__law_any_table, defScope s__law_any_table, [], []⟩,
  ⟨("_law_refs", none), "_law_refs", "_law_refs", defArgs s__law_refs, defBody s__law_refs, defScope s__law_refs, [], []⟩,
  ⟨("_law_tidy_add", none), "_law_tidy_add", "_law_tidy_add", defArgs s__law_tidy_add, defBody s__law_tidy_add, defScope s__law_tidy_add, [], []⟩,
  ⟨("_law_tidy_many", none), "_law_tidy_many", "_law_tidy_many", defArgs s__law_tidy_many, defBody s__law_tidy_many, defScope s__law_tidy_many, [], []⟩,
  ⟨("_law_tidy_pick", none), "_law_tidy_pick", "_law_tidy_pick", defArgs s__law_tidy_pick, defBody s__law_tidy_pick, defScope s__law_tidy_pick, [], []⟩,
  ⟨("_law_tidy", none), "_law_tidy", "_law_tidy", defArgs s__law_tidy, defBody s__law_tidy, defScope s__law_tidy, [], []⟩,
  ⟨("_law_numbers_in", none), "_law_numbers_in", "_law_numbers_in", defArgs s__law_numbers_in, defBody s__law_numbers_in, defScope s__law_numbers_in, [], []⟩]
def fn1 : List He.DefD := [⟨("_law_same_parts", none), "_law_same_parts", "_law_same_parts", defArgs s__law_same_parts, defBody s__law_same_parts, defScope s__law_same_parts, [], []⟩,
  ⟨("_law_pool_table", none), "_law_pool_table", "_law_pool_table", defArgs s__law_pool_table, defBody s__law_pool_table, defScope s__law_pool_table, [], []⟩,
  ⟨("_law_token_count", none), "_law_token_count", "_law_token_count", defArgs s__law_token_count, defBody s__law_token_count, defScope s__law_token_count, [], []⟩,
  ⟨("_law_can_be_read", none), "_law_can_be_read", "_law_can_be_read", defArgs s__law_can_be_read, defBody s__law_can_be_read, defScope s__law_can_be_read, [], []⟩,
  ⟨("law", none), "law", "law", defArgs s_law, defBody s_law, defScope s_law, [], []⟩]
def fn : List He.DefD := fn0 ++ fn1
def fa0 : List He.Fa := [.glo "added",
  .glo "alone",
  .glo "spread_out",
  .glo "chosen",
  .glo "picked",
  .glo "forward",
  .glo "tidy_pick",
  .glo "tidy_sum",
  .glo "_law_start",
  .glo "_law_draw",
  .glo "_law_one_of",
  .glo "_law_words",
  .glo "_law_is_int",
  .glo "_law_same",
  .glo "_law_offsets",
  .glo "_law_some_part",
  .glo "_law_leaf",
  .glo "_law_slope",
  .glo "_law_rim",
  .glo "_law_given_row",
  .glo "_law_table_world",
  .glo "_law_with_row",
  .glo "_law_rules_of",
  .glo "_law_any_table",
  .glo "_law_refs",
  .glo "_law_tidy_add",
  .glo "_law_tidy_many",
  .glo "_law_tidy_pick",
  .glo "_law_tidy",
  .glo "_law_numbers_in"]
def fa1 : List He.Fa := [.glo "_law_same_parts",
  .glo "_law_pool_table",
  .glo "_law_token_count",
  .glo "_law_can_be_read",
  .glo "law",
  .free "len",
  .free "abs",
  .free "sum",
  .free "all",
  .free "sorted",
  .free "int",
  .free "tuple",
  .free "list",
  .free "range",
  .free "isinstance",
  .free "str",
  .free "bool"]
def fa : List He.Fa := fa0 ++ fa1
def ex (K : PySem.W.Frag) : Bool := conB' K "NOTHING" (.tup [(.int 0), (.tup [])]) && (true)
def loose0 : List PySem.Str := ["added",
  "alone",
  "spread_out",
  "chosen",
  "picked",
  "forward",
  "tidy_pick",
  "tidy_sum",
  "_law_start",
  "_law_draw",
  "_law_one_of",
  "_law_words",
  "_law_is_int",
  "_law_same",
  "_law_offsets",
  "_law_some_part",
  "_law_leaf",
  "_law_slope",
  "_law_rim",
  "_law_given_row",
  "_law_table_world",
  "_law_with_row",
  "_law_rules_of",
  "_law_any_table",
  "_law_refs",
  "_law_tidy_add",
  "_law_tidy_many",
  "_law_tidy_pick",
  "_law_tidy",
  "_law_numbers_in"]
def loose1 : List PySem.Str := ["_law_same_parts",
  "_law_pool_table",
  "_law_token_count",
  "_law_can_be_read",
  "NOTHING"]
def loose : List PySem.Str := loose0 ++ loose1
abbrev R : PySem.W.OpenRow := PySem.W.OpenLaw.row PySem.Challenge.rw_toldinwaves_k74_tidy_sums
abbrev hk : PySem.W.Hook := He.hookX 4 fa fn [] [] ex
def ob (s : PySem.W.SharedT) : He.AlX := He.obsX 4 fa fn [] [] ex (HandSHeadRun.getT s)
theorem ob_eq (s : PySem.W.SharedT) : ob s = hk.obs s.abs := He.obsX_eq (HandSHeadRun.getT_eq s)
set_option maxHeartbeats 0 in
theorem run (w : World) : HandSHeadRun.RunEq R (PySem.W.view R.prog [37]) hk ob 4000 loose w := by
  intro os
  kernel_rfl
theorem facts {w : World} {K : PySem.W.Frag} {h : Heap} {mg : Str → Option Value} (X : K.In h) (G : h.Ns mainGlobals mg) (c : He.SaysX fa fn [] [] ex w h K) : Bs K mg := by
  exact {
    len := He.free_ok X G (c.t.d.fact 35 (f := .free "len") rfl),
    abs := He.free_ok X G (c.t.d.fact 36 (f := .free "abs") rfl),
    sum := He.free_ok X G (c.t.d.fact 37 (f := .free "sum") rfl),
    all := He.free_ok X G (c.t.d.fact 38 (f := .free "all") rfl),
    sorted := He.free_ok X G (c.t.d.fact 39 (f := .free "sorted") rfl),
    int := He.free_ok X G (c.t.d.fact 40 (f := .free "int") rfl),
    tuple := He.free_ok X G (c.t.d.fact 41 (f := .free "tuple") rfl),
    list := He.free_ok X G (c.t.d.fact 42 (f := .free "list") rfl),
    range := He.free_ok X G (c.t.d.fact 43 (f := .free "range") rfl),
    isinstance := He.free_ok X G (c.t.d.fact 44 (f := .free "isinstance") rfl),
    str := He.free_ok X G (c.t.d.fact 45 (f := .free "str") rfl),
    bool := He.free_ok X G (c.t.d.fact 46 (f := .free "bool") rfl),
    k_NOTHING := con_ok X G (He.ba c.more).1,
    f_added := by
      obtain ⟨fd, F⟩ := c.t.d.def_ 0 (d := ⟨("added", none), "added", "added", defArgs s_added, defBody s_added, defScope s_added, [], []⟩) rfl
      exact ⟨_, fd, F, He.glo_ok X G (c.t.d.fact 0 (f := .glo "added") rfl), FunD.bindsA (ps := ["one", "other", "factor"]) F fun _ _ _ _ _ _ us hl => match us, hl with | [_, _, _], _ => rfl⟩,
    f_alone := by
      obtain ⟨fd, F⟩ := c.t.d.def_ 1 (d := ⟨("alone", none), "alone", "alone", defArgs s_alone, defBody s_alone, defScope s_alone, [], []⟩) rfl
      exact ⟨_, fd, F, He.glo_ok X G (c.t.d.fact 1 (f := .glo "alone") rfl), FunD.bindsA (ps := ["atom"]) F fun _ _ _ _ _ _ us hl => match us, hl with | [_], _ => rfl⟩,
    f_spread_out := by
      obtain ⟨fd, F⟩ := c.t.d.def_ 2 (d := ⟨("spread_out", none), "spread_out", "spread_out", defArgs s_spread_out, defBody s_spread_out, defScope s_spread_out, [], []⟩) rfl
      exact ⟨_, fd, F, He.glo_ok X G (c.t.d.fact 2 (f := .glo "spread_out") rfl), FunD.bindsA (ps := ["kind", "sums"]) F fun _ _ _ _ _ _ us hl => match us, hl with | [_, _], _ => rfl⟩,
    f_chosen := by
      obtain ⟨fd, F⟩ := c.t.d.def_ 3 (d := ⟨("chosen", none), "chosen", "chosen", defArgs s_chosen, defBody s_chosen, defScope s_chosen, [], []⟩) rfl
      exact ⟨_, fd, F, He.glo_ok X G (c.t.d.fact 3 (f := .glo "chosen") rfl), FunD.bindsA (ps := ["kind", "sums"]) F fun _ _ _ _ _ _ us hl => match us, hl with | [_, _], _ => rfl⟩,
    f_picked := by
      obtain ⟨fd, F⟩ := c.t.d.def_ 4 (d := ⟨("picked", none), "picked", "picked", defArgs s_picked, defBody s_picked, defScope s_picked, [], []⟩) rfl
      exact ⟨_, fd, F, He.glo_ok X G (c.t.d.fact 4 (f := .glo "picked") rfl), FunD.bindsA (ps := ["sign", "compared", "yes", "no"]) F fun _ _ _ _ _ _ us hl => match us, hl with | [_, _, _, _], _ => rfl⟩,
    f_forward := by
      obtain ⟨fd, F⟩ := c.t.d.def_ 5 (d := ⟨("forward", none), "forward", "forward", defArgs s_forward, defBody s_forward, defScope s_forward, [], []⟩) rfl
      exact ⟨_, fd, F, He.glo_ok X G (c.t.d.fact 5 (f := .glo "forward") rfl), FunD.bindsA (ps := ["compared"]) F fun _ _ _ _ _ _ us hl => match us, hl with | [_], _ => rfl⟩,
    f_tidy_pick := by
      obtain ⟨fd, F⟩ := c.t.d.def_ 6 (d := ⟨("tidy_pick", none), "tidy_pick", "tidy_pick", defArgs s_tidy_pick, defBody s_tidy_pick, defScope s_tidy_pick, [], []⟩) rfl
      exact ⟨_, fd, F, He.glo_ok X G (c.t.d.fact 6 (f := .glo "tidy_pick") rfl), FunD.bindsA (ps := ["sign", "left", "right", "yes", "no"]) F fun _ _ _ _ _ _ us hl => match us, hl with | [_, _, _, _, _], _ => rfl⟩,
    f_tidy_sum := by
      obtain ⟨fd, F⟩ := c.t.d.def_ 7 (d := ⟨("tidy_sum", none), "tidy_sum", "tidy_sum", defArgs s_tidy_sum, defBody s_tidy_sum, defScope s_tidy_sum, [], []⟩) rfl
      exact ⟨_, fd, F, He.glo_ok X G (c.t.d.fact 7 (f := .glo "tidy_sum") rfl), FunD.bindsA (ps := ["expression"]) F fun _ _ _ _ _ _ us hl => match us, hl with | [_], _ => rfl⟩,
    f__law_start := by
      obtain ⟨fd, F⟩ := c.t.d.def_ 8 (d := ⟨("_law_start", none), "_law_start", "_law_start", defArgs s__law_start, defBody s__law_start, defScope s__law_start, [], []⟩) rfl
      exact ⟨_, fd, F, He.glo_ok X G (c.t.d.fact 8 (f := .glo "_law_start") rfl), FunD.bindsA (ps := ["script"]) F fun _ _ _ _ _ _ us hl => match us, hl with | [_], _ => rfl⟩,
    f__law_draw := by
      obtain ⟨fd, F⟩ := c.t.d.def_ 9 (d := ⟨("_law_draw", none), "_law_draw", "_law_draw", defArgs s__law_draw, defBody s__law_draw, defScope s__law_draw, [], []⟩) rfl
      exact ⟨_, fd, F, He.glo_ok X G (c.t.d.fact 9 (f := .glo "_law_draw") rfl), FunD.bindsA (ps := ["state", "most"]) F fun _ _ _ _ _ _ us hl => match us, hl with | [_, _], _ => rfl⟩,
    f__law_one_of := by
      obtain ⟨fd, F⟩ := c.t.d.def_ 10 (d := ⟨("_law_one_of", none), "_law_one_of", "_law_one_of", defArgs s__law_one_of, defBody s__law_one_of, defScope s__law_one_of, [], []⟩) rfl
      exact ⟨_, fd, F, He.glo_ok X G (c.t.d.fact 10 (f := .glo "_law_one_of") rfl), FunD.bindsA (ps := ["state", "items"]) F fun _ _ _ _ _ _ us hl => match us, hl with | [_, _], _ => rfl⟩,
    f__law_words := by
      obtain ⟨fd, F⟩ := c.t.d.def_ 11 (d := ⟨("_law_words", none), "_law_words", "_law_words", defArgs s__law_words, defBody s__law_words, defScope s__law_words, [], []⟩) rfl
      exact ⟨_, fd, F, He.glo_ok X G (c.t.d.fact 11 (f := .glo "_law_words") rfl), FunD.bindsA (ps := ["state", "many"]) F fun _ _ _ _ _ _ us hl => match us, hl with | [_, _], _ => rfl⟩,
    f__law_is_int := by
      obtain ⟨fd, F⟩ := c.t.d.def_ 12 (d := ⟨("_law_is_int", none), "_law_is_int", "_law_is_int", defArgs s__law_is_int, defBody s__law_is_int, defScope s__law_is_int, [], []⟩) rfl
      exact ⟨_, fd, F, He.glo_ok X G (c.t.d.fact 12 (f := .glo "_law_is_int") rfl), FunD.bindsA (ps := ["x"]) F fun _ _ _ _ _ _ us hl => match us, hl with | [_], _ => rfl⟩,
    f__law_same := by
      obtain ⟨fd, F⟩ := c.t.d.def_ 13 (d := ⟨("_law_same", none), "_law_same", "_law_same", defArgs s__law_same, defBody s__law_same, defScope s__law_same, [], []⟩) rfl
      exact ⟨_, fd, F, He.glo_ok X G (c.t.d.fact 13 (f := .glo "_law_same") rfl), FunD.bindsA (ps := ["x", "y"]) F fun _ _ _ _ _ _ us hl => match us, hl with | [_, _], _ => rfl⟩,
    f__law_offsets := by
      obtain ⟨fd, F⟩ := c.t.d.def_ 14 (d := ⟨("_law_offsets", none), "_law_offsets", "_law_offsets", defArgs s__law_offsets, defBody s__law_offsets, defScope s__law_offsets, [], []⟩) rfl
      exact ⟨_, fd, F, He.glo_ok X G (c.t.d.fact 14 (f := .glo "_law_offsets") rfl), FunD.bindsA (ps := ["state", "many", "most"]) F fun _ _ _ _ _ _ us hl => match us, hl with | [_, _, _], _ => rfl⟩,
    f__law_some_part := by
      obtain ⟨fd, F⟩ := c.t.d.def_ 15 (d := ⟨("_law_some_part", none), "_law_some_part", "_law_some_part", defArgs s__law_some_part, defBody s__law_some_part, defScope s__law_some_part, [], []⟩) rfl
      exact ⟨_, fd, F, He.glo_ok X G (c.t.d.fact 15 (f := .glo "_law_some_part") rfl), FunD.bindsA (ps := ["state", "w", "depth"]) F fun _ _ _ _ _ _ us hl => match us, hl with | [_, _, _], _ => rfl⟩,
    f__law_leaf := by
      obtain ⟨fd, F⟩ := c.t.d.def_ 16 (d := ⟨("_law_leaf", none), "_law_leaf", "_law_leaf", defArgs s__law_leaf, defBody s__law_leaf, defScope s__law_leaf, [], []⟩) rfl
      exact ⟨_, fd, F, He.glo_ok X G (c.t.d.fact 16 (f := .glo "_law_leaf") rfl), FunD.bindsA (ps := ["state", "w"]) F fun _ _ _ _ _ _ us hl => match us, hl with | [_, _], _ => rfl⟩,
    f__law_slope := by
      obtain ⟨fd, F⟩ := c.t.d.def_ 17 (d := ⟨("_law_slope", none), "_law_slope", "_law_slope", defArgs s__law_slope, defBody s__law_slope, defScope s__law_slope, [], []⟩) rfl
      exact ⟨_, fd, F, He.glo_ok X G (c.t.d.fact 17 (f := .glo "_law_slope") rfl), FunD.bindsA (ps := ["w", "name", "other", "offsets"]) F fun _ _ _ _ _ _ us hl => match us, hl with | [_, _, _, _], _ => rfl⟩,
    f__law_rim := by
      obtain ⟨fd, F⟩ := c.t.d.def_ 18 (d := ⟨("_law_rim", none), "_law_rim", "_law_rim", defArgs s__law_rim, defBody s__law_rim, defScope s__law_rim, [], []⟩) rfl
      exact ⟨_, fd, F, He.glo_ok X G (c.t.d.fact 18 (f := .glo "_law_rim") rfl), FunD.bindsA (ps := ["state"]) F fun _ _ _ _ _ _ us hl => match us, hl with | [_], _ => rfl⟩,
    f__law_given_row := by
      obtain ⟨fd, F⟩ := c.t.d.def_ 19 (d := ⟨("_law_given_row", none), "_law_given_row", "_law_given_row", defArgs s__law_given_row, defBody s__law_given_row, defScope s__law_given_row, [], []⟩) rfl
      exact ⟨_, fd, F, He.glo_ok X G (c.t.d.fact 19 (f := .glo "_law_given_row") rfl), FunD.bindsA (ps := ["state", "name"]) F fun _ _ _ _ _ _ us hl => match us, hl with | [_, _], _ => rfl⟩,
    f__law_table_world := by
      obtain ⟨fd, F⟩ := c.t.d.def_ 20 (d := ⟨("_law_table_world", none), "_law_table_world", "_law_table_world", defArgs s__law_table_world, defBody s__law_table_world, defScope s__law_table_world, [], []⟩) rfl
      exact ⟨_, fd, F, He.glo_ok X G (c.t.d.fact 20 (f := .glo "_law_table_world") rfl), FunD.bindsA (ps := ["state", "many", "rules", "givens"]) F fun _ _ _ _ _ _ us hl => match us, hl with | [_, _, _, _], _ => rfl⟩,
    f__law_with_row := by
      obtain ⟨fd, F⟩ := c.t.d.def_ 21 (d := ⟨("_law_with_row", none), "_law_with_row", "_law_with_row", defArgs s__law_with_row, defBody s__law_with_row, defScope s__law_with_row, [], []⟩) rfl
      exact ⟨_, fd, F, He.glo_ok X G (c.t.d.fact 21 (f := .glo "_law_with_row") rfl), FunD.bindsA (ps := ["state", "w", "least"]) F fun _ _ _ _ _ _ us hl => match us, hl with | [_, _, _], _ => rfl⟩,
    f__law_rules_of := by
      obtain ⟨fd, F⟩ := c.t.d.def_ 22 (d := ⟨("_law_rules_of", none), "_law_rules_of", "_law_rules_of", defArgs s__law_rules_of, defBody s__law_rules_of, defScope s__law_rules_of, [], []⟩) rfl
      exact ⟨_, fd, F, He.glo_ok X G (c.t.d.fact 22 (f := .glo "_law_rules_of") rfl), FunD.bindsA (ps := ["state", "w", "depth"]) F fun _ _ _ _ _ _ us hl => match us, hl with | [_, _, _], _ => rfl⟩,
    f__law_any_table := by
      obtain ⟨fd, F⟩ := c.t.d.def_ 23 (d := ⟨("_law_any_table", none), "_law_any_table", "_law_any_table", defArgs s__law_any_table, defBody s__law_any_table, defScope s__law_any_table, [], []⟩) rfl
      exact ⟨_, fd, F, He.glo_ok X G (c.t.d.fact 23 (f := .glo "_law_any_table") rfl), FunD.bindsA (ps := ["state"]) F fun _ _ _ _ _ _ us hl => match us, hl with | [_], _ => rfl⟩,
    f__law_refs := by
      obtain ⟨fd, F⟩ := c.t.d.def_ 24 (d := ⟨("_law_refs", none), "_law_refs", "_law_refs", defArgs s__law_refs, defBody s__law_refs, defScope s__law_refs, [], []⟩) rfl
      exact ⟨_, fd, F, He.glo_ok X G (c.t.d.fact 24 (f := .glo "_law_refs") rfl), FunD.bindsA (ps := ["e"]) F fun _ _ _ _ _ _ us hl => match us, hl with | [_], _ => rfl⟩,
    f__law_tidy_add := by
      obtain ⟨fd, F⟩ := c.t.d.def_ 25 (d := ⟨("_law_tidy_add", none), "_law_tidy_add", "_law_tidy_add", defArgs s__law_tidy_add, defBody s__law_tidy_add, defScope s__law_tidy_add, [], []⟩) rfl
      exact ⟨_, fd, F, He.glo_ok X G (c.t.d.fact 25 (f := .glo "_law_tidy_add") rfl), FunD.bindsA (ps := ["one", "other", "factor"]) F fun _ _ _ _ _ _ us hl => match us, hl with | [_, _, _], _ => rfl⟩,
    f__law_tidy_many := by
      obtain ⟨fd, F⟩ := c.t.d.def_ 26 (d := ⟨("_law_tidy_many", none), "_law_tidy_many", "_law_tidy_many", defArgs s__law_tidy_many, defBody s__law_tidy_many, defScope s__law_tidy_many, [], []⟩) rfl
      exact ⟨_, fd, F, He.glo_ok X G (c.t.d.fact 26 (f := .glo "_law_tidy_many") rfl), FunD.bindsA (ps := ["kind", "sums"]) F fun _ _ _ _ _ _ us hl => match us, hl with | [_, _], _ => rfl⟩,
    f__law_tidy_pick := by
      obtain ⟨fd, F⟩ := c.t.d.def_ 27 (d := ⟨("_law_tidy_pick", none), "_law_tidy_pick", "_law_tidy_pick", defArgs s__law_tidy_pick, defBody s__law_tidy_pick, defScope s__law_tidy_pick, [], []⟩) rfl
      exact ⟨_, fd, F, He.glo_ok X G (c.t.d.fact 27 (f := .glo "_law_tidy_pick") rfl), FunD.bindsA (ps := ["sign", "one", "other", "yes", "no"]) F fun _ _ _ _ _ _ us hl => match us, hl with | [_, _, _, _, _], _ => rfl⟩,
    f__law_tidy := by
      obtain ⟨fd, F⟩ := c.t.d.def_ 28 (d := ⟨("_law_tidy", none), "_law_tidy", "_law_tidy", defArgs s__law_tidy, defBody s__law_tidy, defScope s__law_tidy, [], []⟩) rfl
      exact ⟨_, fd, F, He.glo_ok X G (c.t.d.fact 28 (f := .glo "_law_tidy") rfl), FunD.bindsA (ps := ["e"]) F fun _ _ _ _ _ _ us hl => match us, hl with | [_], _ => rfl⟩,
    f__law_numbers_in := by
      obtain ⟨fd, F⟩ := c.t.d.def_ 29 (d := ⟨("_law_numbers_in", none), "_law_numbers_in", "_law_numbers_in", defArgs s__law_numbers_in, defBody s__law_numbers_in, defScope s__law_numbers_in, [], []⟩) rfl
      exact ⟨_, fd, F, He.glo_ok X G (c.t.d.fact 29 (f := .glo "_law_numbers_in") rfl), FunD.bindsA (ps := ["e"]) F fun _ _ _ _ _ _ us hl => match us, hl with | [_], _ => rfl⟩,
    f__law_same_parts := by
      obtain ⟨fd, F⟩ := c.t.d.def_ 30 (d := ⟨("_law_same_parts", none), "_law_same_parts", "_law_same_parts", defArgs s__law_same_parts, defBody s__law_same_parts, defScope s__law_same_parts, [], []⟩) rfl
      exact ⟨_, fd, F, He.glo_ok X G (c.t.d.fact 30 (f := .glo "_law_same_parts") rfl), FunD.bindsA (ps := ["state", "w", "depth"]) F fun _ _ _ _ _ _ us hl => match us, hl with | [_, _, _], _ => rfl⟩,
    f__law_pool_table := by
      obtain ⟨fd, F⟩ := c.t.d.def_ 31 (d := ⟨("_law_pool_table", none), "_law_pool_table", "_law_pool_table", defArgs s__law_pool_table, defBody s__law_pool_table, defScope s__law_pool_table, [], []⟩) rfl
      exact ⟨_, fd, F, He.glo_ok X G (c.t.d.fact 31 (f := .glo "_law_pool_table") rfl), FunD.bindsA (ps := ["state"]) F fun _ _ _ _ _ _ us hl => match us, hl with | [_], _ => rfl⟩,
    f__law_token_count := by
      obtain ⟨fd, F⟩ := c.t.d.def_ 32 (d := ⟨("_law_token_count", none), "_law_token_count", "_law_token_count", defArgs s__law_token_count, defBody s__law_token_count, defScope s__law_token_count, [], []⟩) rfl
      exact ⟨_, fd, F, He.glo_ok X G (c.t.d.fact 32 (f := .glo "_law_token_count") rfl), FunD.bindsA (ps := ["over", "e"]) F fun _ _ _ _ _ _ us hl => match us, hl with | [_, _], _ => rfl⟩,
    f__law_can_be_read := by
      obtain ⟨fd, F⟩ := c.t.d.def_ 33 (d := ⟨("_law_can_be_read", none), "_law_can_be_read", "_law_can_be_read", defArgs s__law_can_be_read, defBody s__law_can_be_read, defScope s__law_can_be_read, [], []⟩) rfl
      exact ⟨_, fd, F, He.glo_ok X G (c.t.d.fact 33 (f := .glo "_law_can_be_read") rfl), FunD.bindsA (ps := ["over", "row"]) F fun _ _ _ _ _ _ us hl => match us, hl with | [_, _], _ => rfl⟩,
    f_law := by
      obtain ⟨fd, F⟩ := c.t.d.def_ 34 (d := ⟨("law", none), "law", "law", defArgs s_law, defBody s_law, defScope s_law, [], []⟩) rfl
      exact ⟨_, fd, F, He.glo_ok X G (c.t.d.fact 34 (f := .glo "law") rfl), FunD.bindsA (ps := ["script"]) F fun _ _ _ _ _ _ us hl => match us, hl with | [_], _ => rfl⟩ }
open PySem PySem.W PySem.Calls PyProof.Rows in
set_option maxHeartbeats 0 in
theorem holds (kk : Nat) (hk : Room (kk + 1) callerA) (math : ∀ ns : List Int, ns.length ≤ 63 → (wC (kk + 1)).law [.scr ns] (fun _ => none) fun p _ => p = .bl true) : PySem.Challenge.rw_toldinwaves_k74_tidy_sums.Holds := by
  w_on; o_law
  refine HandSHeadRun.head_any (r := OpenLaw.row PySem.Challenge.rw_toldinwaves_k74_tidy_sums) (q := view (OpenLaw.row PySem.Challenge.rw_toldinwaves_k74_tidy_sums).prog [37]) (H := K74.hk) (ob := ob) (M := 4000) (loose := loose) (d := HandSHeadRun.topDef (OpenLaw.row PySem.Challenge.rw_toldinwaves_k74_tidy_sums).prog 37) (kwd := []) ob_eq
    (by kernel_rfl) (fun s => by kernel_rfl) run (by kernel_rfl) (by kernel_rfl) (by kernel_rfl) (by rfl) (by first | assumption | decide +kernel) (by decide +kernel) ⟨rfl, rfl, rfl, rfl, rfl, by decide +kernel⟩ ?hw ?hc
  case hw => w_witness2
  case hc =>
    refine L2.walk_ofE (l := PySem.Challenge.rw_toldinwaves_k74_tidy_sums) (n := 63) (k := kk + 1) (x := "script") (CX := L2.CX0) rfl (by decide) (by kernel_rfl) hk ?F (fun _ _ _ _ z => z)
    intro w mg fa h Y G hmg0
    obtain ⟨K, KX, c⟩ := Y
    have hmg : mg ("law" : PySem.Str) = some (.ref fa) := by
      have e : (HandSHeadRun.topDef (OpenLaw.row PySem.Challenge.rw_toldinwaves_k74_tidy_sums).prog 37).name = ("law" : PySem.Str) := by kernel_rfl
      rw [← e]
      exact hmg0
    have B := facts KX G c
    obtain ⟨fd, sp, hb, hsp, hF⟩ := law_ok (P := (PySem.Challenge.rw_toldinwaves_k74_tidy_sums).prog) (w := w) B.f_law S_law (n := 13) rfl hmg (fun base hK hB f cdv A outer s H E hr => d_law (own B kk) hr) math
    exact ⟨K, fd, sp, KX, hb, hsp, hF⟩
theorem wC_succ (k : Nat) : wC (k + 1) = cS (wC k) := rfl
theorem ds_up {h : PH} {a s : Addr} {ns : List Int} (has : a ≠ s) (ha : h a = some (.lst (ns.map .int))) (i c n : Int) : DS a ns s (up h s (.lst [.ref a, .int i, .int c, .int n])) ∧ G.Fr [s] h (up h s (.lst [.ref a, .int i, .int c, .int n])) :=
  ⟨⟨has, by rw [up_ne has]; exact ha, i, c, n, up_same⟩, fun b n => up_ne (by simpa using n)⟩
theorem c_draw {k : Nat} (hk : 1 ≤ k) {a s : Addr} {ns : List Int} {most : Int} {h : PH} {Q : QV} (d : DS a ns s h) (hm : 0 < most) (hm2 : most < 1073741824)
    (q : ∀ v h', 0 ≤ v → v < most → DS a ns s h' → G.Fr [s] h h' → Q (.int v) h') : (wC k)._law_draw [.ref s, .int most] h Q := by
  obtain ⟨k, rfl⟩ : ∃ j, k = j + 1 := ⟨k - 1, by omega⟩
  obtain ⟨has, ha, i, c, n, hs⟩ := d
  have fin : ∀ (v i' c' n' : Int), 0 ≤ v → v < most → ∃ h2, G.Sub h2 (up h s (.lst [.ref a, .int i', .int c', .int n'])) ∧ Q (.int v) h2 := fun v i' c' n' h1 h2 => by
    obtain ⟨x, y⟩ := ds_up has ha i' c' n'
    exact ⟨_, G.Sub.refl _, q _ _ h1 h2 x y⟩
  have hau : ∀ o, up h s o a = some (.lst (ns.map .int)) := fun o => by rw [up_ne has]; exact ha
  have hmod : ∀ x : Int, 0 ≤ x % most ∧ x % most < most := fun x => ⟨Int.emod_nonneg _ (by omega), Int.emod_lt_of_pos _ hm⟩
  show zFn _ _ (b__law_draw (wC k)) _ h Q
  unfold b__law_draw
  simp! [hs, ha]
  rw [zSeq_x]
  simp! [hs, ha]
  by_cases h0 : 0 < c
  · simp! [h0]
    exact ⟨hm, ⟨hm, hm2⟩, fin _ _ _ _ (hmod _).1 (hmod _).2⟩
  · simp! [h0]
    refine zSeq_key (fun ρ' h' => ∃ cell : Int, 0 ≤ cell ∧ ρ' = [some (.ref s), some (.int most), none, some (.int cell), none] ∧ h' = up h s (.lst [.ref a, .int i, .int c, .int (n + 1)])) ?_ fun X kx => ?_
    · rintro _ _ ⟨cell, hc, rfl, rfl⟩
      simp! []
      rw [zSeq_x]
      simp! []
      refine ⟨⟨by decide, by decide, by decide⟩, ?_⟩
      by_cases hb : (10 : Int) ^ (18 : Int).toNat ≤ cell
      · simp! [hb]
        exact ⟨⟨hm, hm2⟩, hm, fin _ _ _ _ (hmod _).1 (hmod _).2⟩
      · simp! [hb]
        exact ⟨mulL ⟨by decide, by decide⟩, mulL ⟨by decide, by decide⟩, by decide, mulL ⟨by decide, by decide⟩, ⟨by decide, by decide⟩, by decide, ⟨by decide, by decide⟩, hm, fin _ _ _ _ (hmod _).1 (hmod _).2⟩
    · simp! [hau]
      by_cases hl : 0 < ((ns.map PV.int).length : Int)
      · simp only [hl, decide_true, if_true]
        have hl' : 0 < (ns.length : Int) := by simpa using hl
        obtain ⟨j, hj⟩ : ∃ j : Nat, i % (ns.length : Int) = (j : Int) := ⟨(i % ns.length).toNat, by have := Int.emod_nonneg i (b := (ns.length : Int)) (by omega); omega⟩
        have hj2 : j < ns.length := by have := Int.emod_lt_of_pos i hl'; omega
        have e : atI (ns.map PV.int) (i % ((ns.map PV.int).length : Int)) = some (.int ns[j]) := by
          rw [List.length_map, hj, atN, List.getElem?_map, List.getElem?_eq_getElem hj2]; rfl
        simp! [hau, e]
        exact kx _ _ ⟨_, by split <;> omega, rfl, rfl⟩
      · simp! [hl]
        exact kx _ _ ⟨0, by omega, rfl, rfl⟩

theorem c_one_of {k : Nat} (hk : 2 ≤ k) {a s l : Addr} {ns : List Int} {xs : List PV} {h : PH} {Q : QV} (d : DS a ns s h) (hl : h l = some (.lst xs)) (h0 : xs ≠ []) (h1 : xs.length < 1073741824) (hne : l ≠ s)
    (q : ∀ x h', x ∈ xs → DS a ns s h' → G.Fr [s] h h' → Q x h') : (wC k)._law_one_of [.ref s, .ref l] h Q := by
  obtain ⟨k, rfl⟩ : ∃ j, k = j + 1 := ⟨k - 1, by omega⟩
  show zFn _ _ (b__law_one_of (wC k)) _ h Q
  unfold b__law_one_of
  dsimp! [hl]
  have h3 : 0 < xs.length := List.length_pos_iff.mpr h0
  refine c_draw (by omega) d (by omega) (by omega) fun v h' v0 v1 d' f => ?_
  have e : h' l = some (.lst xs) := (f l (by simpa using hne)).trans hl
  obtain ⟨j, rfl⟩ : ∃ j : Nat, v = (j : Int) := ⟨v.toNat, by omega⟩
  have hj : j < xs.length := by omega
  dsimp! [e, atN, List.getElem?_eq_getElem hj]
  exact ⟨_, G.Sub.refl _, q _ _ (List.getElem_mem hj) d' f⟩

theorem c_start {k : Nat} (hk : 1 ≤ k) {ns : List Int} (hn : ns.length ≤ 63) {h : PH} {Q : QV} (q : ∀ a s h', DS a ns s h' → Kp [] h h' → h s = none → Q (.ref s) h') : (wC k)._law_start [.scr ns] h Q := by
  obtain ⟨k, rfl⟩ : ∃ j, k = j + 1 := ⟨k - 1, by omega⟩
  show zFn _ _ (b__law_start (wC k)) _ h Q
  unfold b__law_start
  dsimp! []
  refine fun _ a na => ⟨by decide, fun s ns' => ?_⟩
  have e : s ≠ a := by rintro rfl; rw [up_same] at ns'; cases ns'
  refine ⟨_, G.Sub.refl _, q a s _ ⟨e.symm, ?_, 0, 0, 0, up_same⟩ (((Kp.refl _ _).new na).new ns') ?_⟩
  · rw [up_ne e.symm]; exact up_same
  · rw [up_ne e] at ns'
    exact ns'
theorem c_is_int {k : Nat} (hk : 1 ≤ k) {i : Int} {h : PH} {Q : QV} (q : Q (.bl true) h) : (wC k)._law_is_int [.int i] h Q := by
  obtain ⟨k, rfl⟩ : ∃ j, k = j + 1 := ⟨k - 1, by omega⟩
  show zFn _ _ (b__law_is_int (wC k)) _ h Q
  unfold b__law_is_int
  dsimp! []
  simp only [show decide (Ty.int = Ty.int) = true from rfl, show decide (Ty.int = Ty.bool) = false from rfl, Bool.not_false, if_true]
  exact ⟨_, G.Sub.refl _, q⟩
/-- a whole number between -4 and 4, mostly 0 -/
theorem c_rim {k : Nat} (hk : 2 ≤ k) {a s : Addr} {ns : List Int} {h : PH} {Q : QV} (d : DS a ns s h) (q : ∀ v h', DS a ns s h' → G.Fr [s] h h' → -4 ≤ v → v ≤ 4 → Q (.int v) h') : (wC k)._law_rim [.ref s] h Q := by
  obtain ⟨k, rfl⟩ : ∃ j, k = j + 1 := ⟨k - 1, by omega⟩
  show zFn _ _ (b__law_rim (wC k)) _ h Q
  unfold b__law_rim
  dsimp! []
  refine c_draw (by omega) d (by omega) (by omega) fun v h' v0 v1 d' f => ?_
  dsimp! []
  refine ⟨by decide, fun p np => ?_⟩
  refine c_draw (by omega) (d'.new np) (by omega) (by omega) fun w h2 w0 w1 d3 f2 => ?_
  have e : h2 p = some (.lst [.int 0, .int 0, .int (v - 4)]) := (f2 p (by simpa using d'.ne np)).trans up_same
  have kp : Kp [s] h h2 := f.kp.trans ((kp_new np).trans f2.kp)
  have fin : ∀ z : Int, -4 ≤ z → z ≤ 4 → ∃ h3, G.Sub h3 h2 ∧ Q (.int z) h3 := fun z z0 z1 => d.out d3 kp fun h3 x y => q z h3 x y z0 z1
  rcases (show w = 0 ∨ w = 1 ∨ w = 2 by omega) with rfl | rfl | rfl
  · dsimp! [e]; exact fin _ (by omega) (by omega)
  · dsimp! [e]; exact fin _ (by omega) (by omega)
  · dsimp! [e]; exact fin _ (by omega) (by omega)

mutual
/-- whole numbers, texts, and tuples of such -/
def dat : PV → Bool
  | .int _ => true
  | .str x => x.all fun c => decide (c < 1114112)
  | .tup xs => decide (xs.length ≤ 1000000) && dats xs
  | _ => false
def dats : List PV → Bool
  | [] => true
  | x :: xs => dat x && dats xs
end
theorem dats_mem {xs : List PV} (h : dats xs = true) {x : PV} (m : x ∈ xs) : dat x = true := by
  induction xs with
  | nil => cases m
  | cons y ys ih =>
    simp only [dats, Bool.and_eq_true] at h
    rcases List.mem_cons.mp m with rfl | m
    · exact h.1
    · exact ih h.2 m
mutual
theorem dat_pl : ∀ p : PV, dat p = true → p.pl = true
  | .int _, _ => by simp [PV.pl]
  | .str x, h => by simpa [dat, PV.pl] using h
  | .tup xs, h => by
    simp only [dat, Bool.and_eq_true] at h
    simpa [PV.pl] using dats_pl xs h.2
  | .non, h => by simp [dat] at h
  | .bl _, h => by simp [dat] at h
  | .ref _, h => by simp [dat] at h
  | .scr _, h => by simp [dat] at h
theorem dats_pl : ∀ p : List PV, dats p = true → PV.pls p = true
  | [], _ => rfl
  | x :: xs, h => by
    simp only [dats, Bool.and_eq_true] at h
    simp [PV.pls, dat_pl x h.1, dats_pl xs h.2]
end
theorem bls_rep : ∀ n : Nat, blsP (List.replicate n (.bl true)) = some (List.replicate n true)
  | 0 => rfl
  | n + 1 => by rw [List.replicate_succ, List.replicate_succ]; simp [blsP, bls_rep n]
theorem all_rep (n : Nat) : (List.replicate n true).all id = true := by simp
theorem c_same : ∀ (n : Nat) (p : PV), dat p = true → p.dp ≤ n → ∀ {k : Nat}, n + 2 ≤ k → ∀ {h : PH} {Q : QV}, Q (.bl true) h → (wC k)._law_same [p, p] h Q := by
  intro n
  induction n with
  | zero =>
    intro p hp hn k hk h Q q
    obtain ⟨k, rfl⟩ : ∃ j, k = j + 1 := ⟨k - 1, by omega⟩
    show zFn _ _ (b__law_same (wC k)) _ h Q
    unfold b__law_same
    cases p with
    | int i =>
      dsimp! []
      rw [zSeq_x]; dsimp! []
      rw [zSeq_x]; dsimp! []
      exact c_is_int (by omega) ⟨_, G.Sub.refl _, q⟩
    | str x =>
      dsimp! []
      rw [zSeq_x]; dsimp! []
      rw [zSeq_x]; dsimp! []
      exact ⟨_, G.Sub.refl _, q⟩
    | tup xs => simp [PV.dp] at hn
    | _ => simp [dat] at hp
  | succ n ih =>
    intro p hp hn k hk h Q q
    cases p with
    | tup xs =>
      obtain ⟨k, rfl⟩ : ∃ j, k = j + 1 := ⟨k - 1, by omega⟩
      show zFn _ _ (b__law_same (wC k)) _ h Q
      unfold b__law_same
      simp only [dat, Bool.and_eq_true, decide_eq_true_eq] at hp
      simp only [PV.dp] at hn
      dsimp! []
      rw [zSeq_x]; dsimp! []
      rw [zSeq_x]; dsimp! []
      refine ⟨by omega, by omega, ?_⟩
      refine lcW_R (by rw [sizeLine_eq]; omega) (fun i acc h' => h = h' ∧ acc = List.replicate i (.bl true)) ⟨rfl, rfl⟩ (fun i acc h' e => by rw [e.2]; simp) (fun i acc h' hi ⟨e1, e2⟩ => ?_) fun acc h' ⟨e1, e2⟩ => ?_
      · subst e1 e2
        have hi' : i < xs.length := by omega
        dsimp! [Int.zero_add, atN, List.getElem?_eq_getElem hi']
        refine ih xs[i] (dats_mem hp.2 (List.getElem_mem hi')) (dps_mem (by omega) (List.getElem_mem hi')) (by omega) ⟨h, G.Sub.refl _, rfl, ?_⟩
        exact List.replicate_succ'.symm
      · subst e1 e2
        intro D nD
        dsimp! [bls_rep, all_rep]
        exact ⟨h, (fun b o e => by rw [up_ne (by rintro rfl; rw [nD] at e; cases e)]; exact e), q⟩
    | _ => exact ih _ hp (by simp [PV.dp]) (by omega) q

theorem back_self {h : PH} {D : Addr} {o : PO} (n : h D = none) : G.Sub h (up h D o) := fun b v e => by
  rw [up_ne (by rintro rfl; rw [n] at e; cases e)]; exact e
/-- many whole numbers from -most to most -/
theorem c_offsets {k : Nat} (hk : 2 ≤ k) {a s : Addr} {ns : List Int} {many : Nat} {most : Int} {h : PH} {Q : QV} (d : DS a ns s h) (hm : many ≤ 1000) (h0 : 0 ≤ most) (h1 : most < 1000)
    (q : ∀ (os : List Int) h', os.length = many → (∀ o ∈ os, -most ≤ o ∧ o ≤ most) → DS a ns s h' → G.Fr [s] h h' → Q (.tup (os.map .int)) h') : (wC k)._law_offsets [.ref s, .int many, .int most] h Q := by
  obtain ⟨k, rfl⟩ : ∃ j, k = j + 1 := ⟨k - 1, by omega⟩
  show zFn _ _ (b__law_offsets (wC k)) _ h Q
  unfold b__law_offsets
  dsimp! []
  refine ⟨by omega, by omega, ?_⟩
  refine lcW_R (by rw [sizeLine_eq]; omega) (fun i acc h' => ∃ os : List Int, acc = os.map .int ∧ os.length = i ∧ (∀ o ∈ os, -most ≤ o ∧ o ≤ most) ∧ DS a ns s h' ∧ G.Fr [s] h h') ⟨[], rfl, rfl, by simp, d, G.Fr.refl _ _⟩ (fun i acc h' ⟨os, e, l, _⟩ => by rw [e, List.length_map, l]; exact Nat.le_refl _) ?_ ?_
  · rintro i _ h1 hi ⟨os, rfl, l, b, d1, f1⟩
    dsimp! []
    refine ⟨mulR ⟨by decide, by decide⟩, ?_⟩
    refine c_draw (by omega) d1 (by omega) (by omega) fun v h2 v0 v1 d2 f2 => ?_
    dsimp! []
    refine ⟨h2, G.Sub.refl _, os ++ [v - most], by simp, by simp [l], fun o ho => ?_, d2, f1.trans f2⟩
    rcases List.mem_append.mp ho with ho | ho
    · exact b o ho
    · simp at ho; omega
  · rintro _ h1 ⟨os, rfl, l, b, d1, f1⟩ D nD
    exact ⟨h1, back_self nD, q os h1 (by omega) b d1 f1⟩
def oi : Option Int → PV
  | none => .tup []
  | some i => .int i
/-- a row of a given: its name, its rim, its bounds -/
def givP (x : List Nat) (rim : Int) (lo hi : Option Int) : PV := .tup [.str x, .int rim, oi lo, oi hi]
theorem c_given_row {k : Nat} (hk : 3 ≤ k) {a s : Addr} {ns : List Int} {x : List Nat} {h : PH} {Q : QV} (d : DS a ns s h)
    (q : ∀ (rim : Int) (lo hi : Option Int) h', -4 ≤ rim → rim ≤ 4 → (∀ l, lo = some l → rim - 4 < l ∧ l ≤ rim) → (∀ u, hi = some u → rim ≤ u ∧ u < rim + 4) → DS a ns s h' → G.Fr [s] h h' → Q (givP x rim lo hi) h') : (wC k)._law_given_row [.ref s, .str x] h Q := by
  obtain ⟨k, rfl⟩ : ∃ j, k = j + 1 := ⟨k - 1, by omega⟩
  show zFn _ _ (b__law_given_row (wC k)) _ h Q
  unfold b__law_given_row
  dsimp! []
  refine c_rim (by omega) d fun rim h1 d1 f1 r0 r1 => ?_
  refine ⟨by decide, ?_⟩
  refine c_draw (by omega) d1 (by omega) (by omega) fun v h2 v0 v1 d2 f2 => ?_
  dsimp! []
  refine ⟨by decide, fun p np => ?_⟩
  refine c_draw (by omega) (d2.new np) (by omega) (by omega) fun w h3 w0 w1 d3 f3 => ?_
  have e1 : h3 p = some (.lst [.tup [], .int (rim - v)]) := (f3 p (by simpa using d2.ne np)).trans up_same
  have k3 : Kp [s] h h3 := (f1.kp.trans f2.kp).trans ((kp_new np).trans f3.kp)
  obtain ⟨lo, elo, hlo⟩ : ∃ lo : Option Int, atI [PV.tup [], .int (rim - v)] w = some (oi lo) ∧ ∀ l, lo = some l → rim - 4 < l ∧ l ≤ rim := by
    rcases (show w = 0 ∨ w = 1 by omega) with rfl | rfl
    · exact ⟨none, by rw [at0]; rfl, fun l e => nomatch e⟩
    · exact ⟨some (rim - v), by rw [at1]; rfl, fun l e => by cases e; omega⟩
  dsimp! [e1, elo]
  refine ⟨by decide, ?_⟩
  refine c_draw (by omega) d3 (by omega) (by omega) fun v' h4 v0 v1 d4 f4 => ?_
  dsimp! []
  refine ⟨by decide, fun p' np' => ?_⟩
  refine c_draw (by omega) (d4.new np') (by omega) (by omega) fun w' h5 w0 w1 d5 f5 => ?_
  have e2 : h5 p' = some (.lst [.tup [], .int (rim + v')]) := (f5 p' (by simpa using d4.ne np')).trans up_same
  have k5 : Kp [s] h h5 := (k3.trans f4.kp).trans ((kp_new np').trans f5.kp)
  obtain ⟨hi, ehi, hhi⟩ : ∃ hi : Option Int, atI [PV.tup [], .int (rim + v')] w' = some (oi hi) ∧ ∀ l, hi = some l → rim ≤ l ∧ l < rim + 4 := by
    rcases (show w' = 0 ∨ w' = 1 by omega) with rfl | rfl
    · exact ⟨none, by rw [at0]; rfl, fun l e => nomatch e⟩
    · exact ⟨some (rim + v'), by rw [at1]; rfl, fun l e => by cases e; omega⟩
  dsimp! [e2, ehi]
  exact ⟨by decide, d.out d5 k5 fun h6 x' y => q rim lo hi h6 r0 r1 hlo hhi x' y⟩
/-! ### the words -/
def abc : List Nat := [97, 98, 99, 100, 101, 102, 103, 104, 105, 106, 107, 108, 109, 110, 111, 112, 113, 114, 115, 116, 117, 118, 119, 120, 121, 122]
def wordAt (side : Bool) (sh : List Nat) (start step : Int) (i : Nat) : List Nat := if side then sh ++ [97 + ((start + i * step) % 26).toNat] else (97 + ((start + i * step) % 26).toNat) :: sh
theorem abc_at {z : Int} (h0 : 0 ≤ z) (h1 : z < 26) : atI abc z = some (97 + z.toNat) := by
  obtain ⟨j, rfl⟩ : ∃ j : Nat, z = j := ⟨z.toNat, by omega⟩
  have hj : j < 26 := by omega
  rw [atN]
  have : ∀ j : Fin 26, abc[j.val]? = some (97 + j.val) := by decide
  exact this ⟨j, hj⟩
theorem words_nd {side : Bool} {sh : List Nat} {start t : Int} (h0 : 0 ≤ t) (h1 : t < 6) {n : Nat} (hn : n ≤ 26) : ((List.range n).map (wordAt side sh start (1 + 2 * t))).Nodup := by
  rw [List.nodup_iff_pairwise_ne, List.pairwise_map]
  refine List.Pairwise.imp_of_mem (fun {i j} hi hj hlt e => ?_) List.pairwise_lt_range
  have hi' := List.mem_range.mp hi
  have hj' := List.mem_range.mp hj
  have hlt' : i < j := hlt
  have e2 : (start + i * (1 + 2 * t)) % 26 = (start + j * (1 + 2 * t)) % 26 := by
    have a1 := Int.emod_nonneg (start + i * (1 + 2 * t)) (b := 26) (by omega)
    have a2 := Int.emod_nonneg (start + j * (1 + 2 * t)) (b := 26) (by omega)
    unfold wordAt at e
    cases side with
    | true => simp at e; omega
    | false => simp at e; omega
  rcases (show t = 0 ∨ t = 1 ∨ t = 2 ∨ t = 3 ∨ t = 4 ∨ t = 5 by omega) with rfl | rfl | rfl | rfl | rfl | rfl <;> omega
def okS (x : List Nat) : Bool := decide (x.length ≤ 1000) && x.all fun c => decide (c < 1114112)
theorem word_ok {side : Bool} {sh : List Nat} {start step : Int} {i : Nat} (hs : sh ∈ [([] : List Nat), [113], [113, 120], [113, 120, 122]]) : okS (wordAt side sh start step i) = true := by
  have b : ((start + i * step) % 26).toNat < 26 := by omega
  have hc : (((start + i * step) % 26).toNat + 97) < 1114112 := by omega
  simp only [List.mem_cons, List.not_mem_nil, or_false] at hs
  unfold okS wordAt
  rcases hs with rfl | rfl | rfl | rfl <;> cases side <;> simp <;> omega
theorem c_words {k : Nat} (hk : 2 ≤ k) {a s : Addr} {ns : List Int} {many : Nat} {h : PH} {Q : QV} (d : DS a ns s h) (hm : many ≤ 26)
    (q : ∀ (ws : List (List Nat)) p h', ws.length = many → ws.Nodup → (∀ x ∈ ws, okS x = true) → DS a ns s h' → G.Fr [s] h h' → h' p = none → Q (.ref p) (up h' p (.lst (ws.map .str)))) : (wC k)._law_words [.ref s, .int many] h Q := by
  obtain ⟨k, rfl⟩ : ∃ j, k = j + 1 := ⟨k - 1, by omega⟩
  show zFn _ _ (b__law_words (wC k)) _ h Q
  unfold b__law_words
  dsimp! []
  refine c_draw (by omega) d (by omega) (by omega) fun start h1 s0 s1 d1 f1 => ?_
  refine c_draw (by omega) d1 (by omega) (by omega) fun t h2 t0 t1 d2 f2 => ?_
  dsimp! []
  refine ⟨mulR ⟨by decide, by decide⟩, ?_⟩
  refine c_draw (by omega) d2 (by omega) (by omega) fun c h3 c0 c1 d3 f3 => ?_
  obtain ⟨sh, hsh, esh⟩ : ∃ sh : List Nat, sh ∈ [([] : List Nat), [113], [113, 120], [113, 120, 122]] ∧ cut [113, 120, 122] none (some c) = sh := by
    rcases (show c = 0 ∨ c = 1 ∨ c = 2 ∨ c = 3 by omega) with rfl | rfl | rfl | rfl
    · exact ⟨[], by simp, by decide⟩
    · exact ⟨[113], by simp, by decide⟩
    · exact ⟨[113, 120], by simp, by decide⟩
    · exact ⟨[113, 120, 122], by simp, by decide⟩
  have shl : sh.length ≤ 3 := by
    simp only [List.mem_cons, List.not_mem_nil, or_false] at hsh
    rcases hsh with rfl | rfl | rfl | rfl <;> simp
  dsimp! [esh]
  refine ⟨by decide, ?_⟩
  rw [zSeq_x]
  dsimp! []
  refine c_draw (by omega) d3 (by omega) (by omega) fun sd h4 sd0 sd1 d4 f4 => ?_
  have f : G.Fr [s] h h4 := ((f1.trans f2).trans f3).trans f4
  have fin : ∀ (side : Bool) (acc : List PV), acc = (((List.range many).map fun i : Nat => PV.int ((0 : Int) + i)).filter fun _ => true).map (fun p => match p with | .int i => PV.str (wordAt side sh start (1 + 2 * t) i.toNat) | _ => .non) → ∀ D, h4 D = none → ∃ h5, G.Sub h5 (up h4 D (.lst acc)) ∧ Q (.ref D) h5 := fun side acc e D nD => by
    refine ⟨_, G.Sub.refl _, ?_⟩
    have e2 : acc = ((List.range many).map (wordAt side sh start (1 + 2 * t))).map .str := by
      rw [e, List.filter_eq_self.mpr (by simp), List.map_map, List.map_map]
      refine List.map_congr_left fun i _ => ?_
      simp
    rw [e2]
    exact q _ D h4 (by simp) (words_nd t0 t1 hm) (fun x hx => by
      obtain ⟨i, _, rfl⟩ := List.mem_map.mp hx
      exact word_ok hsh) d4 f nD
  have one : ∀ (i : Nat), (start + ((0 : Int) + i) * (1 + 2 * t)) % 26 = (start + i * (1 + 2 * t)) % 26 := fun i => by rw [Int.zero_add]
  by_cases hs0 : sd = 0
  · dsimp! [hs0]
    refine ⟨by omega, by omega, ?_⟩
    refine lcP_R (fun _ => true) (fun p => match p with | .int i => PV.str (wordAt true sh start (1 + 2 * t) i.toNat) | _ => .non) (by rw [sizeLine_eq]; omega) (fun i hi R acc r => ?_) ?_
    · rw [if_pos rfl] at r
      have b0 := Int.emod_nonneg (start + ((0 : Int) + i) * (1 + 2 * t)) (b := 26) (by omega)
      have b1 := Int.emod_lt_of_pos (start + ((0 : Int) + i) * (1 + 2 * t)) (b := 26) (by omega)
      dsimp! []
      refine ⟨mulR ⟨by omega, by omega⟩, by decide, _, by decide, abc_at b0 b1, by rw [sizeLine_eq]; simp; omega, ?_⟩
      have e : (sh ++ [97 + ((start + ((0 : Int) + i) * (1 + 2 * t)) % 26).toNat]) = wordAt true sh start (1 + 2 * t) ((0 : Int) + i).toNat := by
        unfold wordAt; rw [if_pos rfl]; simp
      rw [e]; exact r
    · exact fin true _ (by simp)
  · dsimp! [hs0]
    refine ⟨by omega, by omega, ?_⟩
    refine lcP_R (fun _ => true) (fun p => match p with | .int i => PV.str (wordAt false sh start (1 + 2 * t) i.toNat) | _ => .non) (by rw [sizeLine_eq]; omega) (fun i hi R acc r => ?_) ?_
    · rw [if_pos rfl] at r
      have b0 := Int.emod_nonneg (start + ((0 : Int) + i) * (1 + 2 * t)) (b := 26) (by omega)
      have b1 := Int.emod_lt_of_pos (start + ((0 : Int) + i) * (1 + 2 * t)) (b := 26) (by omega)
      dsimp! []
      refine ⟨mulR ⟨by omega, by omega⟩, by decide, _, by decide, abc_at b0 b1, by rw [sizeLine_eq]; omega, ?_⟩
      have e : ((97 + ((start + ((0 : Int) + i) * (1 + 2 * t)) % 26).toNat) :: sh) = wordAt false sh start (1 + 2 * t) ((0 : Int) + i).toNat := by
        unfold wordAt; rw [if_neg Bool.false_ne_true]; simp
      rw [e]; exact r
    · exact fin false _ (by simp)

/-! ### expressions -/
inductive Op2 | plus | minus | least | greatest
  deriving DecidableEq
inductive Sg | lt | le | gt | ge | eq | ne
  deriving DecidableEq
inductive Ex
  | num (n : Int) | ctr (c : Int) | cell (x : List Nat) (os : List Int) | neg (a : Ex) | scl (n : Int) (a : Ex) | bin (o : Op2) (a b : Ex) | pick (s : Sg) (a b c d : Ex)
def Op2.cs : Op2 → List Nat
  | .plus => ([112, 108, 117, 115] : List Nat) | .minus => ([109, 105, 110, 117, 115] : List Nat) | .least => ([108, 101, 97, 115, 116] : List Nat) | .greatest => ([103, 114, 101, 97, 116, 101, 115, 116] : List Nat)
def Sg.cs : Sg → List Nat
  | .lt => ([60] : List Nat) | .le => ([60, 61] : List Nat) | .gt => ([62] : List Nat) | .ge => ([62, 61] : List Nat) | .eq => ([61, 61] : List Nat) | .ne => ([33, 61] : List Nat)
def Ex.P : Ex → PV
  | .num n => .tup [(PV.str [110, 117, 109, 98, 101, 114]), .int n]
  | .ctr n => .tup [(PV.str [99, 111, 117, 110, 116, 101, 114]), .int n]
  | .cell x os => .tup [(PV.str [99, 101, 108, 108]), .str x, .tup (os.map .int)]
  | .neg a => .tup [(PV.str [110, 101, 103, 97, 116, 101]), a.P]
  | .scl n a => .tup [(PV.str [115, 99, 97, 108, 101]), .int n, a.P]
  | .bin o a b => .tup [.str o.cs, a.P, b.P]
  | .pick s a b c d => .tup [(PV.str [112, 105, 99, 107]), .str s.cs, a.P, b.P, c.P, d.P]
def Ex.dep : Ex → Nat
  | .num _ => 0
  | .ctr _ => 0
  | .cell _ _ => 0
  | .neg a => a.dep + 1
  | .scl _ a => a.dep + 1
  | .bin _ a b => max a.dep b.dep + 1
  | .pick _ a b c d => max (max a.dep b.dep) (max c.dep d.dep) + 1
/-- the references, each with its offsets, keep F; the numbers lie within a word -/
def Ex.Al (F : List Nat → List Int → Prop) : Ex → Prop
  | .num n => -1000000 < n ∧ n < 1000000
  | .ctr n => -1000000 < n ∧ n < 1000000
  | .cell x os => F x os
  | .neg a => a.Al F
  | .scl n a => (-1000000 < n ∧ n < 1000000) ∧ a.Al F
  | .bin _ a b => a.Al F ∧ b.Al F
  | .pick _ a b c d => a.Al F ∧ b.Al F ∧ c.Al F ∧ d.Al F
theorem Ex.Al.mono {F G : List Nat → List Int → Prop} (i : ∀ x os, F x os → G x os) : ∀ {e : Ex}, e.Al F → e.Al G
  | .num _, h => h
  | .ctr _, h => h
  | .cell _ _, h => i _ _ h
  | .neg a, h => Ex.Al.mono (e := a) i h
  | .scl _ a, h => ⟨h.1, Ex.Al.mono (e := a) i h.2⟩
  | .bin _ a b, h => ⟨Ex.Al.mono (e := a) i h.1, Ex.Al.mono (e := b) i h.2⟩
  | .pick _ a b c d, h => ⟨Ex.Al.mono (e := a) i h.1, Ex.Al.mono (e := b) i h.2.1, Ex.Al.mono (e := c) i h.2.2.1, Ex.Al.mono (e := d) i h.2.2.2⟩
/-- a reference that is well formed -/
def refOk (x : List Nat) (os : List Int) : Prop := okS x = true ∧ os.length ≤ 1000
abbrev Ex.wf (e : Ex) : Prop := e.Al refOk
theorem dats_ints : ∀ os : List Int, dats (os.map .int) = true
  | [] => rfl
  | o :: os => by simp [dats, dat, dats_ints os]
theorem okS_dat {x : List Nat} (h : okS x = true) : dat (.str x) = true := by
  unfold okS at h
  simp only [Bool.and_eq_true] at h
  simpa [dat] using h.2
theorem op_dat (o : Op2) : dat (.str o.cs) = true := by cases o <;> decide
theorem sg_dat (o : Sg) : dat (.str o.cs) = true := by cases o <;> decide
theorem Ex.dat : ∀ {e : Ex}, e.wf → dat e.P = true
  | .num _, h => by simp [Ex.P, K74.dat, K74.dats]
  | .ctr _, h => by simp [Ex.P, K74.dat, K74.dats]
  | .cell x os, h => by
    have h1 := okS_dat h.1
    have h2 : os.length ≤ 1000000 := by have := h.2; omega
    simp only [Ex.P, K74.dat, K74.dats, List.length_cons, List.length_nil, List.length_map, dats_ints, Bool.and_true, Bool.true_and, Bool.and_eq_true, decide_eq_true_eq] at h1 ⊢
    exact ⟨by decide, by decide, h1, h2⟩
  | .neg a, h => by
    have := Ex.dat (e := a) h
    simp [Ex.P, K74.dat, K74.dats, this]
  | .scl _ a, h => by
    have := Ex.dat (e := a) h.2
    simp [Ex.P, K74.dat, K74.dats, this]
  | .bin o a b, h => by
    have h1 := Ex.dat (e := a) h.1
    have h2 := Ex.dat (e := b) h.2
    have h3 := op_dat o
    simp only [Ex.P, K74.dats, h1, h2, h3, K74.dat, List.length_cons, List.length_nil, Bool.and_true] at h3 ⊢
    simp [h3]
  | .pick s a b c d, h => by
    have h1 := Ex.dat (e := a) h.1
    have h2 := Ex.dat (e := b) h.2.1
    have h4 := Ex.dat (e := c) h.2.2.1
    have h5 := Ex.dat (e := d) h.2.2.2
    have h3 := sg_dat s
    simp only [Ex.P, K74.dats, h1, h2, h4, h5, h3, K74.dat, List.length_cons, List.length_nil, Bool.and_true] at h3 ⊢
    simp [h3]
theorem dps_ints : ∀ os : List Int, PV.dps (os.map .int) = 0
  | [] => rfl
  | o :: os => by simp [PV.dps, PV.dp, dps_ints os]
theorem Ex.dp : ∀ e : Ex, e.P.dp ≤ e.dep + 2
  | .num _ => by simp [Ex.P, PV.dp, PV.dps]
  | .ctr _ => by simp [Ex.P, PV.dp, PV.dps]
  | .cell x os => by simp [Ex.P, PV.dp, PV.dps, dps_ints]
  | .neg a => by
    have := Ex.dp a
    simp only [Ex.P, PV.dp, PV.dps, Ex.dep]; omega
  | .scl _ a => by
    have := Ex.dp a
    simp only [Ex.P, PV.dp, PV.dps, Ex.dep]; omega
  | .bin o a b => by
    have := Ex.dp a
    have := Ex.dp b
    simp only [Ex.P, PV.dp, PV.dps, Ex.dep]; omega
  | .pick s a b c d => by
    have := Ex.dp a
    have := Ex.dp b
    have := Ex.dp c
    have := Ex.dp d
    simp only [Ex.P, PV.dp, PV.dps, Ex.dep]; omega

/-! ### the world of a table -/
structure Wd where
  over : List (List Nat)
  many : Nat
  rn : List (List Nat)
  gn : List (List Nat)
  most : Int
  row : Option (List Int)
  nums : List Nat → Int
  least : Int
  name : List Nat
/-- where it lies -/
structure Wa where
  w : Addr
  r : Addr
  g : Addr
  row : Addr
  nums : Addr
structure Wd.ok (W : Wd) : Prop where
  many : 1 ≤ W.many ∧ W.many ≤ 3
  rn : W.rn ≠ [] ∧ W.rn.length ≤ 20
  gn : W.gn.length ≤ 20
  rs : ∀ x ∈ W.rn, okS x = true
  gs : ∀ x ∈ W.gn, okS x = true
  most : 0 ≤ W.most ∧ W.most ≤ 10
/-- the offsets' slope along the row -/
def slo (row os : List Int) : Int := (List.zipWith (· * ·) row os).sum
/-- what a reference keeps -/
def Wd.Ref (W : Wd) (x : List Nat) (os : List Int) : Prop :=
  (x ∈ W.gn ∧ os.length = W.many ∧ ∀ o ∈ os, -2 ≤ o ∧ o ≤ 2) ∨ (x ∈ W.rn ∧ os.length = W.many ∧ (∀ o ∈ os, -W.most ≤ o ∧ o ≤ W.most) ∧ ∀ row, W.row = some row → slo row os + W.nums x - W.nums W.name ≤ W.least)
structure RowAt (W : Wd) (A : Wa) (kvs : List (PV × PV)) (h : PH) (row : List Int) : Prop where
  at_ : dget kvs (PV.str [114, 111, 119]) = some (.ref A.row)
  lst : h A.row = some (.lst (row.map .int))
  len : row.length = W.many
  nat : dget kvs (PV.str [110, 117, 109, 98, 101, 114, 115]) = some (.ref A.nums)
  dic : ∃ nk, h A.nums = some (.dic false none nk) ∧ ∀ x ∈ W.rn, dget nk (.str x) = some (.int (W.nums x))
  least : dget kvs (PV.str [108, 101, 97, 115, 116]) = some (.int W.least)
/-- the world stands in the heap, but for its room and name -/
structure WB (W : Wd) (A : Wa) (h : PH) (kvs : List (PV × PV)) : Prop where
  dic : h A.w = some (.dic false none kvs)
  len : kvs.length ≤ 20
  many : dget kvs (PV.str [109, 97, 110, 121]) = some (.int W.many)
  most : dget kvs (PV.str [109, 111, 115, 116]) = some (.int W.most)
  rule : dget kvs (PV.str [114, 117, 108, 101, 95, 110, 97, 109, 101, 115]) = some (.ref A.r)
  given : dget kvs (PV.str [103, 105, 118, 101, 110, 95, 110, 97, 109, 101, 115]) = some (.ref A.g)
  rl : h A.r = some (.lst (W.rn.map .str))
  gl : h A.g = some (.lst (W.gn.map .str))
  over : dget kvs (PV.str [111, 118, 101, 114]) = some (.tup (W.over.map .str))
  row : (W.row = none → dget kvs (PV.str [114, 111, 119]) = some .non) ∧ ∀ row, W.row = some row → RowAt W A kvs h row
structure WH (W : Wd) (A : Wa) (h : PH) (kvs : List (PV × PV)) : Prop extends WB W A h kvs where
  room : ∃ r, dget kvs (PV.str [114, 111, 111, 109]) = some (.int r)
  name : dget kvs (PV.str [110, 97, 109, 101]) = some (.str W.name)
  mem : W.name ∈ W.rn
/-- the parts lie apart -/
structure Wa.ok (A : Wa) (s a : Addr) : Prop where
  w : A.w ≠ s ∧ A.w ≠ a
  r : A.r ≠ s ∧ A.r ≠ A.w
  g : A.g ≠ s ∧ A.g ≠ A.w
  row : A.row ≠ s ∧ A.row ≠ A.w
  nums : A.nums ≠ s ∧ A.nums ≠ A.w
/-- other heaps that keep the parts -/
theorem WB.to {W : Wd} {A : Wa} {h h' : PH} {kvs : List (PV × PV)} (w : WB W A h kvs) (e0 : h' A.w = h A.w) (e1 : h' A.r = h A.r) (e2 : h' A.g = h A.g) (e3 : h' A.row = h A.row) (e4 : h' A.nums = h A.nums) : WB W A h' kvs :=
  ⟨e0.trans w.dic, w.len, w.many, w.most, w.rule, w.given, e1.trans w.rl, e2.trans w.gl, w.over, w.row.1, fun row h => by
    have r := w.row.2 row h
    obtain ⟨nk, n1, n2⟩ := r.dic
    exact ⟨r.at_, e3.trans r.lst, r.len, r.nat, ⟨nk, e4.trans n1, n2⟩, r.least⟩⟩
theorem WB.fr {W : Wd} {A : Wa} {s a : Addr} {h h' : PH} {kvs : List (PV × PV)} (o : A.ok s a) (w : WB W A h kvs) (f : G.Fr [s] h h') : WB W A h' kvs := by
  have e : ∀ b, b ≠ s → h' b = h b := fun b n => f b (by simpa using n)
  exact w.to (e _ o.w.1) (e _ o.r.1) (e _ o.g.1) (e _ o.row.1) (e _ o.nums.1)
theorem WH.fr {W : Wd} {A : Wa} {s a : Addr} {h h' : PH} {kvs : List (PV × PV)} (o : A.ok s a) (w : WH W A h kvs) (f : G.Fr [s] h h') : WH W A h' kvs := ⟨w.toWB.fr o f, w.room, w.name, w.mem⟩
/-- .. that keep all that is there -/
theorem WB.kp {W : Wd} {A : Wa} {h h' : PH} {kvs : List (PV × PV)} (w : WB W A h kvs) (k : ∀ b o, h b = some o → h' b = some o) : WB W A h' kvs :=
  ⟨k _ _ w.dic, w.len, w.many, w.most, w.rule, w.given, k _ _ w.rl, k _ _ w.gl, w.over, w.row.1, fun row h => by
    have r := w.row.2 row h
    obtain ⟨nk, n1, n2⟩ := r.dic
    exact ⟨r.at_, k _ _ r.lst, r.len, r.nat, ⟨nk, k _ _ n1, n2⟩, r.least⟩⟩
theorem keep_new {h : PH} {p : Addr} {x : PO} (n : h p = none) : ∀ b o, h b = some o → up h p x b = some o := fun b o e => by
  rw [up_ne (by rintro rfl; rw [n] at e; cases e)]; exact e
theorem WB.put {W : Wd} {A : Wa} {p : Addr} {h : PH} {kvs : List (PV × PV)} {x : PO} (w : WB W A h kvs) (n : h p = none) : WB W A (up h p x) kvs := w.kp (keep_new n)
theorem WH.put {W : Wd} {A : Wa} {s a p : Addr} {h : PH} {kvs : List (PV × PV)} {x : PO} (o : A.ok s a) (w : WH W A h kvs) (n : h p = none) : WH W A (up h p x) kvs := ⟨w.toWB.put n, w.room, w.name, w.mem⟩
theorem wb_back {W : Wd} {A : Wa} {s a : Addr} {h h' : PH} {kvs kvs' : List (PV × PV)} (o : A.ok s a) (w : WB W A h kvs) (w' : WB W A h' kvs') : WB W A (G.back [s, A.w] h h') kvs' := by
  have e : ∀ {b : Addr}, b ≠ s → b ≠ A.w → G.back [s, A.w] h h' b = h b := fun {b} n1 n2 => back_fr (M := [s, A.w]) b (by simp [n1, n2])
  exact ⟨(back_in (by simp)).trans w'.dic, w'.len, w'.many, w'.most, w'.rule, w'.given, (e o.r.1 o.r.2).trans w.rl, (e o.g.1 o.g.2).trans w.gl, w'.over, w'.row.1, fun row h => by
    have r := w.row.2 row h
    have r' := w'.row.2 row h
    obtain ⟨nk, n1, n2⟩ := r.dic
    exact ⟨r'.at_, (e o.row.1 o.row.2).trans r.lst, r.len, r'.nat, ⟨nk, (e o.nums.1 o.nums.2).trans n1, n2⟩, r'.least⟩⟩
theorem wh_back {W : Wd} {A : Wa} {s a : Addr} {h h' : PH} {kvs kvs' : List (PV × PV)} (o : A.ok s a) (w : WH W A h kvs) (w' : WH W A h' kvs') : WH W A (G.back [s, A.w] h h') kvs' := ⟨wb_back o w.toWB w'.toWB, w'.room, w'.name, w'.mem⟩
theorem ds_back2 {a s w : Addr} {ns : List Int} {h h' : PH} (d : DS a ns s h) (d' : DS a ns s h') (n : w ≠ a) : DS a ns s (G.back [s, w] h h') := d.back d' (by simp) (by have := d.1; simp [this, n.symm])
/-- another entry, of none of these names -/
theorem WB.puts {W : Wd} {A : Wa} {s a : Addr} {h : PH} {kvs : List (PV × PV)} {k v : PV} (o : A.ok s a) (w : WB W A h kvs) (hl : (dput kvs k v).length ≤ 20) (hk : k ∈ [(PV.str [114, 111, 111, 109]), (PV.str [110, 97, 109, 101]), (PV.str [112, 111, 111, 108])]) : WB W A (up h A.w (.dic false none (dput kvs k v))) (dput kvs k v) := by
  have g : ∀ {k' : PV} {v' : PV}, k' ∈ [(PV.str [111, 118, 101, 114]), (PV.str [109, 97, 110, 121]), (PV.str [109, 111, 115, 116]), (PV.str [114, 117, 108, 101, 95, 110, 97, 109, 101, 115]), (PV.str [103, 105, 118, 101, 110, 95, 110, 97, 109, 101, 115]), (PV.str [114, 111, 119]), (PV.str [110, 117, 109, 98, 101, 114, 115]), (PV.str [108, 101, 97, 115, 116])] → dget kvs k' = some v' → dget (dput kvs k v) k' = some v' := fun {k' v'} m e => by
    rw [dget_dput, if_neg (by rintro rfl; simp only [List.mem_cons, List.not_mem_nil, or_false] at hk; rcases hk with rfl | rfl | rfl <;> revert m <;> decide)]; exact e
  refine ⟨up_same, hl, g (by simp) w.many, g (by simp) w.most, g (by simp) w.rule, g (by simp) w.given, by rw [up_ne o.r.2]; exact w.rl, by rw [up_ne o.g.2]; exact w.gl, g (by simp) w.over, fun e => g (by simp) (w.row.1 e), fun row h => ?_⟩
  have r := w.row.2 row h
  obtain ⟨nk, n1, n2⟩ := r.dic
  exact ⟨g (by simp) r.at_, by rw [up_ne o.row.2]; exact r.lst, r.len, g (by simp) r.nat, ⟨nk, by rw [up_ne o.nums.2]; exact n1, n2⟩, g (by simp) r.least⟩
theorem WB.nm {W : Wd} {A : Wa} {h : PH} {kvs : List (PV × PV)} (w : WB W A h kvs) (x : List Nat) : WB { W with name := x } A h kvs :=
  ⟨w.dic, w.len, w.many, w.most, w.rule, w.given, w.rl, w.gl, w.over, w.row.1, fun row h => by
    have r := w.row.2 row h
    exact ⟨r.at_, r.lst, r.len, r.nat, r.dic, r.least⟩⟩
theorem WB.nm' {W : Wd} {A : Wa} {h : PH} {kvs : List (PV × PV)} {x : List Nat} (w : WB { W with name := x } A h kvs) : WB W A h kvs :=
  ⟨w.dic, w.len, w.many, w.most, w.rule, w.given, w.rl, w.gl, w.over, w.row.1, fun row h => by
    have r := w.row.2 row h
    exact ⟨r.at_, r.lst, r.len, r.nat, r.dic, r.least⟩⟩
theorem Wd.ok.nm {W : Wd} (o : W.ok) (x : List Nat) : ({ W with name := x } : Wd).ok := ⟨o.many, o.rn, o.gn, o.rs, o.gs, o.most⟩
/-- something written that was not there at the start -/
theorem WB.put0 {W : Wd} {A : Wa} {p : Addr} {h0 h : PH} {kvs0 kvs : List (PV × PV)} {x : PO} (w0 : WB W A h0 kvs0) (w : WB W A h kvs) (n : h0 p = none) : WB W A (up h p x) kvs := by
  have ne : ∀ {b : Addr} {o : PO}, h0 b = some o → b ≠ p := fun {b o} e z => by rw [z, n] at e; cases e
  exact ⟨by rw [up_ne (ne w0.dic)]; exact w.dic, w.len, w.many, w.most, w.rule, w.given, by rw [up_ne (ne w0.rl)]; exact w.rl, by rw [up_ne (ne w0.gl)]; exact w.gl, w.over, w.row.1, fun row h => by
    have r0 := w0.row.2 row h
    have r := w.row.2 row h
    obtain ⟨nk, n1, n2⟩ := r.dic
    obtain ⟨nk0, n3, _⟩ := r0.dic
    exact ⟨r.at_, by rw [up_ne (ne r0.lst)]; exact r.lst, r.len, r.nat, ⟨nk, by rw [up_ne (ne n3)]; exact n1, n2⟩, r.least⟩⟩
/-- room and name are set -/
theorem WB.turn {W : Wd} {A : Wa} {s a : Addr} {h : PH} {kvs : List (PV × PV)} {r : Int} {nm : List Nat} (o : A.ok s a) (w : WB W A h kvs) (l : kvs.length ≤ 15 ∨ ((∃ v, dget kvs (PV.str [114, 111, 111, 109]) = some v) ∧ ∃ v, dget kvs (PV.str [110, 97, 109, 101]) = some v)) (m : nm ∈ W.rn) :
    WH { W with name := nm } A (up h A.w (.dic false none (dput (dput kvs (PV.str [114, 111, 111, 109]) (.int r)) (PV.str [110, 97, 109, 101]) (.str nm)))) (dput (dput kvs (PV.str [114, 111, 111, 109]) (.int r)) (PV.str [110, 97, 109, 101]) (.str nm)) ∧ (dput kvs (PV.str [114, 111, 111, 109]) (.int r)).length < sizeLine := by
  have l1 : (dput kvs (PV.str [114, 111, 111, 109]) (.int r)).length ≤ 20 ∧ (dput (dput kvs (PV.str [114, 111, 111, 109]) (.int r)) (PV.str [110, 97, 109, 101]) (.str nm)).length ≤ 20 := by
    rcases l with l | ⟨⟨v, e⟩, v', e'⟩
    · have := len_dput kvs (PV.str [114, 111, 111, 109]) (.int r)
      have := len_dput (dput kvs (PV.str [114, 111, 111, 109]) (.int r)) (PV.str [110, 97, 109, 101]) (.str nm)
      omega
    · have h1 := len_dput_old (v := .int r) e
      have h2 := len_dput_old (v := .str nm) (show dget (dput kvs (PV.str [114, 111, 111, 109]) (.int r)) (PV.str [110, 97, 109, 101]) = some v' by rw [dget_dput, if_neg (by decide)]; exact e')
      have := w.len
      omega
  have w1 := w.puts o (k := (PV.str [114, 111, 111, 109])) (v := .int r) l1.1 (by simp)
  have w2 := w1.puts o (k := (PV.str [110, 97, 109, 101])) (v := .str nm) l1.2 (by simp)
  rw [up_up] at w2
  refine ⟨⟨w2.nm nm, ⟨r, ?_⟩, by rw [dget_dput, if_pos rfl], m⟩, by rw [sizeLine_eq]; omega⟩
  rw [dget_dput, if_neg (by decide), dget_dput, if_pos rfl]
/-- another room -/
theorem WH.roomed {W : Wd} {A : Wa} {s a : Addr} {h : PH} {kvs : List (PV × PV)} (o : A.ok s a) (w : WH W A h kvs) (z : Int) : WH W A (up h A.w (.dic false none (dput kvs (PV.str [114, 111, 111, 109]) (.int z)))) (dput kvs (PV.str [114, 111, 111, 109]) (.int z)) := by
  obtain ⟨r0, e0⟩ := w.room
  exact ⟨w.toWB.puts o (by rw [len_dput_old e0]; exact w.len) (by simp), ⟨z, by rw [dget_dput, if_pos rfl]⟩, by rw [dget_dput, if_neg (by decide)]; exact w.name, w.mem⟩
theorem slo_take {row os : List Int} (hl : row.length = os.length) : ((List.range os.length).map fun i => (row.getD i 0) * (os.getD i 0)).sum = slo row os := by
  unfold slo
  congr 1
  apply List.ext_getElem
  · simp [hl]
  · intro i h1 h2
    simp only [List.getElem_map, List.getElem_range, List.getElem_zipWith]
    simp only [List.length_map, List.length_range] at h1
    rw [List.getD_eq_getElem?_getD, List.getD_eq_getElem?_getD, List.getElem?_eq_getElem (by omega), List.getElem?_eq_getElem (by omega)]
    rfl
theorem ints_map : ∀ l : List Int, intsP (l.map .int) = some l
  | [] => rfl
  | x :: l => by simp [intsP, ints_map l]
theorem c_slope {k : Nat} (hk : 1 ≤ k) {W : Wd} {A : Wa} {h : PH} {Q : QV} {kvs : List (PV × PV)} {row os : List Int} {x y : List Nat} (w : WH W A h kvs) (hr : W.row = some row) (hx : x ∈ W.rn) (hy : y ∈ W.rn) (ho : os.length = W.many) (hm : W.many ≤ 3)
    (hb : ∀ o ∈ os, -(10 : Int) ≤ o ∧ o ≤ 10) (q : Q (.int (slo row os + W.nums y - W.nums x)) h) : (wC k)._law_slope [.ref A.w, .str x, .str y, .tup (os.map .int)] h Q := by
  obtain ⟨k, rfl⟩ : ∃ j, k = j + 1 := ⟨k - 1, by omega⟩
  show zFn _ _ (b__law_slope (wC k)) _ h Q
  unfold b__law_slope
  have r := w.row.2 row hr
  obtain ⟨nk, n1, n2⟩ := r.dic
  have hrl := r.len
  have ko : keyOk false (PV.str [114, 111, 119]) = true := rfl
  have ko2 : keyOk false (PV.str [110, 117, 109, 98, 101, 114, 115]) = true := rfl
  have ko3 : ∀ z, keyOk false (.str z) = true := fun _ => rfl
  dsimp! [List.length_map]
  refine ⟨by omega, by omega, ?_⟩
  refine lcP_R (fun _ => true) (fun p => match p with | .int i => PV.int (row.getD i.toNat 0 * os.getD i.toNat 0) | _ => .non) (by rw [sizeLine_eq]; omega) (fun i hi R acc h1 => ?_) ?_
  · rw [if_pos rfl] at h1
    have hi' : i < os.length := by omega
    dsimp! [w.dic, ko, r.at_, r.lst, Int.zero_add, atN, List.getElem?_map, List.getElem?_eq_getElem hi', List.getElem?_eq_getElem (show i < row.length by omega), Option.map_some]
    refine ⟨mulL ?_, ?_⟩
    · have := hb _ (List.getElem_mem hi'); omega
    · have e : row[i]'(by omega) * os[i] = row.getD i 0 * os.getD i 0 := by
        rw [List.getD_eq_getElem?_getD, List.getD_eq_getElem?_getD, List.getElem?_eq_getElem hi', List.getElem?_eq_getElem (show i < row.length by omega)]; rfl
      simp only [Int.zero_add, Int.toNat_natCast] at h1
      rw [e]; exact h1
  · intro D nD
    have e1 : (((List.range ((os.length : Nat) : Int).toNat).map fun i : Nat => PV.int ((0 : Int) + i)).filter fun _ => true).map (fun p => match p with | .int i => PV.int (row.getD i.toNat 0 * os.getD i.toNat 0) | _ => .non) = ((List.range os.length).map fun i => row.getD i 0 * os.getD i 0).map .int := by
      rw [List.filter_eq_self.mpr (by simp), List.map_map, List.map_map]
      simp
    have hDw : A.w ≠ D := by rintro rfl; rw [w.dic] at nD; cases nD
    have hDn : A.nums ≠ D := by rintro rfl; rw [n1] at nD; cases nD
    rw [e1]
    dsimp! [ints_map, up_ne hDw, up_ne hDn, w.dic, ko2, ko3, r.nat, n1, n2 x hx, n2 y hy]
    rw [slo_take (by omega)]
    exact ⟨h, back_self nD, q⟩

theorem empty_lst (l : List (List Nat)) : decide (l.map PV.str = ([] : List PV)) = l.isEmpty := by cases l <;> simp
theorem pls_strs {l : List (List Nat)} (h : ∀ x ∈ l, okS x = true) : PV.pls (l.map .str) = true ∧ PV.dps (l.map .str) = 0 := by
  induction l with
  | nil => exact ⟨rfl, rfl⟩
  | cons x l ih =>
    obtain ⟨i1, i2⟩ := ih fun y hy => h y (List.mem_cons_of_mem _ hy)
    have := dat_pl _ (okS_dat (h x List.mem_cons_self))
    exact ⟨by simp [PV.pls, this, i1], by simp [PV.dps, PV.dp, i2]⟩
/-- nothing but the room differs -/
def Rm (kvs kvs' : List (PV × PV)) : Prop := kvs'.length = kvs.length ∧ ∀ k, k ≠ (PV.str [114, 111, 111, 109]) → dget kvs' k = dget kvs k
theorem Rm.refl (kvs : List (PV × PV)) : Rm kvs kvs := ⟨rfl, fun _ _ => rfl⟩
theorem Rm.trans {a b c : List (PV × PV)} (x : Rm a b) (y : Rm b c) : Rm a c := ⟨y.1.trans x.1, fun k n => (y.2 k n).trans (x.2 k n)⟩
theorem Rm.room {kvs : List (PV × PV)} {v x : PV} (e : dget kvs (PV.str [114, 111, 111, 109]) = some x) : Rm kvs (dput kvs (PV.str [114, 111, 111, 109]) v) := ⟨len_dput_old e, fun k n => by rw [dget_dput, if_neg n]⟩
theorem c_leaf {k : Nat} (hk : 4 ≤ k) {W : Wd} (ok : W.ok) {A : Wa} {s a : Addr} {ns : List Int} {h : PH} {Q : QV} {kvs : List (PV × PV)} (d : DS a ns s h) (o : A.ok s a) (w : WH W A h kvs)
    (q : ∀ (e : Ex) h' kvs', e.dep = 0 → e.Al W.Ref → DS a ns s h' → WH W A h' kvs' → G.Fr [s, A.w] h h' → Rm kvs kvs' → Q e.P h') : (wC k)._law_leaf [.ref s, .ref A.w] h Q := by
  obtain ⟨k, rfl⟩ : ∃ j, k = j + 1 := ⟨k - 1, by omega⟩
  show zFn _ _ (b__law_leaf (wC k)) _ h Q
  unfold b__law_leaf
  have kz : ∀ z, keyOk false (.str z) = true := fun _ => rfl
  have up2 : ∀ {g g' : PH}, G.Fr [s] g g' → Kp [s, A.w] g g' := fun f b o' n e => (f b (by simp at n ⊢; exact n.1)).trans e
  have som : ∀ (e : Ex) (h1 : PH) (kvs1 : List (PV × PV)), e.dep = 0 → e.Al W.Ref → DS a ns s h1 → WH W A h1 kvs1 → Kp [s, A.w] h h1 → Rm kvs kvs1 → ∃ h2, G.Sub h2 h1 ∧ Q e.P h2 := fun e h1 kvs1 x1 x2 x3 x4 x5 x6 =>
    ⟨G.back [s, A.w] h h1, back_sub x5, q e _ kvs1 x1 x2 (ds_back2 d x3 o.w.2) (wh_back o w x4) back_fr x6⟩
  -- a number that is drawn
  have num : ∀ {m : Int} {h1 : PH} {kvs1 : List (PV × PV)}, 0 < m → m ≤ 100 → DS a ns s h1 → WH W A h1 kvs1 → Kp [s, A.w] h h1 → Rm kvs kvs1 → (wC k)._law_draw [.ref s, .int m] h1 fun p h2 => 2 ≤ sizeLine ∧ ∃ h3, G.Sub h3 h2 ∧ Q (.tup [(PV.str [110, 117, 109, 98, 101, 114]), p]) h3 := fun {m h1 kvs1} m0 m1 d1 w1 f1 r1 =>
    c_draw (by omega) d1 m0 (by omega) fun v h2 v0 v1 d2 f2 => ⟨by decide, som (.num v) h2 kvs1 rfl ⟨by omega, by omega⟩ d2 (w1.fr o f2) (f1.trans (up2 f2)) r1⟩
  dsimp! []
  refine c_draw (by omega) d (by omega) (by omega) fun pick h1 p0 p1 d1 f1 => ?_
  have w1 := w.fr o f1
  have F1 := up2 f1
  rw [zSeq_x]; dsimp! []
  by_cases e0 : pick = 0
  · dsimp! [e0]
    exact num (by omega) (by omega) d1 w1 F1 (Rm.refl _)
  dsimp! [e0]
  rw [zSeq_x]; dsimp! []
  by_cases e1 : pick = 1
  · dsimp! [e1, w1.dic, kz, w1.many]
    have hm := ok.many
    refine c_draw (by omega) d1 (by omega) (by omega) fun v h2 v0 v1 d2 f2 => ?_
    exact ⟨by decide, som (.ctr v) h2 kvs rfl ⟨by omega, by omega⟩ d2 (w1.fr o f2) (F1.trans (up2 f2)) (Rm.refl _)⟩
  dsimp! [e1]
  -- is there room
  obtain ⟨room, hroom⟩ := w1.room
  refine zSeq_key (fun ρ' h' => ρ' = [some (.ref s), some (.ref A.w), some (.int pick), none, none] ∧ (pick = 2 → W.gn ≠ []) ∧ DS a ns s h' ∧ WH W A h' kvs ∧ Kp [s, A.w] h h') ?_ fun X kx => ?_
  rotate_left
  · dsimp! [w1.dic, kz, hroom]
    by_cases er : room = 0
    · dsimp! [er]
      exact num (by omega) (by omega) d1 w1 F1 (Rm.refl _)
    · simp only [er, decide_false, Bool.false_eq_true, if_false]
      by_cases e2 : pick = 2
      · simp only [e2, decide_true, if_true]
        dsimp! [w1.dic, kz, w1.given]
        refine ⟨by decide, fun p np => ?_⟩
        have gp : A.g ≠ p := by rintro rfl; rw [w1.gl] at np; cases np
        obtain ⟨g1, g2⟩ := pls_strs ok.gs
        have d2 := d1.new np (o := .lst [])
        have w2 := w1.put o np (x := .lst [])
        have f2 : Kp [s, A.w] h (up h1 p (.lst [])) := F1.new np
        dsimp! [up_ne gp, w1.gl, g1, g2, empty_lst]
        refine ⟨rfl, by decide, by decide, ?_⟩
        by_cases hge : W.gn = []
        · rw [hge, show ([] : List (List Nat)).isEmpty = true from rfl]
          dsimp! []
          exact num (by omega) (by omega) d2 w2 f2 (Rm.refl _)
        · rw [show W.gn.isEmpty = false by cases hq : W.gn <;> simp_all]
          dsimp! []
          exact kx _ _ ⟨by rw [e2], fun _ => hge, d2, w2, f2⟩
      · simp only [e2, decide_false, Bool.false_eq_true, if_false]
        exact kx _ _ ⟨rfl, fun z => absurd z e2, d1, w1, F1⟩
  rintro _ h2 ⟨rfl, hg, d2, w2, f2⟩
  obtain ⟨room2, hroom2⟩ := w2.room
  dsimp! [w2.dic, kz, hroom2]
  refine ⟨by have := w2.len; rw [sizeLine_eq]; omega, ?_⟩
  have w3 := w2.roomed o (room2 - 1)
  have r3 : Rm kvs (dput kvs (PV.str [114, 111, 111, 109]) (.int (room2 - 1))) := Rm.room hroom2
  have d3 : DS a ns s (up h2 A.w (.dic false none (dput kvs (PV.str [114, 111, 111, 109]) (.int (room2 - 1))))) := d2.put o.w.2 o.w.1
  have f3 : Kp [s, A.w] h (up h2 A.w (.dic false none (dput kvs (PV.str [114, 111, 111, 109]) (.int (room2 - 1))))) := f2.put (by simp)
  generalize up h2 A.w (.dic false none (dput kvs (PV.str [114, 111, 111, 109]) (.int (room2 - 1)))) = h3 at w3 d3 f3 ⊢
  generalize dput kvs (PV.str [114, 111, 111, 109]) (.int (room2 - 1)) = kvs3 at w3 r3 ⊢
  rw [zSeq_x]; dsimp! []
  have hmany := ok.many
  by_cases e2 : pick = 2
  · dsimp! [e2, w3.dic, kz, w3.given]
    have hge := hg e2
    refine c_one_of (by omega) d3 w3.gl (by simpa using hge) (by have := ok.gn; rw [List.length_map]; omega) o.g.1 fun x h4 hx d4 f4 => ?_
    obtain ⟨x, hx', rfl⟩ := List.mem_map.mp hx
    have w4 := w3.fr o f4
    dsimp! [w4.dic, kz, w4.many]
    refine c_offsets (by omega) d4 (by omega) (by omega) (by omega) fun os h5 l5 b5 d5 f5 => ?_
    refine ⟨by decide, som (.cell x os) h5 kvs3 rfl (.inl ⟨hx', l5, fun z hz => ?_⟩) d5 (w4.fr o f5) ((f3.trans (up2 f4)).trans (up2 f5)) r3⟩
    have := b5 z hz; omega
  dsimp! [e2, w3.dic, kz, w3.rule]
  refine c_one_of (by omega) d3 w3.rl (by simpa using ok.rn.1) (by have := ok.rn; rw [List.length_map]; omega) o.r.1 fun x h4 hx d4 f4 => ?_
  obtain ⟨x, hx', rfl⟩ := List.mem_map.mp hx
  have w4 := w3.fr o f4
  have hmost := ok.most
  dsimp! [w4.dic, kz, w4.many, w4.most]
  refine c_offsets (by omega) d4 (by omega) (by omega) (by omega) fun os h5 l5 b5 d5 f5 => ?_
  have w5 := w4.fr o f5
  have k5 := (f3.trans (up2 f4)).trans (up2 f5)
  rw [zSeq_x]
  dsimp! [w5.dic, kz]
  cases hrow : W.row with
  | none =>
    have hn := w5.row.1 hrow
    dsimp! [hn, Bool.not_true]
    exact ⟨by decide, som (.cell x os) h5 kvs3 rfl (.inr ⟨hx', l5, b5, fun row e => nomatch hrow.symm.trans e⟩) d5 w5 k5 r3⟩
  | some row =>
    have r := w5.row.2 row hrow
    dsimp! [r.at_, w5.name, Bool.not_false]
    refine c_slope (by omega) w5 hrow w5.mem hx' l5 (by omega) (fun z hz => by have := b5 z hz; omega) ?_
    dsimp! [w5.dic, kz, r.least]
    by_cases hs : W.least < slo row os + W.nums x - W.nums W.name
    · dsimp! [hs]
      exact num (by omega) (by omega) d5 w5 k5 r3
    · dsimp! [hs]
      exact ⟨by decide, som (.cell x os) h5 kvs3 rfl (.inr ⟨hx', l5, b5, fun row' e => by
        have e' : row = row' := by rw [hrow] at e; exact Option.some.inj e
        subst e'; omega⟩) d5 w5 k5 r3⟩

/-- from a state to a later one, s and the world changed -/
structure Gone (W : Wd) (A : Wa) (a : Addr) (ns : List Int) (s : Addr) (h h' : PH) (kvs' : List (PV × PV)) : Prop where
  d : DS a ns s h'
  w : WH W A h' kvs'
  k : Kp [s, A.w] h h'
theorem Gone.out {W : Wd} {A : Wa} {a s : Addr} {ns : List Int} {h h' : PH} {kvs kvs' : List (PV × PV)} {v : PV} {Q : QV} (d : DS a ns s h) (o : A.ok s a) (w : WH W A h kvs) (g : Gone W A a ns s h h' kvs')
    (q : ∀ h2, DS a ns s h2 → WH W A h2 kvs' → G.Fr [s, A.w] h h2 → Q v h2) : ∃ h2, G.Sub h2 h' ∧ Q v h2 := ⟨G.back [s, A.w] h h', back_sub g.k, q _ (ds_back2 d g.d o.w.2) (wh_back o w g.w) back_fr⟩
theorem Gone.fr {W : Wd} {A : Wa} {a s : Addr} {ns : List Int} {h h1 h2 : PH} {kvs : List (PV × PV)} (g : Gone W A a ns s h h1 kvs) (o : A.ok s a) (d : DS a ns s h2) (f : G.Fr [s] h1 h2) : Gone W A a ns s h h2 kvs :=
  ⟨d, g.w.fr o f, g.k.trans fun b o' n e => (f b (by simp at n ⊢; exact n.1)).trans e⟩
theorem Gone.fr2 {W : Wd} {A : Wa} {a s : Addr} {ns : List Int} {h h1 h2 : PH} {kvs kvs2 : List (PV × PV)} (g : Gone W A a ns s h h1 kvs) (d : DS a ns s h2) (w : WH W A h2 kvs2) (f : G.Fr [s, A.w] h1 h2) : Gone W A a ns s h h2 kvs2 :=
  ⟨d, w, g.k.trans f.kp⟩
theorem Gone.new {W : Wd} {A : Wa} {a s p : Addr} {ns : List Int} {h h1 : PH} {kvs : List (PV × PV)} {x : PO} (g : Gone W A a ns s h h1 kvs) (o : A.ok s a) (n : h1 p = none) : Gone W A a ns s h (up h1 p x) kvs :=
  ⟨g.d.new n, g.w.put o n, g.k.new n⟩
theorem op_at {v : Int} (h0 : 0 ≤ v) (h1 : v < 4) : ∃ o : Op2, atI [(PV.str [112, 108, 117, 115]), (PV.str [109, 105, 110, 117, 115]), (PV.str [108, 101, 97, 115, 116]), (PV.str [103, 114, 101, 97, 116, 101, 115, 116])] v = some (.str o.cs) := by
  rcases (show v = 0 ∨ v = 1 ∨ v = 2 ∨ v = 3 by omega) with rfl | rfl | rfl | rfl
  · exact ⟨.plus, by rw [at0]; rfl⟩
  · exact ⟨.minus, by rw [at1]; rfl⟩
  · exact ⟨.least, by rw [at2]; rfl⟩
  · exact ⟨.greatest, by rw [at3]; rfl⟩
theorem sg_at {v : Int} (h0 : 0 ≤ v) (h1 : v < 6) : ∃ o : Sg, atI [(PV.str [60]), (PV.str [60, 61]), (PV.str [62]), (PV.str [62, 61]), (PV.str [61, 61]), (PV.str [33, 61])] v = some (.str o.cs) := by
  rcases (show v = 0 ∨ v = 1 ∨ v = 2 ∨ v = 3 ∨ v = 4 ∨ v = 5 by omega) with rfl | rfl | rfl | rfl | rfl | rfl
  · exact ⟨.lt, by rw [at0]; rfl⟩
  · exact ⟨.le, by rw [at1]; rfl⟩
  · exact ⟨.gt, by rw [at2]; rfl⟩
  · exact ⟨.ge, by rw [at3]; rfl⟩
  · exact ⟨.eq, by rw [at4]; rfl⟩
  · exact ⟨.ne, by rw [at5]; rfl⟩
theorem c_some_part {W : Wd} (ok : W.ok) {A : Wa} {s a : Addr} {ns : List Int} (o : A.ok s a) : ∀ (n : Nat) {k : Nat}, n + 5 ≤ k → ∀ {h : PH} {Q : QV} {kvs : List (PV × PV)}, DS a ns s h → WH W A h kvs →
    (∀ (e : Ex) h' kvs', e.dep ≤ n → e.Al W.Ref → DS a ns s h' → WH W A h' kvs' → G.Fr [s, A.w] h h' → Q e.P h') → (wC k)._law_some_part [.ref s, .ref A.w, .int n] h Q := by
  intro n
  induction n with
  | zero =>
    intro k hk h Q kvs d w q
    obtain ⟨k, rfl⟩ : ∃ j, k = j + 1 := ⟨k - 1, by omega⟩
    show zFn _ _ (b__law_some_part (wC k)) _ h Q
    unfold b__law_some_part
    dsimp! []
    refine c_draw (by omega) d (by omega) (by omega) fun pick h1 p0 p1 d1 f1 => ?_
    rw [zSeq_x]; dsimp! [Int.natCast_zero]
    refine c_leaf (by omega) ok d1 o (w.fr o f1) fun e h2 kvs2 e1 e2 d2 w2 f2 _ => ⟨h2, G.Sub.refl _, q e h2 kvs2 (by omega) e2 d2 w2 fun b nb => (f2 b nb).trans (f1 b (by simp at nb ⊢; exact nb.1))⟩
  | succ n ih =>
    intro k hk h Q kvs d w q
    obtain ⟨k, rfl⟩ : ∃ j, k = j + 1 := ⟨k - 1, by omega⟩
    show zFn _ _ (b__law_some_part (wC k)) _ h Q
    unfold b__law_some_part
    have hn0 : ¬ ((n + 1 : Nat) : Int) = 0 := by omega
    have hn1 : ((n + 1 : Nat) : Int) - 1 = (n : Int) := by omega
    have fin : ∀ {e : Ex} {h1 : PH} {kvs1 : List (PV × PV)}, e.dep ≤ n + 1 → e.Al W.Ref → Gone W A a ns s h h1 kvs1 → ∃ h2, G.Sub h2 h1 ∧ Q e.P h2 := fun {e h1 kvs1} x1 x2 g => g.out d o w fun h2 y1 y2 y3 => q e h2 kvs1 x1 x2 y1 y2 y3
    dsimp! []
    refine c_draw (by omega) d (by omega) (by omega) fun pick h1 p0 p1 d1 f1 => ?_
    have g1 : Gone W A a ns s h h1 kvs := Gone.fr ⟨d, w, Kp.refl _ _⟩ o d1 f1
    rw [zSeq_x]; dsimp! [hn0]
    by_cases e0 : pick < 4
    · dsimp! [e0]
      exact c_leaf (by omega) ok d1 o g1.w fun e h2 kvs2 e1 e2 d2 w2 f2 _ => fin (by omega) e2 (g1.fr2 d2 w2 f2)
    dsimp! [e0]
    rw [zSeq_x]; dsimp! []
    by_cases e1 : pick = 4
    · dsimp! [e1, hn1]
      exact ih (by omega) d1 g1.w fun e h2 kvs2 x1 x2 d2 w2 f2 => ⟨by decide, fin (e := .neg e) (by simp only [Ex.dep]; omega) x2 (g1.fr2 d2 w2 f2)⟩
    dsimp! [e1]
    rw [zSeq_x]; dsimp! []
    by_cases e2 : pick = 5
    · dsimp! [e2, hn1]
      refine c_draw (by omega) d1 (by omega) (by omega) fun v h2 v0 v1 d2 f2 => ?_
      have g2 := g1.fr o d2 f2
      exact ih (by omega) d2 g2.w fun e h3 kvs3 x1 x2 d3 w3 f3 => ⟨by decide, fin (e := .scl v e) (by simp only [Ex.dep]; omega) ⟨⟨by omega, by omega⟩, x2⟩ (g2.fr2 d3 w3 f3)⟩
    dsimp! [e2, hn1]
    refine ih (by omega) d1 g1.w fun ea h2 kvs2 a1 a2 d2 w2 f2 => ?_
    have g2 := g1.fr2 d2 w2 f2
    refine ih (by omega) d2 w2 fun eb h3 kvs3 b1 b2 d3 w3 f3 => ?_
    have g3 := g2.fr2 d3 w3 f3
    rw [zSeq_x]; dsimp! []
    by_cases e3 : pick < 10
    · obtain ⟨op, eo⟩ := op_at (v := pick - 6) (by omega) (by omega)
      dsimp! [e3]
      refine ⟨by decide, fun p np => ?_⟩
      dsimp! [eo]
      exact ⟨by decide, fin (e := .bin op ea eb) (by simp only [Ex.dep]; omega) ⟨a2, b2⟩ (g3.new o np)⟩
    dsimp! [e3]
    refine ⟨by decide, fun p np => ?_⟩
    have g4 := g3.new o np (x := .lst [(PV.str [60]), (PV.str [60, 61]), (PV.str [62]), (PV.str [62, 61]), (PV.str [61, 61]), (PV.str [33, 61])])
    refine c_draw (by omega) g4.d (by omega) (by omega) fun v h5 v0 v1 d5 f5 => ?_
    have g5 := g4.fr o d5 f5
    have e5 : h5 p = some (.lst [(PV.str [60]), (PV.str [60, 61]), (PV.str [62]), (PV.str [62, 61]), (PV.str [61, 61]), (PV.str [33, 61])]) := (f5 p (by simpa using g3.d.ne np)).trans up_same
    obtain ⟨sg, es⟩ := sg_at v0 v1
    dsimp! [e5, es]
    refine c_leaf (by omega) ok d5 o g5.w fun ec h6 kvs6 c1 c2 d6 w6 f6 _ => ?_
    have g6 := g5.fr2 d6 w6 f6
    refine c_leaf (by omega) ok d6 o w6 fun ed h7 kvs7 dd1 dd2 d7 w7 f7 _ => ?_
    have g7 := g6.fr2 d7 w7 f7
    exact ⟨by decide, fin (e := .pick sg ea ec eb ed) (by simp only [Ex.dep]; omega) ⟨a2, c2, b2, dd2⟩ g7⟩

/-! ### tables -/
structure Giv where
  name : List Nat
  rim : Int
  lo : Option Int
  hi : Option Int
structure Row where
  name : List Nat
  rim : Int
  e : Ex
structure Tb where
  over : List (List Nat)
  gs : List Giv
  rs : List Row
def Giv.P (g : Giv) : PV := givP g.name g.rim g.lo g.hi
def Row.P (r : Row) : PV := .tup [.str r.name, .int r.rim, r.e.P]
def Tb.P (t : Tb) : PV := .tup [.tup (t.over.map .str), .tup (t.gs.map Giv.P), .tup (t.rs.map Row.P), .tup []]
def Giv.ok (g : Giv) : Prop := okS g.name = true ∧ -4 ≤ g.rim ∧ g.rim ≤ 4 ∧ (∀ l, g.lo = some l → g.rim - 4 < l ∧ l ≤ g.rim) ∧ ∀ u, g.hi = some u → g.rim ≤ u ∧ u < g.rim + 4
theorem strs_back : ∀ {l : List PV}, (∀ p ∈ l, ∃ x, p = PV.str x) → ∃ r : List (List Nat), l = r.map .str
  | [], _ => ⟨[], rfl⟩
  | p :: l, h => by
    obtain ⟨x, rfl⟩ := h p List.mem_cons_self
    obtain ⟨r, rfl⟩ := strs_back fun q hq => h q (List.mem_cons_of_mem _ hq)
    exact ⟨x :: r, rfl⟩
def unstr : PV → List Nat
  | .str x => x
  | _ => []
theorem unstr_map (l : List (List Nat)) : (l.map PV.str).map unstr = l := by
  rw [List.map_map]
  have : (unstr ∘ PV.str) = id := rfl
  rw [this, List.map_id]
theorem sort_strs {l : List (List Nat)} (h : ∀ x ∈ l, okS x = true) : sortOk (l.map .str) = true ∧ ∃ r : List (List Nat), isort (l.map .str) = r.map .str ∧ r.Perm l := by
  obtain ⟨h1, h2⟩ := pls_strs h
  refine ⟨?_, ?_⟩
  · unfold sortOk
    simp only [Bool.and_eq_true, Bool.or_eq_true, decide_eq_true_eq, List.all_eq_true, h1, h2]
    refine ⟨⟨⟨trivial, by omega⟩, fun p hp q hq => ?_⟩, .inl (.inl (.inl (.inr fun p hp => ?_)))⟩
    · obtain ⟨x, _, rfl⟩ := List.mem_map.mp hp
      obtain ⟨y, _, rfl⟩ := List.mem_map.mp hq
      rfl
    · obtain ⟨x, _, rfl⟩ := List.mem_map.mp hp
      rfl
  · have pm := isort_perm (l.map .str)
    obtain ⟨r, e⟩ := strs_back (l := isort (l.map .str)) fun p hp => by
      obtain ⟨x, _, rfl⟩ := List.mem_map.mp (pm.mem_iff.mp hp)
      exact ⟨x, rfl⟩
    refine ⟨r, e, ?_⟩
    rw [e] at pm
    have q := pm.map unstr
    rw [unstr_map, unstr_map] at q
    exact q
theorem c_table_world {k : Nat} (hk : 3 ≤ k) {a s : Addr} {ns : List Int} {many rules givens : Nat} {h : PH} {Q : QV} (d : DS a ns s h) (hm : 1 ≤ many ∧ many ≤ 3) (hr : 1 ≤ rules ∧ rules ≤ 8) (hg : givens ≤ 8)
    (q : ∀ (over rn gn : List (List Nat)) (A : Wa) (kvs : List (PV × PV)) h', over.length = many → rn.length = rules → gn.length = givens → (over ++ (rn ++ gn)).Nodup → (∀ x ∈ over ++ (rn ++ gn), okS x = true) →
      DS a ns s h' → WB ⟨over, many, rn, gn, 2, none, fun _ => 0, 0, []⟩ A h' kvs → A.ok s a → kvs.length ≤ 7 → Kp [s] h h' → h A.w = none → Q (.ref A.w) h') : (wC k)._law_table_world [.ref s, .int many, .int rules, .int givens] h Q := by
  obtain ⟨k, rfl⟩ : ∃ j, k = j + 1 := ⟨k - 1, by omega⟩
  show zFn _ _ (b__law_table_world (wC k)) _ h Q
  unfold b__law_table_world
  dsimp! []
  have en : ((many : Int) + (rules : Int)) + (givens : Int) = ((many + rules + givens : Nat) : Int) := by omega
  rw [en]
  refine c_words (by omega) d (by omega) fun ws p h1 lw nd okw d1 f1 np => ?_
  have hlw : (ws.map PV.str).length = many + rules + givens := by rw [List.length_map]; exact lw
  dsimp! [cut_to (show (0 : Int) ≤ many by omega)]
  intro p1 np1
  dsimp! []
  have e1 : p ≠ p1 := by rintro rfl; rw [up_same] at np1; cases np1
  dsimp! [up_ne e1, cut_nn (show (0 : Int) ≤ many by omega) (show (0 : Int) ≤ (many : Int) + rules by omega) (show ((many : Nat) : Int).toNat ≤ (ws.map PV.str).length by omega)]
  intro p2 np2
  have t1 : ((ws.map PV.str).drop (many : Int).toNat).take (((many : Int) + rules).toNat - (many : Int).toNat) = ((ws.drop many).take rules).map .str := by
    rw [show ((many : Int)).toNat = many by omega, show ((many : Int) + rules).toNat - many = rules by omega, ← List.map_drop, ← List.map_take]
  have t2 : ((ws.map PV.str).drop ((many : Int) + rules).toNat) = (ws.drop (many + rules)).map .str := by
    rw [show ((many : Int) + rules).toNat = many + rules by omega, ← List.map_drop]
  have t3 : (ws.map PV.str).take (many : Int).toNat = (ws.take many).map .str := by rw [show ((many : Int)).toNat = many by omega, ← List.map_take]
  rw [t1, t3]
  rw [t3] at np2
  obtain ⟨s1, rn, i1, pm1⟩ := sort_strs (l := (ws.drop many).take rules) fun x hx => okw x (List.mem_of_mem_drop (List.mem_of_mem_take hx))
  obtain ⟨s2, gn, i2, pm2⟩ := sort_strs (l := ws.drop (many + rules)) fun x hx => okw x (List.mem_of_mem_drop hx)
  dsimp! [s1, i1]
  intro r1 nr1
  dsimp! [dputs]
  refine ⟨by decide, rfl, fun w nw => ?_⟩
  -- what stands where
  have hp4 := keep_new nw (x := .dic false none (List.foldl (fun acc kv => dput acc kv.fst kv.snd) [] [(PV.str [109, 97, 110, 121], .int many), (PV.str [111, 118, 101, 114], .tup ((ws.take many).map .str)), (PV.str [114, 117, 108, 101, 95, 110, 97, 109, 101, 115], .ref r1), (PV.str [109, 111, 115, 116], .int 2)])) p _ (keep_new nr1 p _ (keep_new np2 p _ (keep_new np1 p _ up_same)))
  have hr4 := keep_new nw (x := .dic false none (List.foldl (fun acc kv => dput acc kv.fst kv.snd) [] [(PV.str [109, 97, 110, 121], .int many), (PV.str [111, 118, 101, 114], .tup ((ws.take many).map .str)), (PV.str [114, 117, 108, 101, 95, 110, 97, 109, 101, 115], .ref r1), (PV.str [109, 111, 115, 116], .int 2)])) r1 _ up_same
  have d5 := ((((d1.new np (o := .lst (ws.map PV.str))).new np1 (o := .lst ((ws.take many).map .str))).new np2 (o := .lst (((ws.drop many).take rules).map .str))).new nr1 (o := .lst (rn.map .str))).new nw (o := .dic false none (List.foldl (fun acc kv => dput acc kv.fst kv.snd) [] [(PV.str [109, 97, 110, 121], .int many), (PV.str [111, 118, 101, 114], .tup ((ws.take many).map .str)), (PV.str [114, 117, 108, 101, 95, 110, 97, 109, 101, 115], .ref r1), (PV.str [109, 111, 115, 116], .int 2)]))
  have k5 := ((((f1.kp.new np (o := .lst (ws.map PV.str))).new np1 (o := .lst ((ws.take many).map .str))).new np2 (o := .lst (((ws.drop many).take rules).map .str))).new nr1 (o := .lst (rn.map .str)))
  have nwh : h w = none := by
    cases e : h w with
    | none => rfl
    | some o =>
      by_cases hs : w = s
      · subst hs
        obtain ⟨_, _, i, c, n, es⟩ := ((((d1.new np (o := .lst (ws.map PV.str))).new np1 (o := .lst ((ws.take many).map .str))).new np2 (o := .lst (((ws.drop many).take rules).map .str))).new nr1 (o := .lst (rn.map .str)))
        rw [nw] at es; cases es
      · have := k5 w o (by simpa using hs) e
        rw [nw] at this; cases this
  have k6 := k5.new nw (o := .dic false none (List.foldl (fun acc kv => dput acc kv.fst kv.snd) [] [(PV.str [109, 97, 110, 121], .int many), (PV.str [111, 118, 101, 114], .tup ((ws.take many).map .str)), (PV.str [114, 117, 108, 101, 95, 110, 97, 109, 101, 115], .ref r1), (PV.str [109, 111, 115, 116], .int 2)]))
  have hw4 : ∀ (g : PH) (o : PO), up g w o w = some o := fun g o => up_same
  have hw5 := hw4 (up (up (up (up h1 p (PO.lst (List.map PV.str ws))) p1 (PO.lst (List.map PV.str (List.take many ws)))) p2 (PO.lst (List.map PV.str (List.take rules (List.drop many ws))))) r1 (PO.lst (List.map PV.str rn))) (.dic false none (List.foldl (fun acc kv => dput acc kv.fst kv.snd) [] [(PV.str [109, 97, 110, 121], .int many), (PV.str [111, 118, 101, 114], .tup ((ws.take many).map .str)), (PV.str [114, 117, 108, 101, 95, 110, 97, 109, 101, 115], .ref r1), (PV.str [109, 111, 115, 116], .int 2)]))
  generalize up (up (up (up (up h1 p (PO.lst (List.map PV.str ws))) p1 (PO.lst (List.map PV.str (List.take many ws)))) p2 (PO.lst (List.map PV.str (List.take rules (List.drop many ws))))) r1 (PO.lst (List.map PV.str rn))) w (.dic false none (List.foldl (fun acc kv => dput acc kv.fst kv.snd) [] [(PV.str [109, 97, 110, 121], .int many), (PV.str [111, 118, 101, 114], .tup ((ws.take many).map .str)), (PV.str [114, 117, 108, 101, 95, 110, 97, 109, 101, 115], .ref r1), (PV.str [109, 111, 115, 116], .int 2)])) = H5 at hp4 hr4 d5 k6 hw5 ⊢
  have hwr : r1 ≠ w := by rintro rfl; rw [hw5] at hr4; cases hr4
  dsimp! [hp4, cut_from (show (0 : Int) ≤ (many : Int) + rules by omega)]
  rw [t2]
  intro p6 np6
  dsimp! [s2, i2]
  intro g ng
  have hg6 : p6 ≠ g := by rintro rfl; rw [up_same] at ng; cases ng
  have d6 := d5.new np6 (o := .lst ((ws.drop (many + rules)).map .str))
  have wp6 : w ≠ p6 := by rintro rfl; rw [hw5] at np6; cases np6
  have wg : w ≠ g := by rintro rfl; rw [up_ne wp6, hw5] at ng; cases ng
  have rp6 : r1 ≠ p6 := by rintro rfl; rw [hr4] at np6; cases np6
  have rg : r1 ≠ g := by rintro rfl; rw [up_ne rp6, hr4] at ng; cases ng
  dsimp! [up_ne wg, up_ne wp6, hw5]
  refine ⟨rfl, by show 4 < sizeLine; decide, rfl, by show 5 < sizeLine; decide, ?_⟩
  have dg := d6.new ng (o := .lst (gn.map .str))
  have wne : w ≠ s ∧ w ≠ a := by
    constructor
    · rintro rfl
      obtain ⟨_, _, i, c, n, es⟩ := d5
      rw [hw5] at es; cases es
    · rintro rfl
      obtain ⟨_, es, _⟩ := d5
      rw [hw5] at es; cases es
  have rne : r1 ≠ s := by
    rintro rfl
    have hne := d.1
    obtain ⟨_, _, i, c, n, es⟩ := d5
    rw [hr4] at es; cases rn <;> simp at es
  have gne : g ≠ s := d6.ne ng
  refine ⟨_, G.Sub.refl _, ?_⟩
  have hwsl : (ws.take many).length = many := by rw [List.length_take]; omega
  have pm : ((ws.take many) ++ (rn ++ gn)).Perm ws := by
    have e0 : ws = ws.take many ++ ((ws.drop many).take rules ++ ws.drop (many + rules)) := by
      rw [show ws.drop (many + rules) = (ws.drop many).drop rules by rw [List.drop_drop], List.take_append_drop, List.take_append_drop]
    exact (List.Perm.append_left _ (List.Perm.append pm1 pm2)).trans (List.Perm.of_eq e0.symm)
  refine q (ws.take many) rn gn ⟨w, r1, g, r1, r1⟩ _ _ hwsl ?_ ?_ (pm.nodup_iff.mpr nd) (fun x hx => okw x (pm.mem_iff.mp hx)) (dg.put wne.2 wne.1) ⟨up_same, by show 6 ≤ 20; decide, rfl, rfl, rfl, rfl, ?_, ?_, rfl, fun _ => rfl, fun row e => nomatch e⟩ ⟨wne, ⟨rne, hwr⟩, ⟨gne, wg.symm⟩, ⟨rne, hwr⟩, ⟨rne, hwr⟩⟩ (by show 6 ≤ 7; decide) ?_ nwh
  · rw [pm1.length_eq, List.length_take, List.length_drop]; omega
  · rw [pm2.length_eq, List.length_drop]; omega
  · rw [up_ne hwr, up_ne rg, up_ne rp6]; exact hr4
  · rw [up_ne wg.symm]; exact up_same
  · exact ((k6.new np6).new ng).put0 nwh

theorem c_given_rows {k : Nat} (hk : 4 ≤ k) {a s l : Addr} {ns : List Int} {gn : List (List Nat)} (okg : ∀ x ∈ gn, okS x = true) (hl : gn.length ≤ 1000) (hne : l ≠ s) {ρ : Ev} {h : PH} (d : DS a ns s h) (hgl : h l = some (.lst (gn.map .str))) {c : Cs} (hc : c = wC (k - 1)) {Q : List PV → PH → Prop} {te : ZE} {j : Nat}
    (run : ∀ (x : List Nat) (h' : PH) (R : QV), c._law_given_row [.ref s, .str x] h' R → te (ρ.set j (some (.str x))) h' R)
    (q : ∀ (gs : List Giv) h', gs.map Giv.name = gn → (∀ g ∈ gs, g.ok) → DS a ns s h' → G.Fr [s] h h' → Q (gs.map Giv.P) h') : LcW (ZitL l) (zgName j) ztYes te ρ h Q := by
  refine lcW_L (ps := gn.map .str) (by rw [sizeLine_eq, List.length_map]; omega) (fun i acc h' => ∃ gs : List Giv, acc = gs.map Giv.P ∧ gs.length = i ∧ gs.map Giv.name = gn.take i ∧ (∀ g ∈ gs, g.ok) ∧ DS a ns s h' ∧ G.Fr [s] h h') ⟨[], rfl, rfl, rfl, by simp, d, G.Fr.refl _ _⟩
    (fun i acc h' ⟨gs, e, l, _⟩ => by rw [e, List.length_map, l]; exact Nat.le_refl _) (fun i acc h' _ ⟨gs, _, _, _, _, _, f⟩ => (f l (by simpa using hne)).trans hgl) ?_ ?_
  · rintro i _ h1 p e ⟨gs, rfl, l1, n1, b1, d1, f1⟩
    rw [List.getElem?_map] at e
    obtain ⟨x, ex, rfl⟩ := Option.map_eq_some_iff.mp e
    dsimp! []
    refine run x h1 _ ?_
    rw [hc]
    refine c_given_row (by omega) d1 fun rim lo hi h2 r0 r1 b2 b3 d2 f2 => ⟨h2, G.Sub.refl _, gs ++ [⟨x, rim, lo, hi⟩], by simp [Giv.P], by simp [l1], ?_, fun g hg => ?_, d2, f1.trans f2⟩
    · rw [List.map_append, n1, List.take_add_one, ex]; rfl
    · rcases List.mem_append.mp hg with hg | hg
      · exact b1 g hg
      · simp at hg; subst hg
        exact ⟨okg x (List.mem_of_getElem? ex), r0, r1, b2, b3⟩
  · rintro _ h1 ⟨gs, rfl, l1, n1, b1, d1, f1⟩
    rw [List.length_map, List.take_length] at n1
    exact q gs h1 n1 b1 d1 f1
theorem c_rules_of {k n : Nat} (hk : n + 7 ≤ k) {W : Wd} (ok : W.ok) {A : Wa} {a s : Addr} {ns : List Int} {h : PH} {Q : QV} {kvs : List (PV × PV)} (d : DS a ns s h) (o : A.ok s a) (w : WB W A h kvs) (hl : kvs.length ≤ 15)
    (q : ∀ (t : Tb) h', t.over = W.over → t.gs.map Giv.name = W.gn → t.rs.map Row.name = W.rn → (∀ g ∈ t.gs, g.ok) → (∀ r ∈ t.rs, (-4 ≤ r.rim ∧ r.rim ≤ 4) ∧ r.e.dep ≤ n ∧ r.e.Al ({ W with name := r.name } : Wd).Ref) → DS a ns s h' → Kp [s, A.w] h h' → Q t.P h') :
    (wC k)._law_rules_of [.ref s, .ref A.w, .int n] h Q := by
  obtain ⟨k, rfl⟩ : ∃ j, k = j + 1 := ⟨k - 1, by omega⟩
  show zFn _ _ (b__law_rules_of (wC k)) _ h Q
  unfold b__law_rules_of
  have kz : ∀ z, keyOk false (.str z) = true := fun _ => rfl
  dsimp! []
  refine ⟨by decide, fun rl nrl => ?_⟩
  have d0 := d.new nrl (o := .lst [])
  have w0 := w.put nrl (x := .lst [])
  have k0 : Kp [s, A.w] h (up h rl (.lst [])) := kp_new nrl
  have rls : rl ≠ s := d.ne nrl
  have rlw : rl ≠ A.w := by rintro rfl; rw [w.dic] at nrl; cases nrl
  rw [zSeq_x]
  dsimp! [w0.dic, kz, w0.rule, w0.rl]
  refine forW_L (ps := W.rn.map .str) (fun i ρ' h' => ∃ (rs : List Row) (kvs' : List (PV × PV)) (x : Option PV), rs.map Row.name = W.rn.take i ∧ (∀ r ∈ rs, (-4 ≤ r.rim ∧ r.rim ≤ 4) ∧ r.e.dep ≤ n ∧ r.e.Al ({ W with name := r.name } : Wd).Ref) ∧
    ρ' = [some (.ref s), some (.ref A.w), some (.int n), some (.ref rl), x, none] ∧ DS a ns s h' ∧ WB W A h' kvs' ∧ (kvs'.length ≤ 15 ∨ ((∃ v, dget kvs' (PV.str [114, 111, 111, 109]) = some v) ∧ ∃ v, dget kvs' (PV.str [110, 97, 109, 101]) = some v)) ∧ h' rl = some (.lst (rs.map Row.P)) ∧ Kp [s, A.w] h h')
    ⟨[], kvs, none, rfl, by simp, rfl, d0, w0, .inl hl, up_same, k0⟩ (fun i ρ' h' _ ⟨_, _, _, _, _, _, _, w', _⟩ => w'.rl) ?_ ?_
  · rintro i _ h1 p e ⟨rs, kvs1, x, n1, b1, rfl, d1, w1, l1, r1, k1⟩
    rw [List.getElem?_map] at e
    obtain ⟨nm, ex, rfl⟩ := Option.map_eq_some_iff.mp e
    have hnm : nm ∈ W.rn := List.mem_of_getElem? ex
    dsimp! []
    refine ⟨by decide, fun p np => ?_⟩
    have d2 := d1.new np (o := .lst [.int 5, .int 4, .int 3])
    have w2 := w1.put np (x := .lst [.int 5, .int 4, .int 3])
    have k2 := k1.new np (o := .lst [.int 5, .int 4, .int 3])
    have r2 : up h1 p (.lst [.int 5, .int 4, .int 3]) rl = some (.lst (rs.map Row.P)) := keep_new np _ _ r1
    obtain ⟨r, er⟩ : ∃ r : Int, atI [PV.int 5, PV.int 4, PV.int 3] ((W.many : Int) - 1) = some (.int r) := by
      rcases (show W.many = 1 ∨ W.many = 2 ∨ W.many = 3 by have := ok.many; omega) with e | e | e <;> rw [e]
      · exact ⟨5, at0⟩
      · exact ⟨4, at1⟩
      · exact ⟨3, at2⟩
    dsimp! [w2.dic, kz, w2.many, er]
    obtain ⟨w3, l3⟩ := w2.turn (r := r) o l1 hnm
    refine ⟨by have := w2.len; rw [sizeLine_eq]; omega, l3, ?_⟩
    have d3 : DS a ns s (up (up h1 p (.lst [.int 5, .int 4, .int 3])) A.w (.dic false none (dput (dput kvs1 (PV.str [114, 111, 111, 109]) (.int r)) (PV.str [110, 97, 109, 101]) (.str nm)))) := d2.put o.w.2 o.w.1
    have k3 : Kp [s, A.w] h (up (up h1 p (.lst [.int 5, .int 4, .int 3])) A.w (.dic false none (dput (dput kvs1 (PV.str [114, 111, 111, 109]) (.int r)) (PV.str [110, 97, 109, 101]) (.str nm)))) := k2.put (by simp)
    have r3 : up (up h1 p (.lst [.int 5, .int 4, .int 3])) A.w (.dic false none (dput (dput kvs1 (PV.str [114, 111, 111, 109]) (.int r)) (PV.str [110, 97, 109, 101]) (.str nm))) rl = some (.lst (rs.map Row.P)) := by rw [up_ne rlw]; exact r2
    generalize up (up h1 p (.lst [.int 5, .int 4, .int 3])) A.w (.dic false none (dput (dput kvs1 (PV.str [114, 111, 111, 109]) (.int r)) (PV.str [110, 97, 109, 101]) (.str nm))) = h3 at w3 d3 k3 r3 ⊢
    generalize dput (dput kvs1 (PV.str [114, 111, 111, 109]) (.int r)) (PV.str [110, 97, 109, 101]) (.str nm) = kvs3 at w3 ⊢
    dsimp! [r3]
    refine c_rim (by omega) d3 fun rim h4 d4 f4 q0 q1 => ?_
    have w4 := w3.fr o f4
    have r4 : h4 rl = some (.lst (rs.map Row.P)) := (f4 rl (by simpa using rls)).trans r3
    have up2 : ∀ {g g' : PH}, G.Fr [s] g g' → Kp [s, A.w] g g' := fun f b o' n e => (f b (by simp at n ⊢; exact n.1)).trans e
    refine c_some_part (ok.nm nm) o n (by omega) d4 w4 fun e h5 kvs5 e1 e2 d5 w5 f5 => ?_
    have r5 : h5 rl = some (.lst (rs.map Row.P)) := (f5 rl (by simp [rls, rlw])).trans r4
    have k5 := (k3.trans (up2 f4)).trans f5.kp
    dsimp! [r5]
    have hlen : rs.length ≤ 20 := by
      have := congrArg List.length n1
      rw [List.length_map, List.length_take] at this
      have := ok.rn
      omega
    refine ⟨by decide, by rw [sizeLine_eq, List.length_map]; omega, _, G.Sub.refl _, rs ++ [⟨nm, rim, e⟩], kvs5, some (.str nm), ?_, ?_, rfl, d5.put ?_ rls, w.put0 w5.toWB.nm' nrl, .inr ⟨⟨_, w5.room.choose_spec⟩, _, w5.name⟩, ?_, ?_⟩
    · rw [List.map_append, n1, List.take_add_one, ex]; rfl
    · intro r' hr'
      rcases List.mem_append.mp hr' with hr' | hr'
      · exact b1 r' hr'
      · simp at hr'; subst hr'
        exact ⟨⟨q0, q1⟩, e1, e2⟩
    · rintro rfl
      obtain ⟨_, ea, _⟩ := d
      rw [nrl] at ea; cases ea
    · rw [up_same, List.map_append]; rfl
    · exact k5.put0 nrl
  · rintro _ h1 ⟨rs, kvs1, x, n1, b1, rfl, d1, w1, l1, r1, k1⟩
    rw [List.length_map, List.take_length] at n1
    dsimp! [w1.dic, kz, w1.given, w1.gl]
    have hgn := ok.gn
    refine c_given_rows (k := k + 1) (by omega) ok.gs (by omega) o.g.1 d1 w1.gl rfl (fun x h' R r => ?_) fun gs h2 gn gb d2 f2 => ?_
    · dsimp! []
      exact r
    · intro D nD
      have d3 := d2.new nD (o := .lst (gs.map Giv.P))
      have up2 : ∀ {g g' : PH}, G.Fr [s] g g' → Kp [s, A.w] g g' := fun f b o' n e => (f b (by simp at n ⊢; exact n.1)).trans e
      have w2 := w1.fr o f2
      have w3 := w2.put nD (x := .lst (gs.map Giv.P))
      have r2 : h2 rl = some (.lst (rs.map Row.P)) := (f2 rl (by simpa using rls)).trans r1
      have r3 : up h2 D (.lst (gs.map Giv.P)) rl = some (.lst (rs.map Row.P)) := keep_new nD _ _ r2
      have k3 := (k1.trans (up2 f2)).new nD (o := .lst (gs.map Giv.P))
      dsimp! [w3.dic, kz, w3.over, r3]
      exact ⟨by decide, by decide, _, G.Sub.refl _, q ⟨W.over, gs, rs⟩ _ rfl gn n1 gb b1 d3 k3⟩

/-- another most -/
theorem WB.mosted {W : Wd} {A : Wa} {s a : Addr} {h : PH} {kvs : List (PV × PV)} (o : A.ok s a) (w : WB W A h kvs) (m : Int) : WB { W with most := m } A (up h A.w (.dic false none (dput kvs (PV.str [109, 111, 115, 116]) (.int m)))) (dput kvs (PV.str [109, 111, 115, 116]) (.int m)) := by
  have g : ∀ {k' : PV} {v' : PV}, k' ∈ [(PV.str [111, 118, 101, 114]), (PV.str [109, 97, 110, 121]), (PV.str [114, 117, 108, 101, 95, 110, 97, 109, 101, 115]), (PV.str [103, 105, 118, 101, 110, 95, 110, 97, 109, 101, 115]), (PV.str [114, 111, 119]), (PV.str [110, 117, 109, 98, 101, 114, 115]), (PV.str [108, 101, 97, 115, 116])] → dget kvs k' = some v' → dget (dput kvs (PV.str [109, 111, 115, 116]) (.int m)) k' = some v' := fun {k' v'} mm e => by
    rw [dget_dput, if_neg (by rintro rfl; revert mm; decide)]; exact e
  refine ⟨up_same, by rw [len_dput_old w.most]; exact w.len, g (by simp) w.many, by rw [dget_dput, if_pos rfl], g (by simp) w.rule, g (by simp) w.given, by rw [up_ne o.r.2]; exact w.rl, by rw [up_ne o.g.2]; exact w.gl, g (by simp) w.over, fun e => g (by simp) (w.row.1 e), fun row h => ?_⟩
  have r := w.row.2 row h
  obtain ⟨nk, n1, n2⟩ := r.dic
  exact ⟨g (by simp) r.at_, by rw [up_ne o.row.2]; exact r.lst, r.len, g (by simp) r.nat, ⟨nk, by rw [up_ne o.nums.2]; exact n1, n2⟩, g (by simp) r.least⟩
/-- what a generator's table keeps -/
structure Tb.Ok (t : Tb) (n : Nat) (W : Wd) : Prop where
  w : W.ok
  many : t.over.length = W.many
  gn : t.gs.map Giv.name = W.gn
  rn : t.rs.map Row.name = W.rn
  nd : (t.over ++ (W.rn ++ W.gn)).Nodup
  ok : ∀ x ∈ t.over ++ (W.rn ++ W.gn), okS x = true
  gs : ∀ g ∈ t.gs, g.ok
  rs : ∀ r ∈ t.rs, (-4 ≤ r.rim ∧ r.rim ≤ 4) ∧ r.e.dep ≤ n ∧ r.e.Al ({ W with name := r.name } : Wd).Ref
theorem kp_pair {s w : Addr} {h h' : PH} (k : Kp [s, w] h h') (n : h w = none) : Kp [s] h h' := fun b o nb e => k b o (by
  simp only [List.mem_cons, List.not_mem_nil, or_false, not_or] at nb ⊢
  exact ⟨nb, by rintro rfl; rw [n] at e; cases e⟩) e
theorem c_any_table {k : Nat} (hk : 10 ≤ k) {a s : Addr} {ns : List Int} {h : PH} {Q : QV} (d : DS a ns s h)
    (q : ∀ (t : Tb) (W : Wd) h', t.Ok 2 W → DS a ns s h' → G.Fr [s] h h' → Q t.P h') : (wC k)._law_any_table [.ref s] h Q := by
  obtain ⟨k, rfl⟩ : ∃ j, k = j + 1 := ⟨k - 1, by omega⟩
  show zFn _ _ (b__law_any_table (wC k)) _ h Q
  unfold b__law_any_table
  dsimp! []
  refine c_draw (by omega) d (by omega) (by omega) fun x1 h1 a0 a1 d1 f1 => ?_
  dsimp! []
  refine c_draw (by omega) d1 (by omega) (by omega) fun x2 h2 b0 b1 d2 f2 => ?_
  dsimp! []
  refine c_draw (by omega) d2 (by omega) (by omega) fun x3 h3 e0 e1 d3 f3 => ?_
  obtain ⟨m, hm⟩ : ∃ m : Nat, 1 + x1 = (m : Int) := ⟨(1 + x1).toNat, by omega⟩
  obtain ⟨r, hr⟩ : ∃ m : Nat, 1 + x2 = (m : Int) := ⟨(1 + x2).toNat, by omega⟩
  obtain ⟨g, hg⟩ : ∃ m : Nat, x3 = (m : Int) := ⟨x3.toNat, by omega⟩
  rw [hm, hr, hg]
  refine c_table_world (by omega) d3 (by omega) (by omega) (by omega) fun over rn gn A kvs h4 l1 l2 l3 nd ok d4 w4 o hl k4 nw => ?_
  have kz : ∀ z, keyOk false (.str z) = true := fun _ => rfl
  have k34 : Kp [s] h h4 := ((f1.kp.trans f2.kp).trans f3.kp).trans k4
  have nwh : h A.w = none := by
    have e : h3 A.w = h A.w := (f3 _ (by simpa using o.w.1)).trans ((f2 _ (by simpa using o.w.1)).trans (f1 _ (by simpa using o.w.1)))
    rw [← e]; exact nw
  refine c_draw (by omega) d4 (by omega) (by omega) fun x5 h5 g0 g1 d5 f5 => ?_
  have w5 := w4.fr o f5
  dsimp! [w5.dic, kz]
  refine ⟨by rw [sizeLine_eq]; omega, ?_⟩
  have w6 := w5.mosted o (1 + x5)
  have d6 : DS a ns s (up h5 A.w (.dic false none (dput kvs (PV.str [109, 111, 115, 116]) (.int (1 + x5))))) := d5.put o.w.2 o.w.1
  have k6 : Kp [s] h (up h5 A.w (.dic false none (dput kvs (PV.str [109, 111, 115, 116]) (.int (1 + x5))))) := (k34.trans f5.kp).put0 nwh
  have ok' : ({ over := over, many := m, rn := rn, gn := gn, most := 1 + x5, row := none, nums := fun _ => 0, least := 0, name := [] } : Wd).ok :=
    ⟨by show 1 ≤ m ∧ m ≤ 3; omega, ⟨by rintro (e : rn = []); rw [e] at l2; simp at l2; omega, by show rn.length ≤ 20; omega⟩, by show gn.length ≤ 20; omega, fun x hx => ok x (by simp at hx ⊢; right; left; exact hx), fun x hx => ok x (by simp at hx ⊢; right; right; exact hx), by show 0 ≤ 1 + x5 ∧ 1 + x5 ≤ 10; omega⟩
  refine c_rules_of (n := 2) (by omega) ok' d6 o w6 (by rw [len_dput_old w5.most]; omega) fun t h7 t1 t2 t3 t4 t5 d7 k7 => ?_
  have k8 : Kp [s] h h7 := by
    intro b ob nb e
    have e6 := k6 b ob nb e
    exact k7 b ob (by
      simp only [List.mem_cons, List.not_mem_nil, or_false, not_or] at nb ⊢
      exact ⟨nb, by rintro rfl; rw [nwh] at e; cases e⟩) e6
  exact d.out d7 k8 fun h9 d9 f9 => q t _ h9 ⟨ok', by rw [t1]; exact l1, t2, t3, by rw [t1]; exact nd, by rw [t1]; exact ok, t4, t5⟩ d9 f9

/-! ### parts of expressions -/
/-- a part: no tuple, or an expression -/
inductive Kid
  | val (v : PV) | ex (e : Ex)
def Kid.P : Kid → PV
  | .val v => v
  | .ex e => e.P
def Ex.hd : Ex → List Nat
  | .num _ => ([110, 117, 109, 98, 101, 114] : List Nat) | .ctr _ => ([99, 111, 117, 110, 116, 101, 114] : List Nat) | .cell _ _ => ([99, 101, 108, 108] : List Nat) | .neg _ => ([110, 101, 103, 97, 116, 101] : List Nat) | .scl _ _ => ([115, 99, 97, 108, 101] : List Nat) | .bin o _ _ => o.cs | .pick .. => ([112, 105, 99, 107] : List Nat)
def Ex.kids : Ex → List Kid
  | .num n => [.val (.int n)]
  | .ctr n => [.val (.int n)]
  | .cell _ _ => []
  | .neg a => [.ex a]
  | .scl n a => [.val (.int n), .ex a]
  | .bin _ a b => [.ex a, .ex b]
  | .pick s a b c d => [.val (.str s.cs), .ex a, .ex b, .ex c, .ex d]
def Ex.isCell : Ex → Bool
  | .cell _ _ => true | _ => false
theorem Ex.P_kids {e : Ex} (h : e.isCell = false) : e.P = .tup (.str e.hd :: e.kids.map Kid.P) := by cases e <;> first | rfl | cases h
theorem Ex.P_tup (e : Ex) : ∃ r, e.P = .tup (.str e.hd :: r) := by cases e <;> exact ⟨_, rfl⟩
theorem hd_cell {e : Ex} (h : e.isCell = false) : decide (e.hd = ([99, 101, 108, 108] : List Nat)) = false := by
  cases e with
  | bin o a b => cases o <;> rfl
  | cell _ _ => cases h
  | _ => rfl
theorem kid_val {e : Ex} {v : PV} (h : Kid.val v ∈ e.kids) : (∃ n, v = .int n) ∨ ∃ x, v = .str x := by cases e <;> simp [Ex.kids] at h <;> first | exact .inl ⟨_, h⟩ | exact .inr ⟨_, h⟩
theorem kid_dep {e c : Ex} (h : Kid.ex c ∈ e.kids) : c.dep + 1 ≤ e.dep := by
  cases e with
  | num n => simp [Ex.kids] at h
  | ctr n => simp [Ex.kids] at h
  | cell x os => simp [Ex.kids] at h
  | neg a => simp [Ex.kids] at h; subst h; simp [Ex.dep]
  | scl n a => simp [Ex.kids] at h; subst h; simp [Ex.dep]
  | bin o a b => simp [Ex.kids] at h; simp only [Ex.dep]; rcases h with rfl | rfl <;> omega
  | pick s a b c d => simp [Ex.kids] at h; simp only [Ex.dep]; rcases h with rfl | rfl | rfl | rfl <;> omega
theorem kid_al {F : List Nat → List Int → Prop} {e c : Ex} (w : e.Al F) (h : Kid.ex c ∈ e.kids) : c.Al F := by
  cases e with
  | num n => simp [Ex.kids] at h
  | ctr n => simp [Ex.kids] at h
  | cell x os => simp [Ex.kids] at h
  | neg a => simp [Ex.kids] at h; subst h; exact w
  | scl n a => simp [Ex.kids] at h; subst h; exact w.2
  | bin o a b => simp [Ex.kids] at h; rcases h with rfl | rfl <;> first | exact w.1 | exact w.2
  | pick s a b c d => simp [Ex.kids] at h; rcases h with rfl | rfl | rfl | rfl <;> first | exact w.1 | exact w.2.1 | exact w.2.2.1 | exact w.2.2.2
theorem kids_len (e : Ex) : e.kids.length ≤ 5 := by cases e <;> simp [Ex.kids]
def Ex.refs : Ex → List (List Nat × List Int)
  | .num _ => []
  | .ctr _ => []
  | .cell x os => [(x, os)]
  | .neg a => a.refs
  | .scl _ a => a.refs
  | .bin _ a b => a.refs ++ b.refs
  | .pick _ a b c d => a.refs ++ (b.refs ++ (c.refs ++ d.refs))
def Kid.refs : Kid → List (List Nat × List Int)
  | .val _ => []
  | .ex e => e.refs
theorem refs_kids {e : Ex} (h : e.isCell = false) : e.refs = e.kids.flatMap Kid.refs := by cases e <;> first | (cases h; done) | simp [Ex.refs, Ex.kids, Kid.refs]
theorem refs_len : ∀ e : Ex, e.refs.length ≤ 4 ^ e.dep
  | .num _ => by simp [Ex.refs]
  | .ctr _ => by simp [Ex.refs]
  | .cell _ _ => by simp [Ex.refs, Ex.dep]
  | .neg a => by
    have := refs_len a
    simp only [Ex.refs, Ex.dep, Nat.pow_succ]; omega
  | .scl _ a => by
    have := refs_len a
    simp only [Ex.refs, Ex.dep, Nat.pow_succ]; omega
  | .bin _ a b => by
    have h1 := refs_len a
    have h2 := refs_len b
    have l1 := Nat.pow_le_pow_right (n := 4) (by omega) (Nat.le_max_left a.dep b.dep)
    have l2 := Nat.pow_le_pow_right (n := 4) (by omega) (Nat.le_max_right a.dep b.dep)
    simp only [Ex.refs, Ex.dep, Nat.pow_succ, List.length_append]; omega
  | .pick _ a b c d => by
    have h1 := refs_len a
    have h2 := refs_len b
    have h3 := refs_len c
    have h4 := refs_len d
    have l1 := Nat.pow_le_pow_right (n := 4) (by omega) (show a.dep ≤ max (max a.dep b.dep) (max c.dep d.dep) by omega)
    have l2 := Nat.pow_le_pow_right (n := 4) (by omega) (show b.dep ≤ max (max a.dep b.dep) (max c.dep d.dep) by omega)
    have l3 := Nat.pow_le_pow_right (n := 4) (by omega) (show c.dep ≤ max (max a.dep b.dep) (max c.dep d.dep) by omega)
    have l4 := Nat.pow_le_pow_right (n := 4) (by omega) (show d.dep ≤ max (max a.dep b.dep) (max c.dep d.dep) by omega)
    simp only [Ex.refs, Ex.dep, Nat.pow_succ, List.length_append]; omega
def refP (r : List Nat × List Int) : PV := .tup [(PV.str [99, 101, 108, 108]), .str r.1, .tup (r.2.map .int)]
theorem pow9 {n : Nat} (h : n ≤ 9) : 4 ^ n ≤ 262144 := Nat.le_trans (Nat.pow_le_pow_right (by omega) h) (by decide)
theorem flat_take {e : Ex} {i : Nat} {c : Kid} (h : e.kids[i]? = some c) : ((e.kids.take (i + 1)).flatMap Kid.refs) = (e.kids.take i).flatMap Kid.refs ++ c.refs := by
  rw [List.take_add_one, h]; simp
theorem flat_le {e : Ex} (i : Nat) (h : e.isCell = false) : ((e.kids.take i).flatMap Kid.refs).length ≤ e.refs.length := by
  rw [refs_kids h]
  conv => rhs; rw [← List.take_append_drop i e.kids]
  rw [List.flatMap_append, List.length_append]; omega
/-- a new list, all else as it was -/
theorem new_out {h h' : PH} {p : Addr} {xs : List PV} {Q : QV} (k : Kp [] h h') (n : h p = none) (e : h' p = some (.lst xs)) (q : Q (.ref p) (up h p (.lst xs))) : ∃ h2, G.Sub h2 h' ∧ Q (.ref p) h2 :=
  ⟨_, fun b o eb => by
    by_cases hb : b = p
    · subst hb; rw [up_same] at eb; cases eb; exact e
    · rw [up_ne hb] at eb; exact k b o (by simp) eb, q⟩
theorem kp_fresh {h h' : PH} {p : Addr} (k : Kp [] h h') (n : h' p = none) : h p = none := by
  cases e : h p with
  | none => rfl
  | some o => have := k p o (by simp) e; rw [n] at this; cases this
theorem c_refs : ∀ (n : Nat) (e : Ex), e.dep ≤ n → n ≤ 9 → ∀ {k : Nat}, n + 1 ≤ k → ∀ {h : PH} {Q : QV}, (∀ p, h p = none → Q (.ref p) (up h p (.lst (e.refs.map refP)))) → (wC k)._law_refs [e.P] h Q := by
  intro n
  induction n with
  | zero => exact fun e he h9 {k} hk {h Q} q => body 0 (fun c hc => absurd hc (by omega)) e he h9 hk q
  | succ n ih => exact fun e he h9 {k} hk {h Q} q => body (n + 1) (fun c hc => by
      intro k' hk' h' Q' q'
      exact ih c (by omega) (by omega) (by omega) q') e he h9 hk q
where
  body (n : Nat) (ih : ∀ c : Ex, c.dep + 1 ≤ n → ∀ {k : Nat}, n ≤ k → ∀ {h : PH} {Q : QV}, (∀ p, h p = none → Q (.ref p) (up h p (.lst (c.refs.map refP)))) → (wC k)._law_refs [c.P] h Q) (e : Ex) (he : e.dep ≤ n) (h9 : n ≤ 9) {k : Nat} (hk : n + 1 ≤ k) {h : PH} {Q : QV}
      (q : ∀ p, h p = none → Q (.ref p) (up h p (.lst (e.refs.map refP)))) : (wC k)._law_refs [e.P] h Q := by
    obtain ⟨k, rfl⟩ : ∃ j, k = j + 1 := ⟨k - 1, by omega⟩
    show zFn _ _ (b__law_refs (wC k)) _ h Q
    unfold b__law_refs
    cases hc : e.isCell with
    | true =>
      cases e <;> first | (cases hc; done) | skip
      rename_i x os
      show zFn _ _ _ [refP (x, os)] h Q
      unfold refP
      dsimp! []
      rw [zSeq_x]; dsimp! []
      exact ⟨by decide, fun p np => ⟨_, G.Sub.refl _, q p np⟩⟩
    | false =>
      rw [Ex.P_kids hc]
      dsimp! []
      rw [zSeq_x]; dsimp! [hd_cell hc]
      refine ⟨by decide, fun p0 np0 => ?_⟩
      rw [zSeq_x]
      dsimp! [cut_from (show (0 : Int) ≤ 1 by omega), show (1 : Int).toNat = 1 from rfl, List.drop_succ_cons, List.drop_zero]
      refine forW_V (fun i ρ' h' => ∃ (p : Addr) (x : Option PV), ρ' = [some (.tup (.str e.hd :: e.kids.map Kid.P)), some (.ref p), x] ∧ Kp [] h h' ∧ h p = none ∧ h' p = some (.lst (((e.kids.take i).flatMap Kid.refs).map refP))) ⟨p0, none, rfl, kp_new np0, np0, up_same⟩ ?_ ?_
      · rintro i _ h1 p ep ⟨pl, x, rfl, k1, n1, e1⟩
        rw [List.getElem?_map] at ep
        obtain ⟨c, ec, rfl⟩ := Option.map_eq_some_iff.mp ep
        cases c with
        | val v =>
          have fin : ∃ h2, G.Sub h2 h1 ∧ ∃ (p : Addr) (x : Option PV), [some (PV.tup (.str e.hd :: e.kids.map Kid.P)), some (.ref pl), some v] = [some (.tup (.str e.hd :: e.kids.map Kid.P)), some (.ref p), x] ∧ Kp [] h h2 ∧ h p = none ∧ h2 p = some (.lst (((e.kids.take (i + 1)).flatMap Kid.refs).map refP)) :=
            ⟨h1, G.Sub.refl _, pl, some v, rfl, k1, n1, by rw [flat_take ec]; simpa [Kid.refs] using e1⟩
          rcases kid_val (List.mem_of_getElem? ec) with ⟨m, rfl⟩ | ⟨m, rfl⟩
          · simp only [Kid.P]
            dsimp! [show decide (Ty.tuple = Ty.int) = false from rfl]
            exact fin
          · simp only [Kid.P]
            dsimp! [show decide (Ty.tuple = Ty.str) = false from rfl]
            exact fin
        | ex c =>
          obtain ⟨r, er⟩ := Ex.P_tup c
          simp only [Kid.P]
          have hcall : (wC k)._law_refs [c.P] h1 (fun q h2 => zAdd (.ref pl) q h2 fun p h1 => ∃ h2, G.Sub h2 h1 ∧ ∃ (p_1 : Addr) (x : Option PV), [some (PV.tup (.str e.hd :: e.kids.map Kid.P)), some p, some c.P] = [some (.tup (.str e.hd :: e.kids.map Kid.P)), some (.ref p_1), x] ∧ Kp [] h h2 ∧ h p_1 = none ∧ h2 p_1 = some (.lst (((e.kids.take (i + 1)).flatMap Kid.refs).map refP))) := by
            refine ih c (by have := kid_dep (List.mem_of_getElem? ec); omega) (by omega) fun p2 n2 => ?_
            have ne : pl ≠ p2 := by rintro rfl; rw [e1] at n2; cases n2
            dsimp! [up_ne ne, e1]
            refine ⟨?_, fun p3 n3 => ?_⟩
            · have b1 := flat_le i hc
              have b2 := refs_len e
              have b3 := pow9 (show e.dep ≤ 9 by omega)
              have b4 := refs_len c
              have b5 := pow9 (show c.dep ≤ 9 by have := kid_dep (List.mem_of_getElem? ec); omega)
              rw [sizeLine_eq, List.length_map, List.length_map]; omega
            · have k3 : Kp [] h (up (up h1 p2 (.lst (c.refs.map refP))) p3 (.lst (((e.kids.take i).flatMap Kid.refs).map refP ++ c.refs.map refP))) := (k1.new n2).new n3
              exact ⟨_, G.Sub.refl _, p3, some c.P, rfl, k3, kp_fresh (k1.new n2) n3, by rw [up_same, flat_take ec, List.map_append]; rfl⟩
          rw [er] at hcall ⊢
          dsimp! [show decide (Ty.tuple = Ty.tuple) = true from rfl]
          exact hcall
      · rintro _ h1 ⟨pl, x, rfl, k1, n1, e1⟩
        rw [List.length_map, List.take_length, ← refs_kids hc] at e1
        dsimp! []
        exact new_out k1 n1 e1 (q pl n1)

def Ex.own : Ex → List Int
  | .scl n _ => [n]
  | _ => []
def Ex.nums : Ex → List Int
  | .num n => [n]
  | .ctr _ => []
  | .cell _ _ => []
  | .neg a => a.nums
  | .scl n a => n :: a.nums
  | .bin _ a b => a.nums ++ b.nums
  | .pick _ a b c d => a.nums ++ (b.nums ++ (c.nums ++ d.nums))
def Kid.nums : Kid → List Int
  | .val _ => []
  | .ex e => e.nums
def Ex.isNum : Ex → Bool
  | .num _ => true | _ => false
theorem nums_kids {e : Ex} (h : e.isNum = false) : e.nums = e.own ++ e.kids.flatMap Kid.nums := by cases e <;> first | (cases h; done) | simp [Ex.nums, Ex.own, Ex.kids, Kid.nums]
theorem nums_len : ∀ e : Ex, e.nums.length ≤ 5 ^ (e.dep + 1)
  | .num _ => by simp [Ex.nums, Ex.dep]
  | .ctr _ => by simp [Ex.nums]
  | .cell _ _ => by simp [Ex.nums]
  | .neg a => by
    have := nums_len a
    simp only [Ex.nums, Ex.dep, Nat.pow_succ] at this ⊢; omega
  | .scl _ a => by
    have := nums_len a
    have p := Nat.pow_pos (n := a.dep) (show 0 < 5 by omega)
    simp only [Ex.nums, Ex.dep, Nat.pow_succ, List.length_cons] at this ⊢; omega
  | .bin _ a b => by
    have h1 := nums_len a
    have h2 := nums_len b
    have l1 := Nat.pow_le_pow_right (n := 5) (by omega) (show a.dep + 1 ≤ max a.dep b.dep + 1 by omega)
    have l2 := Nat.pow_le_pow_right (n := 5) (by omega) (show b.dep + 1 ≤ max a.dep b.dep + 1 by omega)
    simp only [Ex.nums, Ex.dep, Nat.pow_succ, List.length_append] at *; omega
  | .pick _ a b c d => by
    have h1 := nums_len a
    have h2 := nums_len b
    have h3 := nums_len c
    have h4 := nums_len d
    have l1 := Nat.pow_le_pow_right (n := 5) (by omega) (show a.dep + 1 ≤ max (max a.dep b.dep) (max c.dep d.dep) + 1 by omega)
    have l2 := Nat.pow_le_pow_right (n := 5) (by omega) (show b.dep + 1 ≤ max (max a.dep b.dep) (max c.dep d.dep) + 1 by omega)
    have l3 := Nat.pow_le_pow_right (n := 5) (by omega) (show c.dep + 1 ≤ max (max a.dep b.dep) (max c.dep d.dep) + 1 by omega)
    have l4 := Nat.pow_le_pow_right (n := 5) (by omega) (show d.dep + 1 ≤ max (max a.dep b.dep) (max c.dep d.dep) + 1 by omega)
    simp only [Ex.nums, Ex.dep, Nat.pow_succ, List.length_append] at *; omega
theorem pow59 {n : Nat} (h : n ≤ 8) : 5 ^ (n + 1) ≤ 1953125 := Nat.le_trans (Nat.pow_le_pow_right (by omega) (show n + 1 ≤ 9 by omega)) (by decide)
theorem nflat_take {e : Ex} {i : Nat} {c : Kid} (h : e.kids[i]? = some c) : ((e.kids.take (i + 1)).flatMap Kid.nums) = (e.kids.take i).flatMap Kid.nums ++ c.nums := by
  rw [List.take_add_one, h]; simp
theorem nflat_le {e : Ex} (i : Nat) (h : e.isNum = false) : (e.own ++ (e.kids.take i).flatMap Kid.nums).length ≤ e.nums.length := by
  rw [nums_kids h]
  conv => rhs; rw [← List.take_append_drop i e.kids]
  rw [List.flatMap_append, List.length_append, List.length_append, List.length_append]; omega
theorem hd_num {e : Ex} (h : e.isNum = false) : decide (e.hd = ([110, 117, 109, 98, 101, 114] : List Nat)) = false := by
  cases e with
  | bin o a b => cases o <;> rfl
  | num _ => cases h
  | _ => rfl
theorem c_nums : ∀ (n : Nat) (e : Ex), e.dep ≤ n → n ≤ 8 → ∀ {k : Nat}, n + 1 ≤ k → ∀ {h : PH} {Q : QV}, (∀ p, h p = none → Q (.ref p) (up h p (.lst (e.nums.map .int)))) → (wC k)._law_numbers_in [e.P] h Q := by
  intro n
  induction n with
  | zero => exact fun e he h9 {k} hk {h Q} q => body 0 (fun c hc => absurd hc (by omega)) e he h9 hk q
  | succ n ih => exact fun e he h9 {k} hk {h Q} q => body (n + 1) (fun c hc => by
      intro k' hk' h' Q' q'
      exact ih c (by omega) (by omega) (by omega) q') e he h9 hk q
where
  body (n : Nat) (ih : ∀ c : Ex, c.dep + 1 ≤ n → ∀ {k : Nat}, n ≤ k → ∀ {h : PH} {Q : QV}, (∀ p, h p = none → Q (.ref p) (up h p (.lst (c.nums.map .int)))) → (wC k)._law_numbers_in [c.P] h Q) (e : Ex) (he : e.dep ≤ n) (h9 : n ≤ 8) {k : Nat} (hk : n + 1 ≤ k) {h : PH} {Q : QV}
      (q : ∀ p, h p = none → Q (.ref p) (up h p (.lst (e.nums.map .int)))) : (wC k)._law_numbers_in [e.P] h Q := by
    obtain ⟨k, rfl⟩ : ∃ j, k = j + 1 := ⟨k - 1, by omega⟩
    show zFn _ _ (b__law_numbers_in (wC k)) _ h Q
    unfold b__law_numbers_in
    cases hn : e.isNum with
    | true =>
      cases e <;> first | (cases hn; done) | skip
      rename_i m
      simp only [Ex.P]
      dsimp! []
      rw [zSeq_x]; dsimp! []
      exact ⟨by decide, fun p np => ⟨_, G.Sub.refl _, q p np⟩⟩
    | false =>
    cases hc : e.isCell with
    | true =>
      cases e <;> first | (cases hc; done) | skip
      rename_i x os
      simp only [Ex.P]
      dsimp! []
      rw [zSeq_x]; dsimp! [show decide (([99, 101, 108, 108] : List Nat) = ([110, 117, 109, 98, 101, 114] : List Nat)) = false from rfl]
      refine ⟨by decide, fun p0 np0 => ?_⟩
      rw [zSeq_x]; dsimp! [show decide (([99, 101, 108, 108] : List Nat) = ([115, 99, 97, 108, 101] : List Nat)) = false from rfl]
      rw [zSeq_x]
      dsimp! [cut_from (show (0 : Int) ≤ 1 by omega), show (1 : Int).toNat = 1 from rfl, List.drop_succ_cons, List.drop_zero]
      refine forW_V (fun i ρ' h' => ∃ (x' : Option PV), ρ' = [some (.tup [(PV.str [99, 101, 108, 108]), .str x, .tup (os.map .int)]), some (.ref p0), x'] ∧ h' = up h p0 (.lst [])) ⟨none, rfl, rfl⟩ ?_ ?_
      · rintro i _ _ p ep ⟨x', rfl, rfl⟩
        have hp : p = .str x ∨ p = .tup (os.map .int) := by
          match i, ep with
          | 0, ep => left; simpa using ep.symm
          | 1, ep => right; simpa using ep.symm
          | j + 2, ep => simp at ep
        rcases hp with rfl | rfl
        · dsimp! [show decide (Ty.tuple = Ty.str) = false from rfl]
          exact ⟨_, G.Sub.refl _, some (.str x), rfl, rfl⟩
        · dsimp! [show decide (Ty.tuple = Ty.tuple) = true from rfl, Bool.not_true]
          exact ⟨_, G.Sub.refl _, some (.tup (os.map .int)), rfl, rfl⟩
      · rintro _ _ ⟨x', rfl, rfl⟩
        dsimp! []
        exact ⟨_, G.Sub.refl _, q p0 np0⟩
    | false =>
      rw [Ex.P_kids hc]
      dsimp! []
      rw [zSeq_x]; dsimp! [hd_num hn]
      refine ⟨by decide, fun p0 np0 => ?_⟩
      refine zSeq_key (fun ρ' h' => ρ' = [some (.tup (.str e.hd :: e.kids.map Kid.P)), some (.ref p0), none] ∧ h' = up h p0 (.lst (e.own.map .int))) ?_ fun X kx => ?_
      rotate_left
      · by_cases hs : e.hd = ([115, 99, 97, 108, 101] : List Nat)
        · dsimp! [hs]
          cases e with
          | scl m a =>
            simp only [Ex.kids, List.map_cons, List.map_nil, Kid.P]
            dsimp! []
            exact ⟨by decide, kx _ _ ⟨rfl, rfl⟩⟩
          | bin o a b => cases o <;> (revert hs; simp [Ex.hd, Op2.cs])
          | num _ => revert hs; simp [Ex.hd]
          | ctr _ => revert hs; simp [Ex.hd]
          | cell _ _ => revert hs; simp [Ex.hd]
          | neg _ => revert hs; simp [Ex.hd]
          | pick _ _ _ _ _ => revert hs; simp [Ex.hd]
        · dsimp! [hs]
          refine kx _ _ ⟨rfl, ?_⟩
          have : e.own = [] := by cases e <;> first | rfl | exact absurd rfl hs
          rw [this]; rfl
      rintro _ _ ⟨rfl, rfl⟩
      rw [zSeq_x]
      dsimp! [cut_from (show (0 : Int) ≤ 1 by omega), show (1 : Int).toNat = 1 from rfl, List.drop_succ_cons, List.drop_zero]
      refine forW_V (fun i ρ' h' => ∃ (p : Addr) (x : Option PV), ρ' = [some (.tup (.str e.hd :: e.kids.map Kid.P)), some (.ref p), x] ∧ Kp [] h h' ∧ h p = none ∧ h' p = some (.lst ((e.own ++ (e.kids.take i).flatMap Kid.nums).map .int))) ⟨p0, none, rfl, kp_new np0, np0, by rw [up_same]; simp⟩ ?_ ?_
      · rintro i _ h1 p ep ⟨pl, x, rfl, k1, n1, e1⟩
        rw [List.getElem?_map] at ep
        obtain ⟨c, ec, rfl⟩ := Option.map_eq_some_iff.mp ep
        cases c with
        | val v =>
          have fin : ∃ h2, G.Sub h2 h1 ∧ ∃ (p : Addr) (x : Option PV), [some (PV.tup (.str e.hd :: e.kids.map Kid.P)), some (.ref pl), some v] = [some (.tup (.str e.hd :: e.kids.map Kid.P)), some (.ref p), x] ∧ Kp [] h h2 ∧ h p = none ∧ h2 p = some (.lst ((e.own ++ (e.kids.take (i + 1)).flatMap Kid.nums).map .int)) :=
            ⟨h1, G.Sub.refl _, pl, some v, rfl, k1, n1, by rw [nflat_take ec]; simpa [Kid.nums] using e1⟩
          rcases kid_val (List.mem_of_getElem? ec) with ⟨m, rfl⟩ | ⟨m, rfl⟩
          · simp only [Kid.P]
            dsimp! [show decide (Ty.tuple = Ty.int) = false from rfl]
            exact fin
          · simp only [Kid.P]
            dsimp! [show decide (Ty.tuple = Ty.str) = false from rfl]
            exact fin
        | ex c =>
          obtain ⟨r, er⟩ := Ex.P_tup c
          simp only [Kid.P]
          have hcall : (wC k)._law_numbers_in [c.P] h1 (fun q h2 => zAdd (.ref pl) q h2 fun p h1 => ∃ h2, G.Sub h2 h1 ∧ ∃ (p_1 : Addr) (x : Option PV), [some (PV.tup (.str e.hd :: e.kids.map Kid.P)), some p, some c.P] = [some (.tup (.str e.hd :: e.kids.map Kid.P)), some (.ref p_1), x] ∧ Kp [] h h2 ∧ h p_1 = none ∧ h2 p_1 = some (.lst ((e.own ++ (e.kids.take (i + 1)).flatMap Kid.nums).map .int))) := by
            have hcd := kid_dep (List.mem_of_getElem? ec)
            refine ih c (by omega) (by omega) fun p2 n2 => ?_
            have ne : pl ≠ p2 := by rintro rfl; rw [e1] at n2; cases n2
            dsimp! [up_ne ne, e1]
            refine ⟨?_, fun p3 n3 => ?_⟩
            · have b1 := nflat_le i hn
              have b2 := nums_len e
              have b3 := pow59 (show e.dep ≤ 8 by omega)
              have b4 := nums_len c
              have b5 := pow59 (show c.dep ≤ 8 by omega)
              rw [sizeLine_eq, List.length_map, List.length_map]; omega
            · have k3 : Kp [] h (up (up h1 p2 (.lst (c.nums.map .int))) p3 (.lst ((e.own ++ (e.kids.take i).flatMap Kid.nums).map .int ++ c.nums.map .int))) := (k1.new n2).new n3
              exact ⟨_, G.Sub.refl _, p3, some c.P, rfl, k3, kp_fresh (k1.new n2) n3, by rw [up_same, nflat_take ec, ← List.append_assoc, List.map_append (l₁ := e.own ++ _)]; rfl⟩
          have hcd : decide (e.hd = ([99, 101, 108, 108] : List Nat)) = false := hd_cell hc
          rw [er] at hcall ⊢
          dsimp! [show decide (Ty.tuple = Ty.tuple) = true from rfl, hcd, Bool.not_false]
          exact hcall
      · rintro _ h1 ⟨pl, x, rfl, k1, n1, e1⟩
        rw [List.length_map, List.take_length, ← nums_kids hn] at e1
        dsimp! []
        exact new_out k1 n1 e1 (q pl n1)

theorem hd_pl (e : Ex) : (PV.str e.hd).pl = true := by
  cases e with
  | bin o a b => cases o <;> rfl
  | _ => rfl
theorem dp_str (x : List Nat) : (PV.str x).dp = 0 := rfl
theorem ints_app {l : List Int} : intsP (l.map .int) = some l := ints_map l
/-- how many tokens: some whole number -/
theorem c_tokens : ∀ (n : Nat) (e : Ex), e.dep ≤ n → e.wf → ∀ {k : Nat}, n + 1 ≤ k → ∀ {ov : List PV} {h : PH} {Q : QV}, (∀ z : Int, Q (.int z) h) → (wC k)._law_token_count [.tup ov, e.P] h Q := by
  intro n
  induction n with
  | zero => exact fun e he hw {k} hk {ov h Q} q => body 0 (fun c hc => absurd hc (by omega)) e he hw hk q
  | succ n ih => exact fun e he hw {k} hk {ov h Q} q => body (n + 1) (fun c hc hw => by
      intro k' hk' ov' h' Q' q'
      exact ih c (by omega) hw (by omega) q') e he hw hk q
where
  body (n : Nat) (ih : ∀ c : Ex, c.dep + 1 ≤ n → c.wf → ∀ {k : Nat}, n ≤ k → ∀ {ov : List PV} {h : PH} {Q : QV}, (∀ z : Int, Q (.int z) h) → (wC k)._law_token_count [.tup ov, c.P] h Q) (e : Ex) (he : e.dep ≤ n) (hw : e.wf) {k : Nat} (hk : n + 1 ≤ k) {ov : List PV} {h : PH} {Q : QV}
      (q : ∀ z : Int, Q (.int z) h) : (wC k)._law_token_count [.tup ov, e.P] h Q := by
    obtain ⟨k, rfl⟩ : ∃ j, k = j + 1 := ⟨k - 1, by omega⟩
    show zFn _ _ (b__law_token_count (wC k)) _ h Q
    unfold b__law_token_count
    have two : ∀ z : Int, CMulA 2 z := fun z => mulR ⟨by decide, by decide⟩
    have inb : ∀ (b : Bool) (z : Int) (h1 : PH), G.Sub h h1 → ∃ h2, G.Sub h2 h1 ∧ Q (.int (z + 2 * (if b = true then 1 else 0))) h2 := fun b z h1 u => ⟨h, u, q _⟩
    have outz : ∀ (z : Int) (h1 : PH), G.Sub h h1 → ∃ h2, G.Sub h2 h1 ∧ Q (.int z) h2 := fun z h1 u => ⟨h, u, q _⟩
    have kid : ∀ (c : Ex) {h1 : PH} {R : QV}, Kid.ex c ∈ e.kids → (∀ z : Int, R (.int z) h1) → (wC k)._law_token_count [.tup ov, c.P] h1 R := fun c {h1 R} hc r => ih c (by have := kid_dep hc; omega) (kid_al hw hc) (by omega) r
    cases e with
    | num m =>
      simp only [Ex.P]
      dsimp! []
      rw [zSeq_x]; dsimp! []
      exact outz _ _ (G.Sub.refl _)
    | ctr m =>
      simp only [Ex.P]
      dsimp! []
      rw [zSeq_x]; dsimp! [show decide (([99, 111, 117, 110, 116, 101, 114] : List Nat) = ([110, 117, 109, 98, 101, 114] : List Nat)) = false from rfl]
      exact outz _ _ (G.Sub.refl _)
    | cell x os =>
      simp only [Ex.P]
      dsimp! []
      rw [zSeq_x]; dsimp! [show decide (([99, 101, 108, 108] : List Nat) = ([110, 117, 109, 98, 101, 114] : List Nat)) = false from rfl, show decide (([99, 101, 108, 108] : List Nat) = ([99, 111, 117, 110, 116, 101, 114] : List Nat)) = false from rfl]
      rw [zSeq_x]; dsimp! []
      refine ⟨two _, ?_⟩
      refine lcP_V (fun p => match p with | .int i => !decide (i = 0) | _ => true) (fun p => p) (by rw [sizeLine_eq, List.length_map]; have := hw.2; omega) (fun p hp R acc r => ?_) ?_
      · obtain ⟨i, _, rfl⟩ := List.mem_map.mp hp
        dsimp! []
        by_cases hi : i = 0
        · simp only [hi, decide_true, Bool.not_true, Bool.false_eq_true, if_false] at r ⊢
          exact r
        · simp only [hi, decide_false, Bool.not_false, if_true] at r ⊢
          exact r
      · intro D nD
        dsimp! []
        exact ⟨two _, outz _ _ (back_self nD)⟩
    | neg a =>
      obtain ⟨r, er⟩ := Ex.P_tup a
      simp only [Ex.P]
      dsimp! []
      rw [zSeq_x]; dsimp! [show decide (([110, 101, 103, 97, 116, 101] : List Nat) = ([110, 117, 109, 98, 101, 114] : List Nat)) = false from rfl, show decide (([110, 101, 103, 97, 116, 101] : List Nat) = ([99, 111, 117, 110, 116, 101, 114] : List Nat)) = false from rfl]
      rw [zSeq_x]; dsimp! [show decide (([110, 101, 103, 97, 116, 101] : List Nat) = ([99, 101, 108, 108] : List Nat)) = false from rfl]
      rw [zSeq_x]; dsimp! []
      refine kid a (by simp [Ex.kids]) fun z => ?_
      rw [er]
      dsimp! []
      refine ⟨by decide, fun p np => ?_⟩
      dsimp! [hd_pl a]
      exact ⟨by show 0 ≤ 64; omega, rfl, by decide, two _, inb _ _ _ (back_self np)⟩
    | scl m a =>
      obtain ⟨r, er⟩ := Ex.P_tup a
      simp only [Ex.P]
      dsimp! []
      rw [zSeq_x]; dsimp! [show decide (([115, 99, 97, 108, 101] : List Nat) = ([110, 117, 109, 98, 101, 114] : List Nat)) = false from rfl, show decide (([115, 99, 97, 108, 101] : List Nat) = ([99, 111, 117, 110, 116, 101, 114] : List Nat)) = false from rfl]
      rw [zSeq_x]; dsimp! [show decide (([115, 99, 97, 108, 101] : List Nat) = ([99, 101, 108, 108] : List Nat)) = false from rfl]
      rw [zSeq_x]; dsimp! [show decide (([115, 99, 97, 108, 101] : List Nat) = ([110, 101, 103, 97, 116, 101] : List Nat)) = false from rfl]
      rw [zSeq_x]; dsimp! []
      refine kid a (by simp [Ex.kids]) fun z => ?_
      rw [er]
      dsimp! []
      refine ⟨by decide, fun p np => ?_⟩
      dsimp! [hd_pl a]
      exact ⟨by show 0 ≤ 64; omega, rfl, by decide, two _, inb _ _ _ (back_self np)⟩
    | bin o a b =>
      obtain ⟨r, er⟩ := Ex.P_tup b
      obtain ⟨ra, era⟩ := Ex.P_tup a
      have hh : decide (o.cs = ([110, 117, 109, 98, 101, 114] : List Nat)) = false ∧ decide (o.cs = ([99, 111, 117, 110, 116, 101, 114] : List Nat)) = false ∧ decide (o.cs = ([99, 101, 108, 108] : List Nat)) = false ∧ decide (o.cs = ([110, 101, 103, 97, 116, 101] : List Nat)) = false ∧ decide (o.cs = ([115, 99, 97, 108, 101] : List Nat)) = false ∧ decide (o.cs = ([112, 105, 99, 107] : List Nat)) = false := by cases o <;> decide
      simp only [Ex.P]
      dsimp! []
      rw [zSeq_x]; dsimp! [hh.1, hh.2.1]
      rw [zSeq_x]; dsimp! [hh.2.2.1]
      rw [zSeq_x]; dsimp! [hh.2.2.2.1]
      rw [zSeq_x]; dsimp! [hh.2.2.2.2.1]
      dsimp! [cut_from (show (0 : Int) ≤ 1 by omega), show (1 : Int).toNat = 1 from rfl, List.drop_succ_cons, List.drop_zero]
      refine lcW_V (ps := [a.P, b.P]) (by show 2 ≤ sizeLine; decide) (fun i acc h' => h = h' ∧ ∃ zs : List Int, acc = zs.map .int ∧ zs.length = i) ⟨rfl, [], rfl, rfl⟩ (fun i acc h' ⟨_, zs, e1, e2⟩ => by rw [e1, List.length_map, e2]; exact Nat.le_refl _) ?_ ?_
      · rintro i _ _ p ep ⟨rfl, zs, rfl, lz⟩
        have hp : ∃ c : Ex, p = c.P ∧ Kid.ex c ∈ (Ex.bin o a b).kids := by
          match i, ep with
          | 0, ep => exact ⟨a, by simpa using ep.symm, by simp [Ex.kids]⟩
          | 1, ep => exact ⟨b, by simpa using ep.symm, by simp [Ex.kids]⟩
          | j + 2, ep => simp at ep
        obtain ⟨c, rfl, hc⟩ := hp
        obtain ⟨rc, erc⟩ := Ex.P_tup c
        have hcall := kid c hc (h1 := h) (R := fun y h4 => ∃ h5, G.Sub h5 h4 ∧ h = h5 ∧ ∃ zs' : List Int, zs.map .int ++ [y] = zs'.map .int ∧ zs'.length = i + 1) fun z => ⟨h, G.Sub.refl _, rfl, zs ++ [z], by simp, by simp [lz]⟩
        rw [erc] at hcall ⊢
        dsimp! [show decide (Ty.tuple = Ty.tuple) = true from rfl]
        exact hcall
      · rintro _ _ ⟨rfl, zs, rfl, lz⟩ D nD
        dsimp! [ints_map]
        rw [zSeq_x]; dsimp! [hh.2.2.2.2.2]
        rw [zSeq_x]
        by_cases hpm : o.cs = ([112, 108, 117, 115] : List Nat) ∨ o.cs = ([109, 105, 110, 117, 115] : List Nat)
        · have e2 : b.P = .tup (.str b.hd :: r) := er
          have hif : ∀ {α : Prop}, True := fun {α} => trivial
          rcases hpm with hp | hp
          · dsimp! [hp, er]
            refine ⟨by decide, fun p np => ?_⟩
            dsimp! [hd_pl b]
            exact ⟨by show 0 ≤ 64; omega, rfl, by decide, two _, inb _ _ _ ((back_self nD).trans (back_self np))⟩
          · dsimp! [hp, er, show decide (([109, 105, 110, 117, 115] : List Nat) = ([112, 108, 117, 115] : List Nat)) = false from rfl]
            refine ⟨by decide, fun p np => ?_⟩
            dsimp! [hd_pl b]
            exact ⟨by show 0 ≤ 64; omega, rfl, by decide, two _, inb _ _ _ ((back_self nD).trans (back_self np))⟩
        · have h1 : decide (o.cs = ([112, 108, 117, 115] : List Nat)) = false := decide_eq_false fun z => hpm (.inl z)
          have h2 : decide (o.cs = ([109, 105, 110, 117, 115] : List Nat)) = false := decide_eq_false fun z => hpm (.inr z)
          dsimp! [h1, h2]
          exact outz _ _ (back_self nD)
    | pick s a b c d =>
      simp only [Ex.P]
      dsimp! []
      rw [zSeq_x]; dsimp! [show decide (([112, 105, 99, 107] : List Nat) = ([110, 117, 109, 98, 101, 114] : List Nat)) = false from rfl, show decide (([112, 105, 99, 107] : List Nat) = ([99, 111, 117, 110, 116, 101, 114] : List Nat)) = false from rfl]
      rw [zSeq_x]; dsimp! [show decide (([112, 105, 99, 107] : List Nat) = ([99, 101, 108, 108] : List Nat)) = false from rfl]
      rw [zSeq_x]; dsimp! [show decide (([112, 105, 99, 107] : List Nat) = ([110, 101, 103, 97, 116, 101] : List Nat)) = false from rfl]
      rw [zSeq_x]; dsimp! [show decide (([112, 105, 99, 107] : List Nat) = ([115, 99, 97, 108, 101] : List Nat)) = false from rfl]
      dsimp! [cut_from (show (0 : Int) ≤ 1 by omega), show (1 : Int).toNat = 1 from rfl, List.drop_succ_cons, List.drop_zero]
      refine lcW_V (ps := [.str s.cs, a.P, b.P, c.P, d.P]) (by show 5 ≤ sizeLine; decide) (fun i acc h' => h = h' ∧ ∃ zs : List Int, acc = zs.map .int ∧ zs.length ≤ i) ⟨rfl, [], rfl, Nat.zero_le _⟩ (fun i acc h' ⟨_, zs, e1, e2⟩ => by rw [e1, List.length_map]; exact e2) ?_ ?_
      · rintro i _ _ p ep ⟨rfl, zs, rfl, lz⟩
        have hp : p = .str s.cs ∨ ∃ c' : Ex, p = c'.P ∧ Kid.ex c' ∈ (Ex.pick s a b c d).kids := by
          match i, ep with
          | 0, ep => left; simpa using ep.symm
          | 1, ep => exact .inr ⟨a, by simpa using ep.symm, by simp [Ex.kids]⟩
          | 2, ep => exact .inr ⟨b, by simpa using ep.symm, by simp [Ex.kids]⟩
          | 3, ep => exact .inr ⟨c, by simpa using ep.symm, by simp [Ex.kids]⟩
          | 4, ep => exact .inr ⟨d, by simpa using ep.symm, by simp [Ex.kids]⟩
          | j + 5, ep => simp at ep
        rcases hp with rfl | ⟨c', rfl, hc⟩
        · dsimp! [show decide (Ty.tuple = Ty.str) = false from rfl]
          exact ⟨h, G.Sub.refl _, rfl, zs, rfl, by omega⟩
        · obtain ⟨rc, erc⟩ := Ex.P_tup c'
          have hcall := kid c' hc (h1 := h) (R := fun y h4 => ∃ h5, G.Sub h5 h4 ∧ h = h5 ∧ ∃ zs' : List Int, zs.map .int ++ [y] = zs'.map .int ∧ zs'.length ≤ i + 1) fun z => ⟨h, G.Sub.refl _, rfl, zs ++ [z], by simp, by simp; omega⟩
          rw [erc] at hcall ⊢
          dsimp! [show decide (Ty.tuple = Ty.tuple) = true from rfl]
          exact hcall
      · rintro _ _ ⟨rfl, zs, rfl, lz⟩ D nD
        dsimp! [ints_map]
        rw [zSeq_x]; dsimp! []
        exact outz _ _ (back_self nD)
/-- whether a line can be read: some answer -/
theorem c_read {k n : Nat} {e : Ex} {x : List Nat} {rim : Int} {ov : List PV} {h : PH} {Q : QV} (hd : e.dep ≤ n) (hn : n ≤ 8) (hw : e.wf) (hk : n + 2 ≤ k) (q : ∀ b : Bool, Q (.bl b) h) : (wC k)._law_can_be_read [.tup ov, .tup [.str x, .int rim, e.P]] h Q := by
  obtain ⟨k, rfl⟩ : ∃ j, k = j + 1 := ⟨k - 1, by omega⟩
  show zFn _ _ (b__law_can_be_read (wC k)) _ h Q
  unfold b__law_can_be_read
  dsimp! []
  refine ⟨mulR ⟨by decide, by decide⟩, ?_⟩
  refine zSeq_key (fun ρ' h' => ∃ z : Int, ρ' = [some (.tup ov), some (.tup [.str x, .int rim, e.P]), some (.int z), none] ∧ Kp [] h h') ?_ fun X kx => ?_
  rotate_left
  · dsimp! []
    refine c_tokens n e hd hw (by omega) fun z => ?_
    dsimp! []
    by_cases hz : 80 < 3 + 2 * (if (!decide (rim = 0)) = true then 1 else 0) + (if decide (rim < 0) = true then 1 else 0) + z
    · dsimp! [hz]
      exact ⟨h, G.Sub.refl _, q _⟩
    · dsimp! [hz]
      refine c_refs n e hd (by omega) (by omega) fun p np => ?_
      dsimp! []
      by_cases hz2 : (12 : Int) < ((e.refs.map refP).length : Nat)
      · simp only [hz2, decide_true, if_true]
        exact ⟨h, back_self np, q _⟩
      · simp only [hz2, decide_false, Bool.false_eq_true, if_false]
        exact kx _ _ ⟨_, rfl, kp_new np⟩
  · rintro _ h1 ⟨z, rfl, k1⟩
    dsimp! []
    refine c_nums n e hd hn (by omega) fun p np => ?_
    dsimp! []
    have b2 := nums_len e
    have b3 := pow59 (show e.dep ≤ 8 by omega)
    refine lcP_L (ps := e.nums.map .int) (fun _ => true) (fun p => match p with | .int i => .bl (decide (i < 10 ^ (6 : Int).toNat)) | _ => .bl true) (by rw [sizeLine_eq, List.length_map]; omega) up_same (fun p hp R acc r => ?_) ?_
    · obtain ⟨i, _, rfl⟩ := List.mem_map.mp hp
      dsimp! []
      refine ⟨⟨by decide, by decide, by decide⟩, ?_⟩
      simpa using r
    · intro D nD
      have e1 : (((e.nums.map PV.int).filter fun _ => true).map fun p => match p with | .int i => PV.bl (decide (i < 10 ^ (6 : Int).toNat)) | _ => .bl true) = (e.nums.map fun i => decide (i < 10 ^ (6 : Int).toNat)).map .bl := by
        rw [List.filter_eq_self.mpr (by simp), List.map_map, List.map_map]; rfl
      have bm : ∀ l : List Bool, blsP (l.map .bl) = some l := by
        intro l
        induction l with
        | nil => rfl
        | cons x l ih => simp [blsP, ih]
      rw [e1]
      dsimp! [bm]
      exact ⟨h, sub_of_kp ((k1.new np).new nD), q _⟩

theorem c_with_row {k : Nat} (hk : 2 ≤ k) {W : Wd} (ok : W.ok) {A : Wa} {a s : Addr} {ns : List Int} {least : Int} {h : PH} {Q : QV} {kvs : List (PV × PV)} (d : DS a ns s h) (o : A.ok s a) (w : WB W A h kvs) (hr : W.row = none) (hl : kvs.length ≤ 12)
    (q : ∀ (row : List Int) (nums : List Nat → Int) (A' : Wa) (kvs' : List (PV × PV)) h', row.length = W.many → A'.w = A.w → A'.ok s a → WB { W with row := some row, nums := nums, least := least } A' h' kvs' → kvs'.length ≤ 15 → DS a ns s h' → Kp [s, A.w] h h' → Q .non h') : (wC k)._law_with_row [.ref s, .ref A.w, .int least] h Q := by
  obtain ⟨k, rfl⟩ : ∃ j, k = j + 1 := ⟨k - 1, by omega⟩
  show zFn _ _ (b__law_with_row (wC k)) _ h Q
  unfold b__law_with_row
  have kz : ∀ z, keyOk false (.str z) = true := fun _ => rfl
  have hmany := ok.many
  dsimp! [w.dic, kz, w.many]
  refine ⟨by omega, by omega, ?_⟩
  refine lcW_R (by rw [sizeLine_eq]; omega) (fun i acc h' => ∃ os : List Int, acc = os.map .int ∧ os.length = i ∧ DS a ns s h' ∧ G.Fr [s] h h') ⟨[], rfl, rfl, d, G.Fr.refl _ _⟩ (fun i acc h' ⟨os, e, l, _⟩ => by rw [e, List.length_map, l]; exact Nat.le_refl _) ?_ ?_
  · rintro i _ h1 hi ⟨os, rfl, l, d1, f1⟩
    dsimp! []
    refine c_draw (by omega) d1 (by omega) (by omega) fun v h2 v0 v1 d2 f2 => ?_
    dsimp! []
    exact ⟨h2, G.Sub.refl _, os ++ [v - 2], by simp, by simp [l], d2, f1.trans f2⟩
  rintro _ h1 ⟨row0, rfl, lr0, d1, f1⟩ D nD
  have lr : row0.length = W.many := by omega
  have w1 := w.fr o f1
  have hDs := d1.ne nD
  have hDw : D ≠ A.w := by rintro rfl; rw [w1.dic] at nD; cases nD
  have nDh : h D = none := by rw [← f1 D (by simpa using hDs)]; exact nD
  have w2 := w1.put nD (x := .lst (row0.map .int))
  have d2 := d1.new nD (o := .lst (row0.map .int))
  have up2 : ∀ {g g' : PH}, G.Fr [s] g g' → Kp [s, A.w] g g' := fun f b o' n e => (f b (by simp at n ⊢; exact n.1)).trans e
  have k2 : Kp [s, A.w] h (up h1 D (.lst (row0.map .int))) := (up2 f1).new nD
  have r2 : up h1 D (.lst (row0.map .int)) D = some (.lst (row0.map .int)) := up_same
  have hrow := w2.row.1 hr
  dsimp! [w2.dic, kz]
  refine ⟨by rw [sizeLine_eq]; omega, ?_⟩
  -- row is set: what lies at the other names stays
  have oth : ∀ {kv : List (PV × PV)} {k1 v1 : PV} {k' v' : PV}, k1 ∈ [(PV.str [114, 111, 119]), (PV.str [110, 117, 109, 98, 101, 114, 115]), (PV.str [108, 101, 97, 115, 116])] → k' ∈ [(PV.str [111, 118, 101, 114]), (PV.str [109, 97, 110, 121]), (PV.str [109, 111, 115, 116]), (PV.str [114, 117, 108, 101, 95, 110, 97, 109, 101, 115]), (PV.str [103, 105, 118, 101, 110, 95, 110, 97, 109, 101, 115])] → dget kv k' = some v' → dget (dput kv k1 v1) k' = some v' := fun {kv k1 v1 k' v'} m1 m2 e => by
    rw [dget_dput, if_neg (by rintro rfl; simp only [List.mem_cons, List.not_mem_nil, or_false] at m1; rcases m1 with rfl | rfl | rfl <;> revert m2 <;> decide)]; exact e
  generalize up h1 D (.lst (row0.map .int)) = h2 at w2 d2 k2 r2 ⊢
  have l3 := len_dput_old (v := .ref D) hrow
  refine ⟨by decide, fun p np => ?_⟩
  have hpD : D ≠ p := by
    rintro rfl
    rw [up_ne hDw] at np; rw [r2] at np; cases np
  have hpw : A.w ≠ p := by rintro rfl; rw [up_same] at np; cases np
  have hps : p ≠ s := by
    rintro rfl
    obtain ⟨_, _, i, c, m, e⟩ := d2
    rw [up_ne o.w.1.symm] at np
    rw [e] at np; cases np
  have hpa : p ≠ a := by
    rintro rfl
    obtain ⟨_, e, _⟩ := d2
    rw [up_ne o.w.2.symm] at np
    rw [e] at np; cases np
  have nph : h p = none := by
    cases e : h p with
    | none => rfl
    | some ob =>
      have := k2 p ob (by simp [hps, hpw.symm]) e
      rw [up_ne hpw.symm, this] at np; cases np
  have d3 : DS a ns s (up (up h2 A.w (.dic false none (dput kvs (PV.str [114, 111, 119]) (.ref D)))) p (.lst [.int 1, .int (-1), .int 2])) := (d2.put o.w.2 o.w.1).put hpa hps
  refine c_draw (by omega) d3 (by omega) (by omega) fun v h4 v0 v1 d4 f4 => ?_
  have e4 : ∀ b, b ≠ s → h4 b = up (up h2 A.w (.dic false none (dput kvs (PV.str [114, 111, 119]) (.ref D)))) p (.lst [.int 1, .int (-1), .int 2]) b := fun b n => f4 b (by simpa using n)
  have p4 : h4 p = some (.lst [.int 1, .int (-1), .int 2]) := (e4 p hps).trans up_same
  obtain ⟨z, ez⟩ : ∃ z : Int, atI [PV.int 1, PV.int (-1), PV.int 2] v = some (.int z) := by
    rcases (show v = 0 ∨ v = 1 ∨ v = 2 by omega) with rfl | rfl | rfl
    · exact ⟨1, at0⟩
    · exact ⟨-1, at1⟩
    · exact ⟨2, at2⟩
  have w4 : h4 A.w = some (.dic false none (dput kvs (PV.str [114, 111, 119]) (.ref D))) := by rw [e4 _ o.w.1, up_ne hpw, up_same]
  have D4 : h4 D = some (.lst (row0.map .int)) := by rw [e4 _ hDs, up_ne hpD, up_ne hDw]; exact r2
  have gm : ∀ {k' v' : PV}, k' ∈ [(PV.str [111, 118, 101, 114]), (PV.str [109, 97, 110, 121]), (PV.str [109, 111, 115, 116]), (PV.str [114, 117, 108, 101, 95, 110, 97, 109, 101, 115]), (PV.str [103, 105, 118, 101, 110, 95, 110, 97, 109, 101, 115])] → dget kvs k' = some v' → dget (dput kvs (PV.str [114, 111, 119]) (.ref D)) k' = some v' := fun m e => oth (by simp) m e
  dsimp! [p4, ez, w4, kz, dget_dput, gm (k' := (PV.str [109, 97, 110, 121])) (by simp) w2.many, reduceCtorEq]
  refine c_draw (by omega) d4 (by omega) (by omega) fun i h5 i0 i1 d5 f5 => ?_
  have e5 : ∀ b, b ≠ s → h5 b = h4 b := fun b n => f5 b (by simpa using n)
  obtain ⟨j, rfl⟩ : ∃ j : Nat, i = (j : Int) := ⟨i.toNat, by omega⟩
  have D5 : h5 D = some (.lst (row0.map .int)) := (e5 _ hDs).trans D4
  dsimp! [D5, ixN_n (n := (row0.map PV.int).length) (i := j) (by rw [List.length_map]; omega), zDn_x]
  refine ⟨false, fun nd nnd => ?_⟩
  have w5 : h5 A.w = some (.dic false none (dput kvs (PV.str [114, 111, 119]) (.ref D))) := (e5 _ o.w.1).trans w4
  have hndD : D ≠ nd := by rintro rfl; rw [up_same] at nnd; cases nnd
  rw [up_ne hndD.symm] at nnd
  have hndw : A.w ≠ nd := by rintro rfl; rw [w5] at nnd; cases nnd
  have hnds : nd ≠ s := d5.ne nnd
  have hnda : nd ≠ a := d5.nea nnd
  have hDa : D ≠ a := by
    rintro rfl
    obtain ⟨_, e, _⟩ := d
    rw [nDh] at e; cases e
  have n5 : ∀ b, b ≠ s → b ≠ p → b ≠ A.w → h5 b = h2 b := fun b b1 b2 b3 => by rw [e5 b b1, e4 b b1, up_ne b2, up_ne b3]
  have ndh : h nd = none := by
    cases e : h nd with
    | none => rfl
    | some ob =>
      have x := k2 nd ob (by simp [hnds, hndw.symm]) e
      by_cases hp : nd = p
      · subst hp; rw [nph] at e; cases e
      · rw [n5 nd hnds hp hndw.symm, x] at nnd; cases nnd
  dsimp! [up_ne hndw, up_ne hDw.symm, w5, kz]
  refine ⟨by rw [sizeLine_eq]; omega, ?_⟩
  have l6 := len_dput (dput kvs (PV.str [114, 111, 119]) (.ref D)) (PV.str [110, 117, 109, 98, 101, 114, 115]) (.ref nd)
  have hrA : ∀ {b : Addr} {ob : PO}, h b = some ob → b ≠ s → b ≠ A.w → up (up (up h5 D (.lst ((row0.set j z).map .int))) nd (.dic false none [])) A.w (.dic false none (dput (dput kvs (PV.str [114, 111, 119]) (.ref D)) (PV.str [110, 117, 109, 98, 101, 114, 115]) (.ref nd))) b = some ob := fun {b ob} e b1 b2 => by
    have x := k2 b ob (by simp [b1, b2]) e
    have hbp : b ≠ p := by rintro rfl; rw [nph] at e; cases e
    have hbD : b ≠ D := by rintro rfl; rw [nDh] at e; cases e
    have hbn : b ≠ nd := by rintro rfl; rw [ndh] at e; cases e
    rw [up_ne b2, up_ne hbn, up_ne hbD, n5 b b1 hbp b2]; exact x
  have W6 : up (up (up h5 D (.lst ((row0.set j z).map .int))) nd (.dic false none [])) A.w (.dic false none (dput (dput kvs (PV.str [114, 111, 119]) (.ref D)) (PV.str [110, 117, 109, 98, 101, 114, 115]) (.ref nd))) A.w = some (.dic false none (dput (dput kvs (PV.str [114, 111, 119]) (.ref D)) (PV.str [110, 117, 109, 98, 101, 114, 115]) (.ref nd))) := up_same
  have D6 : up (up (up h5 D (.lst ((row0.set j z).map .int))) nd (.dic false none [])) A.w (.dic false none (dput (dput kvs (PV.str [114, 111, 119]) (.ref D)) (PV.str [110, 117, 109, 98, 101, 114, 115]) (.ref nd))) D = some (.lst ((row0.set j z).map .int)) := by rw [up_ne hDw, up_ne hndD, up_same]
  have N6 : up (up (up h5 D (.lst ((row0.set j z).map .int))) nd (.dic false none [])) A.w (.dic false none (dput (dput kvs (PV.str [114, 111, 119]) (.ref D)) (PV.str [110, 117, 109, 98, 101, 114, 115]) (.ref nd))) nd = some (.dic false none []) := by rw [up_ne hndw.symm, up_same]
  have S6 : DS a ns s (up (up (up h5 D (.lst ((row0.set j z).map .int))) nd (.dic false none [])) A.w (.dic false none (dput (dput kvs (PV.str [114, 111, 119]) (.ref D)) (PV.str [110, 117, 109, 98, 101, 114, 115]) (.ref nd)))) := ((d5.put hDa hDs).put hnda hnds).put o.w.2 o.w.1
  rw [← List.map_set]
  generalize up (up (up h5 D (.lst ((row0.set j z).map .int))) nd (.dic false none [])) A.w (.dic false none (dput (dput kvs (PV.str [114, 111, 119]) (.ref D)) (PV.str [110, 117, 109, 98, 101, 114, 115]) (.ref nd))) = H6 at hrA W6 D6 N6 S6 ⊢
  have K6 : Kp [s, A.w] h H6 := fun b ob nb e => hrA e (by simp at nb; exact nb.1) (by simp at nb; exact nb.2)
  have R6 : H6 A.r = some (.lst (W.rn.map .str)) := hrA w.rl o.r.1 o.r.2
  have G6 : H6 A.g = some (.lst (W.gn.map .str)) := hrA w.gl o.g.1 o.g.2
  have hnr : nd ≠ A.r := by rintro rfl; rw [w.rl] at ndh; cases ndh
  have hng : nd ≠ A.g := by rintro rfl; rw [w.gl] at ndh; cases ndh
  have gm6 : ∀ {k' v' : PV}, k' ∈ [(PV.str [111, 118, 101, 114]), (PV.str [109, 97, 110, 121]), (PV.str [109, 111, 115, 116]), (PV.str [114, 117, 108, 101, 95, 110, 97, 109, 101, 115]), (PV.str [103, 105, 118, 101, 110, 95, 110, 97, 109, 101, 115])] → dget kvs k' = some v' → dget (dput (dput kvs (PV.str [114, 111, 119]) (.ref D)) (PV.str [110, 117, 109, 98, 101, 114, 115]) (.ref nd)) k' = some v' := fun m e => oth (by simp) m (oth (by simp) m e)
  rw [zSeq_x]
  dsimp! [W6, kz, gm6 (k' := (PV.str [114, 117, 108, 101, 95, 110, 97, 109, 101, 115])) (by simp) w.rule, R6]
  refine forW_L (ps := W.rn.map .str) (fun i ρ' h' => ∃ (nk : List (PV × PV)) (x : Option PV), ρ' = [some (.ref s), some (.ref A.w), some (.int least), x, none] ∧ DS a ns s h' ∧ (∀ b, b ≠ s → b ≠ nd → h' b = H6 b) ∧ h' nd = some (.dic false none nk) ∧ nk.length ≤ i ∧ ∀ y ∈ W.rn.take i, ∃ z : Int, dget nk (.str y) = some (.int z))
    ⟨[], none, rfl, S6, fun _ _ _ => rfl, N6, Nat.le_refl _, by simp⟩ (fun i ρ' h' _ ⟨_, _, _, _, f, _⟩ => (f _ o.r.1 hnr.symm).trans R6) ?_ ?_
  · rintro i _ h7 pp ep ⟨nk, x, rfl, d7, f7, n7, l7, a7⟩
    rw [List.getElem?_map] at ep
    obtain ⟨nm, en, rfl⟩ := Option.map_eq_some_iff.mp ep
    have hil : i < W.rn.length := by
      by_cases h : i < W.rn.length
      · exact h
      · rw [List.getElem?_eq_none (by omega)] at en; cases en
    dsimp! []
    refine c_draw (by omega) d7 (by omega) (by omega) fun u h8 u0 u1 d8 f8 => ?_
    have e8 : ∀ b, b ≠ s → h8 b = h7 b := fun b n => f8 b (by simpa using n)
    have w8 : h8 A.w = some (.dic false none (dput (dput kvs (PV.str [114, 111, 119]) (.ref D)) (PV.str [110, 117, 109, 98, 101, 114, 115]) (.ref nd))) := ((e8 _ o.w.1).trans (f7 _ o.w.1 hndw)).trans W6
    have n8 : h8 nd = some (.dic false none nk) := (e8 _ hnds).trans n7
    have gn : dget (dput (dput kvs (PV.str [114, 111, 119]) (.ref D)) (PV.str [110, 117, 109, 98, 101, 114, 115]) (.ref nd)) (PV.str [110, 117, 109, 98, 101, 114, 115]) = some (.ref nd) := by rw [dget_dput, if_pos rfl]
    have hrn := ok.rn
    dsimp! [w8, kz, gn, n8]
    refine ⟨by rw [sizeLine_eq]; omega, _, G.Sub.refl _, dput nk (.str nm) (.int u), some (.str nm), rfl, d8.put hnda hnds, fun b b1 b2 => ?_, up_same, by have := len_dput nk (.str nm) (.int u); omega, fun y hy => ?_⟩
    · rw [up_ne b2, e8 b b1]; exact f7 b b1 b2
    · rw [dget_dput]
      by_cases hyn : PV.str y = .str nm
      · exact ⟨u, by rw [if_pos hyn]⟩
      · rw [if_neg hyn]
        rw [List.take_add_one, en] at hy
        rcases List.mem_append.mp hy with hy | hy
        · exact a7 y hy
        · simp at hy; exact absurd (by rw [hy]) hyn
  · rintro _ h7 ⟨nk, x, rfl, d7, f7, n7, l7, a7⟩
    have w7 : h7 A.w = some (.dic false none (dput (dput kvs (PV.str [114, 111, 119]) (.ref D)) (PV.str [110, 117, 109, 98, 101, 114, 115]) (.ref nd))) := (f7 _ o.w.1 hndw).trans W6
    dsimp! [w7, kz]
    refine ⟨by rw [sizeLine_eq]; omega, ?_⟩
    have l8 := len_dput (dput (dput kvs (PV.str [114, 111, 119]) (.ref D)) (PV.str [110, 117, 109, 98, 101, 114, 115]) (.ref nd)) (PV.str [108, 101, 97, 115, 116]) (.int least)
    have gm7 : ∀ {k' v' : PV}, k' ∈ [(PV.str [111, 118, 101, 114]), (PV.str [109, 97, 110, 121]), (PV.str [109, 111, 115, 116]), (PV.str [114, 117, 108, 101, 95, 110, 97, 109, 101, 115]), (PV.str [103, 105, 118, 101, 110, 95, 110, 97, 109, 101, 115])] → dget kvs k' = some v' → dget (dput (dput (dput kvs (PV.str [114, 111, 119]) (.ref D)) (PV.str [110, 117, 109, 98, 101, 114, 115]) (.ref nd)) (PV.str [108, 101, 97, 115, 116]) (.int least)) k' = some v' := fun m e => oth (by simp) m (gm6 m e)
    rw [List.length_map, List.take_length] at a7
    refine ⟨_, G.Sub.refl _, q (row0.set j z) (fun y => match dget nk (.str y) with | some (.int z) => z | _ => 0) ⟨A.w, A.r, A.g, D, nd⟩ _ _ (by rw [List.length_set]; exact lr) rfl ⟨o.w, o.r, o.g, ⟨hDs, hDw⟩, ⟨hnds, hndw.symm⟩⟩
      ⟨up_same, by omega, gm7 (by simp) w.many, gm7 (by simp) w.most, gm7 (by simp) w.rule, gm7 (by simp) w.given, ?_, ?_, gm7 (by simp) w.over, ⟨(fun e => nomatch e), fun row e => ?_⟩⟩ (by omega) (d7.put o.w.2 o.w.1) ?_⟩
    · show up h7 A.w _ A.r = _
      rw [up_ne o.r.2, f7 _ o.r.1 hnr.symm]; exact R6
    · show up h7 A.w _ A.g = _
      rw [up_ne o.g.2, f7 _ o.g.1 hng.symm]; exact G6
    · cases e
      refine ⟨?_, ?_, by rw [List.length_set]; exact lr, ?_, ⟨nk, ?_, fun y hy => ?_⟩, by rw [dget_dput, if_pos rfl]⟩
      · show dget _ _ = some (PV.ref D)
        rw [dget_dput, if_neg (by decide), dget_dput, if_neg (by decide), dget_dput, if_pos rfl]
      · show up h7 A.w _ D = _
        rw [up_ne hDw, f7 _ hDs hndD]; exact D6
      · show dget _ _ = some (PV.ref nd)
        rw [dget_dput, if_neg (by decide), dget_dput, if_pos rfl]
      · show up h7 A.w _ nd = _
        rw [up_ne hndw.symm]; exact n7
      · obtain ⟨z, ez⟩ := a7 y hy
        show dget nk (.str y) = some (PV.int (match dget nk (.str y) with | some (.int z) => z | _ => 0))
        rw [ez]
    · intro b ob nb e
      have nb' := nb
      simp only [List.mem_cons, List.not_mem_nil, or_false, not_or] at nb'
      have hbn : b ≠ nd := by rintro rfl; rw [ndh] at e; cases e
      rw [up_ne nb'.2, f7 b nb'.1 hbn]
      exact K6 b ob nb e

theorem c_same_parts {F : List Nat → List Int → Prop} {a s wd pa : Addr} {ns : List Int} {pool : List Ex} (p0 : pool ≠ []) (pl : pool.length ≤ 1000) (pp : ∀ e ∈ pool, e.dep = 0 ∧ e.Al F) (hws : wd ≠ s) (hps : pa ≠ s) {kvs : List (PV × PV)} (hk : dget kvs (PV.str [112, 111, 111, 108]) = some (.ref pa)) :
    ∀ (n : Nat) {k : Nat}, n + 3 ≤ k → ∀ {h : PH} {Q : QV}, DS a ns s h → h wd = some (.dic false none kvs) → h pa = some (.lst (pool.map Ex.P)) → (∀ (e : Ex) h', e.dep ≤ n → e.Al F → DS a ns s h' → G.Fr [s] h h' → Q e.P h') → (wC k)._law_same_parts [.ref s, .ref wd, .int n] h Q := by
  have kz : ∀ z, keyOk false (.str z) = true := fun _ => rfl
  have pick1 : ∀ {k : Nat}, 2 ≤ k → ∀ {h : PH} {R : QV}, DS a ns s h → h pa = some (.lst (pool.map Ex.P)) → (∀ (e : Ex) h', e.dep = 0 → e.Al F → DS a ns s h' → G.Fr [s] h h' → R e.P h') → (wC k)._law_one_of [.ref s, .ref pa] h R := fun {k} hk {h R} d hp r =>
    c_one_of hk d hp (by simpa using p0) (by rw [List.length_map]; omega) hps fun x h' hx d' f' => by
      obtain ⟨e, he, rfl⟩ := List.mem_map.mp hx
      exact r e h' (pp e he).1 (pp e he).2 d' f'
  intro n
  induction n with
  | zero =>
    intro k hk' h Q d hw hp q
    obtain ⟨k, rfl⟩ : ∃ j, k = j + 1 := ⟨k - 1, by omega⟩
    show zFn _ _ (b__law_same_parts (wC k)) _ h Q
    unfold b__law_same_parts
    dsimp! []
    refine c_draw (by omega) d (by omega) (by omega) fun pick h1 q0 q1 d1 f1 => ?_
    have e1 : ∀ b, b ≠ s → h1 b = h b := fun b n => f1 b (by simpa using n)
    rw [zSeq_x]; dsimp! [Int.natCast_zero, (e1 _ hws).trans hw, kz, hk]
    exact pick1 (by omega) d1 ((e1 _ hps).trans hp) fun e h2 x1 x2 d2 f2 => ⟨h2, G.Sub.refl _, q e h2 (by omega) x2 d2 (f1.trans f2)⟩
  | succ n ih =>
    intro k hk' h Q d hw hp q
    obtain ⟨k, rfl⟩ : ∃ j, k = j + 1 := ⟨k - 1, by omega⟩
    show zFn _ _ (b__law_same_parts (wC k)) _ h Q
    unfold b__law_same_parts
    have hn0 : ¬ ((n + 1 : Nat) : Int) = 0 := by omega
    have hn1 : ((n + 1 : Nat) : Int) - 1 = (n : Int) := by omega
    have fin : ∀ {e : Ex} {h1 : PH}, e.dep ≤ n + 1 → e.Al F → DS a ns s h1 → Kp [s] h h1 → ∃ h2, G.Sub h2 h1 ∧ Q e.P h2 := fun {e h1} x1 x2 d1 k1 => d.out d1 k1 fun h2 y1 y2 => q e h2 x1 x2 y1 y2
    dsimp! []
    refine c_draw (by omega) d (by omega) (by omega) fun pick h1 q0 q1 d1 f1 => ?_
    have st : ∀ {g g' : PH}, G.Fr [s] g g' → ∀ {b : Addr} {o : PO}, b ≠ s → g b = some o → g' b = some o := fun {g g'} f {b o} n e => (f b (by simpa using n)).trans e
    have w1 := st f1 hws hw
    have p1 := st f1 hps hp
    rw [zSeq_x]; dsimp! [hn0]
    by_cases e0 : pick < 2
    · dsimp! [e0, w1, kz, hk]
      exact pick1 (by omega) d1 p1 fun e h2 x1 x2 d2 f2 => fin (by omega) x2 d2 (f1.trans f2).kp
    dsimp! [e0]
    rw [zSeq_x]; dsimp! []
    by_cases e1 : pick = 2
    · dsimp! [e1, hn1]
      exact ih (by omega) d1 w1 p1 fun e h2 x1 x2 d2 f2 => ⟨by decide, fin (e := .neg e) (by simp only [Ex.dep]; omega) x2 d2 (f1.trans f2).kp⟩
    dsimp! [e1]
    rw [zSeq_x]; dsimp! []
    by_cases e2 : pick = 3
    · dsimp! [e2, hn1]
      refine c_draw (by omega) d1 (by omega) (by omega) fun v h2 v0 v1 d2 f2 => ?_
      exact ih (by omega) d2 (st f2 hws w1) (st f2 hps p1) fun e h3 x1 x2 d3 f3 => ⟨by decide, fin (e := .scl v e) (by simp only [Ex.dep]; omega) ⟨⟨by omega, by omega⟩, x2⟩ d3 ((f1.trans f2).trans f3).kp⟩
    dsimp! [e2, hn1]
    refine ih (by omega) d1 w1 p1 fun ea h2 a1 a2 d2 f2 => ?_
    have w2 := st f2 hws w1
    have p2 := st f2 hps p1
    refine ih (by omega) d2 w2 p2 fun eb h3 b1 b2 d3 f3 => ?_
    have w3 := st f3 hws w2
    have p3 := st f3 hps p2
    have k3 : Kp [s] h h3 := ((f1.trans f2).trans f3).kp
    rw [zSeq_x]; dsimp! []
    by_cases e3 : pick < 8
    · obtain ⟨op, eo⟩ := op_at (v := pick - 4) (by omega) (by omega)
      dsimp! [e3]
      refine ⟨by decide, fun p np => ?_⟩
      dsimp! [eo]
      exact ⟨by decide, fin (e := .bin op ea eb) (by simp only [Ex.dep]; omega) ⟨a2, b2⟩ (d3.new np) (k3.new np)⟩
    dsimp! [e3]
    refine ⟨by decide, fun p np => ?_⟩
    have d4 := d3.new np (o := .lst [(PV.str [60]), (PV.str [60, 61]), (PV.str [62]), (PV.str [62, 61]), (PV.str [61, 61]), (PV.str [33, 61])])
    have k4 := k3.new np (o := .lst [(PV.str [60]), (PV.str [60, 61]), (PV.str [62]), (PV.str [62, 61]), (PV.str [61, 61]), (PV.str [33, 61])])
    have w4 := keep_new np (x := .lst [(PV.str [60]), (PV.str [60, 61]), (PV.str [62]), (PV.str [62, 61]), (PV.str [61, 61]), (PV.str [33, 61])]) _ _ w3
    have p4 := keep_new np (x := .lst [(PV.str [60]), (PV.str [60, 61]), (PV.str [62]), (PV.str [62, 61]), (PV.str [61, 61]), (PV.str [33, 61])]) _ _ p3
    refine c_draw (by omega) d4 (by omega) (by omega) fun v h5 v0 v1 d5 f5 => ?_
    have e5 := st f5 (d3.ne np) (up_same (h := h3) (a := p) (o := .lst [(PV.str [60]), (PV.str [60, 61]), (PV.str [62]), (PV.str [62, 61]), (PV.str [61, 61]), (PV.str [33, 61])]))
    obtain ⟨sg, es⟩ := sg_at v0 v1
    have w5 := st f5 hws w4
    have p5 := st f5 hps p4
    dsimp! [e5, es, w5, kz, hk]
    refine pick1 (by omega) d5 p5 fun ec h6 c1 c2 d6 f6 => ?_
    have w6 := st f6 hws w5
    have p6 := st f6 hps p5
    dsimp! [w6, kz, hk]
    refine pick1 (by omega) d6 p6 fun ed h7 dd1 dd2 d7 f7 => ?_
    exact ⟨by decide, fin (e := .pick sg ea eb ec ed) (by simp only [Ex.dep]; omega) ⟨a2, b2, c2, dd2⟩ d7 (((k4.trans f5.kp).trans f6.kp).trans f7.kp)⟩

theorem c_pool_table {k : Nat} (hk : 9 ≤ k) {a s : Addr} {ns : List Int} {h : PH} {Q : QV} (d : DS a ns s h)
    (q : ∀ (t : Tb) (W : Wd) h', t.Ok 3 W → DS a ns s h' → G.Fr [s] h h' → Q t.P h') : (wC k)._law_pool_table [.ref s] h Q := by
  obtain ⟨k, rfl⟩ : ∃ j, k = j + 1 := ⟨k - 1, by omega⟩
  show zFn _ _ (b__law_pool_table (wC k)) _ h Q
  unfold b__law_pool_table
  have kz : ∀ z, keyOk false (.str z) = true := fun _ => rfl
  dsimp! []
  refine c_draw (by omega) d (by omega) (by omega) fun x1 h1 a0 a1 d1 f1 => ?_
  dsimp! []
  refine c_draw (by omega) d1 (by omega) (by omega) fun x2 h2 b0 b1 d2 f2 => ?_
  dsimp! []
  obtain ⟨m, hm⟩ : ∃ m : Nat, 1 + x1 = (m : Int) := ⟨(1 + x1).toNat, by omega⟩
  obtain ⟨r, hr⟩ : ∃ m : Nat, 1 + x2 = (m : Int) := ⟨(1 + x2).toNat, by omega⟩
  rw [hm, hr]
  refine c_table_world (givens := 1) (by omega) d2 (by omega) (by omega) (by omega) fun over rn gn A0 kvs0 h3 l1 l2 l3 nd okk d3 w3 o3 hl3 k3 nw3 => ?_
  have ok0 : ({ over := over, many := m, rn := rn, gn := gn, most := 2, row := none, nums := fun _ => 0, least := 0, name := [] } : Wd).ok :=
    ⟨by show 1 ≤ m ∧ m ≤ 3; omega, ⟨by rintro (e : rn = []); rw [e] at l2; simp at l2; omega, by show rn.length ≤ 20; omega⟩, by show gn.length ≤ 20; omega, fun x hx => okk x (by simp at hx ⊢; right; left; exact hx), fun x hx => okk x (by simp at hx ⊢; right; right; exact hx), by show (0 : Int) ≤ 2 ∧ (2 : Int) ≤ 10; omega⟩
  have nwh : h A0.w = none := by
    have e : h2 A0.w = h A0.w := (f2 _ (by simpa using o3.w.1)).trans (f1 _ (by simpa using o3.w.1))
    rw [← e]; exact nw3
  have k03 : Kp [s] h h3 := (f1.kp.trans f2.kp).trans k3
  refine c_with_row (by omega) ok0 d3 o3 w3 rfl (by omega) fun row nums A kvs h4 lrow eA o w4 hl4 d4 k4 => ?_
  rw [← eA] at k4 nwh ⊢
  clear eA
  generalize hW : ({ over := over, many := m, rn := rn, gn := gn, most := 2, row := some row, nums := nums, least := -1, name := [] } : Wd) = W at w4
  have ok : W.ok := by subst hW; exact ⟨ok0.many, ok0.rn, ok0.gn, ok0.rs, ok0.gs, ok0.most⟩
  have eov : W.over = over := by subst hW; rfl
  have ern : W.rn = rn := by subst hW; rfl
  have egn : W.gn = gn := by subst hW; rfl
  have emany : W.many = m := by subst hW; rfl
  have k04 : Kp [s] h h4 := by
    intro b ob nb e
    refine k4 b ob ?_ (k03 b ob nb e)
    simp only [List.mem_cons, List.not_mem_nil, or_false, not_or] at nb ⊢
    exact ⟨nb, by rintro rfl; rw [nwh] at e; cases e⟩
  dsimp! []
  refine ⟨by decide, fun rl nrl => ?_⟩
  have d5 := d4.new nrl (o := .lst [])
  have w5 := w4.put nrl (x := .lst [])
  have k5 : Kp [s, A.w] h4 (up h4 rl (.lst [])) := kp_new nrl
  have rls : rl ≠ s := d4.ne nrl
  have rla : rl ≠ a := d4.nea nrl
  have rlw : rl ≠ A.w := by rintro rfl; rw [w4.dic] at nrl; cases nrl
  have up2 : ∀ {g g' : PH}, G.Fr [s] g g' → Kp [s, A.w] g g' := fun f b o' n e => (f b (by simp at n ⊢; exact n.1)).trans e
  rw [zSeq_x]
  dsimp! [w5.dic, kz, w5.rule, w5.rl]
  refine forW_L (ps := W.rn.map .str) (fun i ρ' h' => ∃ (rs : List Row) (kvs' : List (PV × PV)) (x y : Option PV), rs.map Row.name = W.rn.take i ∧ (∀ r ∈ rs, (-4 ≤ r.rim ∧ r.rim ≤ 4) ∧ r.e.dep ≤ 3 ∧ r.e.Al ({ W with name := r.name } : Wd).Ref) ∧
    ρ' = [some (.ref s), some (.ref A.w), some (.ref rl), x, y, none, none] ∧ DS a ns s h' ∧ WB W A h' kvs' ∧ (kvs'.length ≤ 15 ∨ (((∃ v, dget kvs' (PV.str [114, 111, 111, 109]) = some v) ∧ ∃ v, dget kvs' (PV.str [110, 97, 109, 101]) = some v) ∧ ∃ v, dget kvs' (PV.str [112, 111, 111, 108]) = some v)) ∧ h' rl = some (.lst (rs.map Row.P)) ∧ Kp [s, A.w] h4 h')
    ⟨[], kvs, none, none, rfl, by simp, rfl, d5, w5, .inl hl4, up_same, k5⟩ (fun i ρ' h' _ ⟨_, _, _, _, _, _, _, _, w', _⟩ => w'.rl) ?_ ?_
  · rintro i _ h6 p e ⟨rs, kvs1, x, y, n1, b1, rfl, d6, w6, l6, r6, k6⟩
    rw [List.getElem?_map] at e
    obtain ⟨nm, ex, rfl⟩ := Option.map_eq_some_iff.mp e
    have hnm : nm ∈ W.rn := List.mem_of_getElem? ex
    dsimp! [w6.dic, kz]
    obtain ⟨w7, l7⟩ := w6.turn (r := 3) o (l6.imp id fun z => z.1) hnm
    refine ⟨by have := w6.len; rw [sizeLine_eq]; omega, l7, ?_⟩
    have L7 : (dput (dput kvs1 (PV.str [114, 111, 111, 109]) (.int 3)) (PV.str [110, 97, 109, 101]) (.str nm)).length ≤ 17 ∨ ∃ v, dget (dput (dput kvs1 (PV.str [114, 111, 111, 109]) (.int 3)) (PV.str [110, 97, 109, 101]) (.str nm)) (PV.str [112, 111, 111, 108]) = some v := by
      rcases l6 with l | ⟨_, v, e⟩
      · left
        have := len_dput kvs1 (PV.str [114, 111, 111, 109]) (.int 3)
        have := len_dput (dput kvs1 (PV.str [114, 111, 111, 109]) (.int 3)) (PV.str [110, 97, 109, 101]) (.str nm)
        omega
      · right
        exact ⟨v, by rw [dget_dput, if_neg (by decide), dget_dput, if_neg (by decide)]; exact e⟩
    have d7 : DS a ns s (up h6 A.w (.dic false none (dput (dput kvs1 (PV.str [114, 111, 111, 109]) (.int 3)) (PV.str [110, 97, 109, 101]) (.str nm)))) := d6.put o.w.2 o.w.1
    have k7 : Kp [s, A.w] h4 (up h6 A.w (.dic false none (dput (dput kvs1 (PV.str [114, 111, 111, 109]) (.int 3)) (PV.str [110, 97, 109, 101]) (.str nm)))) := k6.put (by simp)
    have r7 : up h6 A.w (.dic false none (dput (dput kvs1 (PV.str [114, 111, 111, 109]) (.int 3)) (PV.str [110, 97, 109, 101]) (.str nm))) rl = some (.lst (rs.map Row.P)) := by rw [up_ne rlw]; exact r6
    generalize up h6 A.w (.dic false none (dput (dput kvs1 (PV.str [114, 111, 111, 109]) (.int 3)) (PV.str [110, 97, 109, 101]) (.str nm))) = h7 at w7 d7 k7 r7 ⊢
    generalize dput (dput kvs1 (PV.str [114, 111, 111, 109]) (.int 3)) (PV.str [110, 97, 109, 101]) (.str nm) = kvs7 at w7 L7 ⊢
    refine ⟨by omega, by omega, ?_⟩
    -- three leaves
    refine lcW_R (by decide) (fun i acc h' => ∃ (es : List Ex) (kvs' : List (PV × PV)), acc = es.map Ex.P ∧ es.length = i ∧ (∀ e ∈ es, e.dep = 0 ∧ e.Al ({ W with name := nm } : Wd).Ref) ∧ DS a ns s h' ∧ WH { W with name := nm } A h' kvs' ∧ Rm kvs7 kvs' ∧ h' rl = some (.lst (rs.map Row.P)) ∧ Kp [s, A.w] h4 h')
      ⟨[], kvs7, rfl, rfl, by simp, d7, w7, Rm.refl _, r7, k7⟩ (fun i acc h' ⟨es, _, e, l, _⟩ => by rw [e, List.length_map, l]; exact Nat.le_refl _) ?_ ?_
    · rintro j _ h8 hj ⟨es, kvs8, rfl, l8, b8, d8, w8, m8, r8, k8⟩
      dsimp! []
      refine c_leaf (by omega) (ok.nm nm) d8 o w8 fun e h9 kvs9 e1 e2 d9 w9 f9 m9 => ?_
      refine ⟨h9, G.Sub.refl _, es ++ [e], kvs9, by simp, by simp [l8], fun e' he' => ?_, d9, w9, m8.trans m9, (f9 rl (by simp [rls, rlw])).trans r8, k8.trans f9.kp⟩
      rcases List.mem_append.mp he' with he' | he'
      · exact b8 e' he'
      · simp at he'; subst he'; exact ⟨e1, e2⟩
    rintro _ h8 ⟨es, kvs8, rfl, l8, b8, d8, w8, m8, r8, k8⟩ D nD
    have d9 := d8.new nD (o := .lst (es.map Ex.P))
    have w9 := w8.put o nD (x := .lst (es.map Ex.P))
    have r9 := keep_new nD (x := .lst (es.map Ex.P)) _ _ r8
    have k9 := k8.new nD (o := .lst (es.map Ex.P))
    have D9 : up h8 D (.lst (es.map Ex.P)) D = some (.lst (es.map Ex.P)) := up_same
    have nD4 : ∀ b ob, h4 b = some ob → b ≠ s → b ≠ A.w → b ≠ D := fun b ob e b1 b2 z => by
      have := k8 b ob (by simp [b1, b2]) e
      rw [z, nD] at this; cases this
    generalize up h8 D (.lst (es.map Ex.P)) = h9 at d9 w9 r9 k9 D9 ⊢
    refine c_draw (by omega) d9 (by omega) (by omega) fun v h10 v0 v1 d10 f10 => ?_
    have w10 := w9.fr o f10
    have r10 : h10 rl = some (.lst (rs.map Row.P)) := (f10 rl (by simpa using rls)).trans r9
    have k10 := k9.trans (up2 f10)
    have hDs : D ≠ s := d8.ne nD
    have D10 : h10 D = some (.lst (es.map Ex.P)) := (f10 D (by simpa using hDs)).trans D9
    dsimp! []
    refine ⟨by decide, by decide, by decide, fun p2 np2 => ?_⟩
    have hD2 : D ≠ p2 := by rintro rfl; rw [D10] at np2; cases np2
    dsimp! [up_ne hD2, D10]
    refine ⟨by rw [sizeLine_eq, List.length_map]; omega, fun p3 np3 => ?_⟩
    have d11 := (d10.new np2 (o := .lst [.tup [(PV.str [110, 117, 109, 98, 101, 114]), .int v], .tup [(PV.str [99, 111, 117, 110, 116, 101, 114]), .int 0]])).new np3 (o := .lst (es.map Ex.P ++ [.tup [(PV.str [110, 117, 109, 98, 101, 114]), .int v], .tup [(PV.str [99, 111, 117, 110, 116, 101, 114]), .int 0]]))
    have w11 := (w10.put o np2 (x := .lst [.tup [(PV.str [110, 117, 109, 98, 101, 114]), .int v], .tup [(PV.str [99, 111, 117, 110, 116, 101, 114]), .int 0]])).put o np3 (x := .lst (es.map Ex.P ++ [.tup [(PV.str [110, 117, 109, 98, 101, 114]), .int v], .tup [(PV.str [99, 111, 117, 110, 116, 101, 114]), .int 0]]))
    have r11 := keep_new np3 (x := .lst (es.map Ex.P ++ [.tup [(PV.str [110, 117, 109, 98, 101, 114]), .int v], .tup [(PV.str [99, 111, 117, 110, 116, 101, 114]), .int 0]])) _ _ (keep_new np2 (x := .lst [.tup [(PV.str [110, 117, 109, 98, 101, 114]), .int v], .tup [(PV.str [99, 111, 117, 110, 116, 101, 114]), .int 0]]) _ _ r10)
    have k11 := (k10.new np2 (o := .lst [.tup [(PV.str [110, 117, 109, 98, 101, 114]), .int v], .tup [(PV.str [99, 111, 117, 110, 116, 101, 114]), .int 0]])).new np3 (o := .lst (es.map Ex.P ++ [.tup [(PV.str [110, 117, 109, 98, 101, 114]), .int v], .tup [(PV.str [99, 111, 117, 110, 116, 101, 114]), .int 0]]))
    have P11 : up (up h10 p2 (.lst [.tup [(PV.str [110, 117, 109, 98, 101, 114]), .int v], .tup [(PV.str [99, 111, 117, 110, 116, 101, 114]), .int 0]])) p3 (.lst (es.map Ex.P ++ [.tup [(PV.str [110, 117, 109, 98, 101, 114]), .int v], .tup [(PV.str [99, 111, 117, 110, 116, 101, 114]), .int 0]])) p3 = some (.lst ((es ++ [Ex.num v, Ex.ctr 0]).map Ex.P)) := by rw [up_same, List.map_append]; rfl
    have p3s : p3 ≠ s := (d10.new np2 (o := .lst [.tup [(PV.str [110, 117, 109, 98, 101, 114]), .int v], .tup [(PV.str [99, 111, 117, 110, 116, 101, 114]), .int 0]])).ne np3
    have p3w : A.w ≠ p3 := by
      rintro rfl
      have := (w10.put o np2 (x := .lst [.tup [(PV.str [110, 117, 109, 98, 101, 114]), .int v], .tup [(PV.str [99, 111, 117, 110, 116, 101, 114]), .int 0]])).dic
      rw [this] at np3; cases np3
    generalize up (up h10 p2 (.lst [.tup [(PV.str [110, 117, 109, 98, 101, 114]), .int v], .tup [(PV.str [99, 111, 117, 110, 116, 101, 114]), .int 0]])) p3 (.lst (es.map Ex.P ++ [.tup [(PV.str [110, 117, 109, 98, 101, 114]), .int v], .tup [(PV.str [99, 111, 117, 110, 116, 101, 114]), .int 0]])) = h11 at d11 w11 r11 k11 P11 ⊢
    dsimp! [w11.dic, kz]
    have L12 : (dput kvs8 (PV.str [112, 111, 111, 108]) (.ref p3)).length ≤ 20 := by
      rcases L7 with l | ⟨v', e'⟩
      · have := len_dput kvs8 (PV.str [112, 111, 111, 108]) (.ref p3)
        have := m8.1
        omega
      · have e8 : dget kvs8 (PV.str [112, 111, 111, 108]) = some v' := (m8.2 _ (by decide)).trans e'
        rw [len_dput_old e8]; exact w8.len
    refine ⟨by have := w11.len; rw [sizeLine_eq]; omega, ?_⟩
    have w12b := w11.toWB.puts o (k := (PV.str [112, 111, 111, 108])) (v := .ref p3) L12 (by simp)
    have rm12 : ∃ v, dget (dput kvs8 (PV.str [112, 111, 111, 108]) (.ref p3)) (PV.str [114, 111, 111, 109]) = some v := by
      obtain ⟨v, e⟩ := w11.room
      exact ⟨_, by rw [dget_dput, if_neg (by decide)]; exact e⟩
    have nm12 : ∃ v, dget (dput kvs8 (PV.str [112, 111, 111, 108]) (.ref p3)) (PV.str [110, 97, 109, 101]) = some v := ⟨_, by rw [dget_dput, if_neg (by decide)]; exact w11.name⟩
    have pl12 : dget (dput kvs8 (PV.str [112, 111, 111, 108]) (.ref p3)) (PV.str [112, 111, 111, 108]) = some (.ref p3) := by rw [dget_dput, if_pos rfl]
    have d12 : DS a ns s (up h11 A.w (.dic false none (dput kvs8 (PV.str [112, 111, 111, 108]) (.ref p3)))) := d11.put o.w.2 o.w.1
    have k12 : Kp [s, A.w] h4 (up h11 A.w (.dic false none (dput kvs8 (PV.str [112, 111, 111, 108]) (.ref p3)))) := k11.put (by simp)
    have r12 : up h11 A.w (.dic false none (dput kvs8 (PV.str [112, 111, 111, 108]) (.ref p3))) rl = some (.lst (rs.map Row.P)) := by rw [up_ne rlw]; exact r11
    have P12 : up h11 A.w (.dic false none (dput kvs8 (PV.str [112, 111, 111, 108]) (.ref p3))) p3 = some (.lst ((es ++ [Ex.num v, Ex.ctr 0]).map Ex.P)) := by rw [up_ne p3w.symm]; exact P11
    generalize up h11 A.w (.dic false none (dput kvs8 (PV.str [112, 111, 111, 108]) (.ref p3))) = h12 at w12b d12 k12 r12 P12 ⊢
    generalize dput kvs8 (PV.str [112, 111, 111, 108]) (.ref p3) = kvs12 at w12b rm12 nm12 pl12 ⊢
    have pool_ok : ∀ e ∈ es ++ [Ex.num v, Ex.ctr 0], e.dep = 0 ∧ e.Al ({ W with name := nm } : Wd).Ref := fun e he => by
      rcases List.mem_append.mp he with he | he
      · exact b8 e he
      · simp at he
        rcases he with rfl | rfl
        · exact ⟨rfl, by omega, by omega⟩
        · exact ⟨rfl, by omega, by omega⟩
    refine c_rim (by omega) d12 fun rim h13 d13 f13 q0 q1 => ?_
    have w13 := w12b.fr o f13
    have r13 : h13 rl = some (.lst (rs.map Row.P)) := (f13 rl (by simpa using rls)).trans r12
    have P13 := (f13 p3 (by simpa using p3s)).trans P12
    refine c_same_parts (n := 3) (pool := es ++ [Ex.num v, Ex.ctr 0]) (by simp) (by simp; omega) pool_ok o.w.1 p3s pl12 (by omega) d13 w13.dic P13 fun e h14 e1 e2 d14 f14 => ?_
    have w14 := w13.fr o f14
    have r14 : h14 rl = some (.lst (rs.map Row.P)) := (f14 rl (by simpa using rls)).trans r13
    have P14 := (f14 p3 (by simpa using p3s)).trans P13
    have k14 := (k12.trans (up2 f13)).trans (up2 f14)
    dsimp! []
    refine ⟨by decide, ?_⟩
    have refwf : ∀ {x : List Nat} {os : List Int}, ({ W with name := nm } : Wd).Ref x os → refOk x os := fun {x os} z => by
      have := ok.many
      rcases z with ⟨z1, z2, _⟩ | ⟨z1, z2, _⟩
      · exact ⟨ok.gs x z1, by rw [z2]; show W.many ≤ 1000; omega⟩
      · exact ⟨ok.rs x z1, by rw [z2]; show W.many ≤ 1000; omega⟩
    -- the row, or a small one
    refine zSeq_key (fun ρ' h' => ∃ e' : Ex, e'.dep ≤ 3 ∧ e'.Al ({ W with name := nm } : Wd).Ref ∧ ρ' = [some (.ref s), some (.ref A.w), some (.ref rl), some (.str nm), some (Row.P ⟨nm, rim, e'⟩), none, none] ∧ h' = h14) ?_ fun X kx => ?_
    rotate_left
    · dsimp! [w14.dic, kz, w14.over]
      refine c_read (n := 3) e1 (by omega) (Ex.Al.mono (fun x os => refwf) e2) (by omega) fun b => ?_
      dsimp! []
      cases b with
      | true =>
        dsimp! [Bool.not_true]
        exact kx _ _ ⟨e, e1, e2, rfl, rfl⟩
      | false =>
        obtain ⟨c0, c1, cr, ec⟩ : ∃ c0 c1 cr, es ++ [Ex.num v, Ex.ctr 0] = c0 :: c1 :: cr := by
          match es with
          | [] => exact ⟨_, _, _, rfl⟩
          | [x] => exact ⟨_, _, _, rfl⟩
          | x :: y :: l => exact ⟨_, _, _, rfl⟩
        have hc0 := pool_ok c0 (by rw [ec]; simp)
        have hc1 := pool_ok c1 (by rw [ec]; simp)
        rw [ec] at P14
        dsimp! [Bool.not_false, cut_to (show (0 : Int) ≤ 2 by omega), show (2 : Int).toNat = 2 from rfl, List.take_succ_cons, List.take_zero, w14.dic, kz, pl12, P14]
        refine ⟨by decide, by decide, by decide, kx _ _ ⟨.bin .plus c0 c1, by simp only [Ex.dep]; omega, ⟨hc0.2, hc1.2⟩, rfl, rfl⟩⟩
    rintro _ _ ⟨e', g1, g2, rfl, rfl⟩
    dsimp! [r14]
    have hlen : rs.length ≤ 20 := by
      have := congrArg List.length n1
      rw [List.length_map, List.length_take] at this
      have := ok.rn
      omega
    refine ⟨by rw [sizeLine_eq, List.length_map]; omega, _, G.Sub.refl _, rs ++ [⟨nm, rim, e'⟩], kvs12, some (.str nm), some (Row.P ⟨nm, rim, e'⟩), ?_, ?_, rfl, d14.put rla rls, w4.put0 w14.nm' nrl, .inr ⟨⟨rm12, nm12⟩, _, pl12⟩, ?_, k14.put0 nrl⟩
    · rw [List.map_append, n1, List.take_add_one, ex]; rfl
    · intro r' hr'
      rcases List.mem_append.mp hr' with hr' | hr'
      · exact b1 r' hr'
      · simp at hr'; subst hr'
        exact ⟨⟨q0, q1⟩, g1, g2⟩
    · rw [up_same, List.map_append]; rfl
  · rintro _ h6 ⟨rs, kvs1, x, y, n1, b1, rfl, d6, w6, l6, r6, k6⟩
    rw [List.length_map, List.take_length] at n1
    dsimp! [w6.dic, kz, w6.given, w6.gl]
    have hgn := ok.gn
    refine c_given_rows (k := k + 1) (j := 3) (by omega) ok.gs (by omega) o.g.1 d6 w6.gl rfl (fun x h' R r => ?_) fun gs h7 gn' gb d7 f7 => ?_
    · dsimp! []
      exact r
    · intro D nD
      have d8 := d7.new nD (o := .lst (gs.map Giv.P))
      have w8 := (w6.fr o f7).put nD (x := .lst (gs.map Giv.P))
      have r8 : up h7 D (.lst (gs.map Giv.P)) rl = some (.lst (rs.map Row.P)) := keep_new nD _ _ ((f7 rl (by simpa using rls)).trans r6)
      have k8 := (k6.trans (up2 f7)).new nD (o := .lst (gs.map Giv.P))
      dsimp! [w8.dic, kz, w8.over, r8]
      refine ⟨by decide, by decide, ?_⟩
      have kk : Kp [s] h (up h7 D (.lst (gs.map Giv.P))) := by
        intro b ob nb e
        refine k8 b ob ?_ (k04 b ob nb e)
        simp only [List.mem_cons, List.not_mem_nil, or_false, not_or] at nb ⊢
        exact ⟨nb, by rintro rfl; rw [nwh] at e; cases e⟩
      refine d.out d8 kk fun h9 d9 f9 => q ⟨W.over, gs, rs⟩ W h9 ⟨ok, ?_, gn', n1, ?_, ?_, gb, b1⟩ d9 f9
      · show W.over.length = W.many
        rw [eov, emany]; exact l1
      · show (W.over ++ (W.rn ++ W.gn)).Nodup
        rw [eov, ern, egn]; exact nd
      · show ∀ x ∈ W.over ++ (W.rn ++ W.gn), okS x = true
        rw [eov, ern, egn]; exact okk

/-! ### the order of trees: what cannot be told apart is the same -/
mutual
theorem lt_tri : ∀ p q : PV, PV.lt? p q = some false → PV.lt? q p = some false → p = q
  | .int a, q, h1, h2 => by
    cases q <;> simp only [PV.lt?, reduceCtorEq, Option.some.injEq, decide_eq_false_iff_not] at h1 h2
    rename_i b
    rw [show a = b by omega]
  | .str a, q, h1, h2 => by
    cases q <;> simp only [PV.lt?, reduceCtorEq, Option.some.injEq, decide_eq_false_iff_not] at h1 h2
    rename_i b
    rw [List.le_antisymm (List.not_lt.mp h2) (List.not_lt.mp h1)]
  | .tup xs, q, h1, h2 => by
    cases q <;> simp only [PV.lt?, reduceCtorEq] at h1 h2
    rename_i ys
    rw [lts_tri xs ys h1 h2]
  | .non, q, h1, _ => by cases q <;> simp [PV.lt?] at h1
  | .bl _, q, h1, _ => by cases q <;> simp [PV.lt?] at h1
  | .ref _, q, h1, _ => by cases q <;> simp [PV.lt?] at h1
  | .scr _, q, h1, _ => by cases q <;> simp [PV.lt?] at h1
theorem lts_tri : ∀ p q : List PV, PV.lts? p q = some false → PV.lts? q p = some false → p = q
  | [], [], _, _ => rfl
  | [], _ :: _, h1, _ => by simp [PV.lts?] at h1
  | _ :: _, [], _, h2 => by simp [PV.lts?] at h2
  | x :: xs, y :: ys, h1, h2 => by
    simp only [PV.lts?] at h1 h2
    by_cases e : x = y
    · subst e
      rw [if_pos rfl] at h1 h2
      rw [lts_tri xs ys h1 h2]
    · rw [if_neg e] at h1
      rw [if_neg (fun z => e z.symm)] at h2
      exact absurd (lt_tri x y h1 h2) e
end
/-- all can be compared -/
def Cmpb (l : List PV) : Prop := ∀ p ∈ l, ∀ q ∈ l, (PV.lt? p q).isSome = true
theorem o_tri {p q : PV} (h1 : (PV.lt? p q).isSome = true) (h2 : (PV.lt? q p).isSome = true) (e1 : PV.o p q = false) (e2 : PV.o q p = false) : p = q := by
  obtain ⟨a, ha⟩ := Option.isSome_iff_exists.mp h1
  obtain ⟨b, hb⟩ := Option.isSome_iff_exists.mp h2
  rw [PV.o_of ha] at e1
  rw [PV.o_of hb] at e2
  subst e1 e2
  exact lt_tri p q ha hb
theorem o_irr (p : PV) : PV.o p p = false := PV.swo.refl p
theorem o_trans {p q r : PV} (h1 : PV.o p q = true) (h2 : PV.o q r = true) : PV.o p r = true := PV.swo.ltle h1 (PV.swo.asym _ _ h2)
/-- sorted lists of the same items are one -/
theorem srtd_perm : ∀ {l m : List PV}, Cmpb l → SrtO.Srtd PV.o l → SrtO.Srtd PV.o m → l.Perm m → l = m
  | [], m, _, _, _, h => (List.Perm.eq_nil h.symm).symm
  | x :: l, [], _, _, _, h => absurd h.length_eq (by simp)
  | x :: l, y :: m, c, h1, h2, h => by
    have my : y ∈ x :: l := h.mem_iff.mpr List.mem_cons_self
    have mx : x ∈ y :: m := h.mem_iff.mp List.mem_cons_self
    have e : x = y := by
      refine o_tri (c x List.mem_cons_self y my) (c y my x List.mem_cons_self) ?_ ?_
      · rcases List.mem_cons.mp mx with e | mx
        · rw [e]; exact o_irr y
        · exact SrtO.srtd_head h2 x mx
      · rcases List.mem_cons.mp my with e | my
        · rw [← e]; exact o_irr _
        · exact SrtO.srtd_head h1 y my
    subst e
    rw [srtd_perm (fun p hp q hq => c p (List.mem_cons_of_mem _ hp) q (List.mem_cons_of_mem _ hq)) (List.pairwise_cons.mp h1).2 (List.pairwise_cons.mp h2).2 h.cons_inv]
theorem isort_congr {l m : List PV} (c : Cmpb l) (h : l.Perm m) : isort l = isort m :=
  srtd_perm (fun p hp q hq => c p ((isort_perm l).mem_iff.mp hp) q ((isort_perm l).mem_iff.mp hq)) (isort_ok l).1 (isort_ok m).1 (((isort_perm l).trans h).trans (isort_perm m).symm)
/-! ### sums -/
abbrev Pr := PV × Int
def prP (p : Pr) : PV := .tup [p.1, .int p.2]
def unPr : PV → Pr
  | .tup [a, .int n] => (a, n)
  | _ => (.non, 0)
theorem unPr_map (l : List Pr) : (l.map prP).map unPr = l := by
  rw [List.map_map]
  have : (unPr ∘ prP) = id := rfl
  rw [this, List.map_id]
structure Su where
  c : Int
  ps : List Pr
  deriving DecidableEq
def Su.P (s : Su) : PV := .tup [.int s.c, .tup (s.ps.map prP)]
theorem prP_inj {p q : Pr} (h : prP p = prP q) : p = q := by
  have := congrArg unPr h
  exact this
theorem map_prP_inj {l m : List Pr} (h : l.map prP = m.map prP) : l = m := by
  have := congrArg (List.map unPr) h
  rwa [unPr_map, unPr_map] at this
theorem SuP_inj {s t : Su} (h : s.P = t.P) : s = t := by
  cases s; cases t
  simp only [Su.P, PV.tup.injEq, List.cons.injEq, PV.int.injEq, and_true] at h
  rw [h.1, map_prP_inj h.2]
/-- sorted pairs -/
def sortPr (l : List Pr) : List Pr := (isort (l.map prP)).map unPr
theorem back_map {α : Type} (f : α → PV) (g : PV → α) (hg : ∀ x, g (f x) = x) {l : List α} {m : List PV} (h : m.Perm (l.map f)) : (m.map g).map f = m ∧ (m.map g).Perm l := by
  refine ⟨?_, ?_⟩
  · rw [List.map_map]
    conv => rhs; rw [← List.map_id m]
    refine List.map_congr_left fun p hp => ?_
    obtain ⟨x, _, rfl⟩ := List.mem_map.mp (h.mem_iff.mp hp)
    show f (g (f x)) = f x
    rw [hg]
  · have q := h.map g
    rw [List.map_map] at q
    have e : (g ∘ f) = id := funext hg
    rw [e, List.map_id] at q
    exact q
theorem sortPr_map (l : List Pr) : (sortPr l).map prP = isort (l.map prP) := (back_map prP unPr (fun _ => rfl) (isort_perm _)).1
theorem sortPr_perm (l : List Pr) : (sortPr l).Perm l := (back_map prP unPr (fun _ => rfl) (isort_perm _)).2
/-- the total of an atom -/
def tot (l : List Pr) (a : PV) : Int := ((l.filter fun p => decide (p.1 = a)).map (·.2)).sum
theorem tot_nil (a : PV) : tot [] a = 0 := rfl
theorem tot_cons (p : Pr) (l : List Pr) (a : PV) : tot (p :: l) a = (if p.1 = a then p.2 else 0) + tot l a := by
  unfold tot
  by_cases h : p.1 = a
  · rw [List.filter_cons_of_pos (by simpa using h), if_pos h]; simp
  · rw [List.filter_cons_of_neg (by simpa using h), if_neg h]; simp
theorem tot_app (l m : List Pr) (a : PV) : tot (l ++ m) a = tot l a + tot m a := by
  induction l with
  | nil => simp [tot_nil]
  | cons p l ih => rw [List.cons_append, tot_cons, tot_cons, ih]; omega
theorem tot_perm {l m : List Pr} (h : l.Perm m) (a : PV) : tot l a = tot m a := by
  unfold tot
  exact List.Perm.sum_int ((h.filter _).map _)
where
  List.Perm.sum_int {l m : List Int} (h : l.Perm m) : l.sum = m.sum := by
    induction h with
    | nil => rfl
    | cons x _ ih => simp [ih]
    | swap x y l => simp; omega
    | trans _ _ i1 i2 => rw [i1, i2]
theorem tot_none {l : List Pr} {a : PV} (h : ∀ p ∈ l, p.1 ≠ a) : tot l a = 0 := by
  induction l with
  | nil => rfl
  | cons p l ih =>
    rw [tot_cons, if_neg (h p List.mem_cons_self), ih fun q hq => h q (List.mem_cons_of_mem _ hq)]; rfl
/-- sorted by the atoms, no 0 -/
structure Can (l : List Pr) : Prop where
  srt : l.Pairwise fun p q => PV.o p.1 q.1 = true
  nz : ∀ p ∈ l, p.2 ≠ 0
theorem Can.tail {p : Pr} {l : List Pr} (h : Can (p :: l)) : Can l := ⟨(List.pairwise_cons.mp h.srt).2, fun q hq => h.nz q (List.mem_cons_of_mem _ hq)⟩
theorem Can.ne {p : Pr} {l : List Pr} (h : Can (p :: l)) : ∀ q ∈ l, q.1 ≠ p.1 := fun q hq e => by
  have := (List.pairwise_cons.mp h.srt).1 q hq
  rw [e, o_irr] at this
  cases this
theorem can_uniq : ∀ {l m : List Pr}, Can l → Can m → (∀ p ∈ l, ∀ q ∈ m, (PV.lt? p.1 q.1).isSome = true ∧ (PV.lt? q.1 p.1).isSome = true) → (∀ a, tot l a = tot m a) → l = m
  | [], [], _, _, _, _ => rfl
  | [], q :: m, _, h2, _, t => by
    have := t q.1
    rw [tot_nil, tot_cons, if_pos rfl, tot_none (h2.ne)] at this
    exact absurd (by omega) (h2.nz q List.mem_cons_self)
  | p :: l, [], h1, _, _, t => by
    have := t p.1
    rw [tot_nil, tot_cons, if_pos rfl, tot_none (h1.ne)] at this
    exact absurd (by omega) (h1.nz p List.mem_cons_self)
  | p :: l, q :: m, h1, h2, c, t => by
    have e : p.1 = q.1 := by
      obtain ⟨c1, c2⟩ := c p List.mem_cons_self q List.mem_cons_self
      refine o_tri c1 c2 ?_ ?_
      · cases h : PV.o p.1 q.1 with
        | false => rfl
        | true =>
          have z : ∀ x ∈ q :: m, x.1 ≠ p.1 := fun x hx e => by
            rcases List.mem_cons.mp hx with rfl | hx
            · rw [e, o_irr] at h; cases h
            · have := o_trans h ((List.pairwise_cons.mp h2.srt).1 x hx)
              rw [e, o_irr] at this; cases this
          have := t p.1
          rw [tot_none z, tot_cons, if_pos rfl, tot_none (h1.ne)] at this
          exact absurd (by omega) (h1.nz p List.mem_cons_self)
      · cases h : PV.o q.1 p.1 with
        | false => rfl
        | true =>
          have z : ∀ x ∈ p :: l, x.1 ≠ q.1 := fun x hx e => by
            rcases List.mem_cons.mp hx with rfl | hx
            · rw [e, o_irr] at h; cases h
            · have := o_trans h ((List.pairwise_cons.mp h1.srt).1 x hx)
              rw [e, o_irr] at this; cases this
          have := t q.1
          rw [tot_none z, tot_cons, if_pos rfl, tot_none (h2.ne)] at this
          exact absurd (by omega) (h2.nz q List.mem_cons_self)
    have e2 : p = q := by
      have := t p.1
      rw [tot_cons, if_pos rfl, tot_none (h1.ne), tot_cons, if_pos e.symm, tot_none (fun x hx z => h2.ne x hx (z.trans e))] at this
      exact Prod.ext e (by omega)
    subst e2
    rw [can_uniq h1.tail h2.tail (fun x hx y hy => c x (List.mem_cons_of_mem _ hx) y (List.mem_cons_of_mem _ hy)) fun a => by
      have := t a
      rw [tot_cons, tot_cons] at this
      omega]

/-! ### atoms and sums, typed -/
def Base (a : PV) : Prop := (∃ x os, a = (Ex.cell x os).P ∧ refOk x os) ∨ ∃ c, a = (Ex.ctr c).P
/-- an atom of level n -/
def WA : Nat → PV → Prop
  | 0, a => Base a
  | n + 1, a => Base a ∨ (∃ (o : Op2) (ss : List Su), (o = .least ∨ o = .greatest) ∧ a = .tup [.str o.cs, .tup (ss.map Su.P)] ∧ ss.length ≤ 2 ^ (n + 1) ∧ ∀ s ∈ ss, s.ps.length ≤ 2 ^ n ∧ Can s.ps ∧ ∀ p ∈ s.ps, WA n p.1) ∨
      ∃ (g : Sg) (x y z : Su), (g = .lt ∨ g = .eq) ∧ a = .tup [(PV.str [112, 105, 99, 107]), .str g.cs, x.P, y.P, z.P] ∧ ∀ s ∈ [x, y, z], s.ps.length ≤ 2 ^ (n + 1) ∧ Can s.ps ∧ ∀ p ∈ s.ps, WA n p.1
/-- a sum of level n -/
structure WS (n : Nat) (s : Su) : Prop where
  len : s.ps.length ≤ 2 ^ n
  can : Can s.ps
  at_ : ∀ p ∈ s.ps, WA n p.1
theorem WA.up : ∀ {n : Nat} {a : PV}, WA n a → WA (n + 1) a
  | 0, a, h => .inl h
  | n + 1, a, h => by
    have pw : 2 ^ (n + 1) ≤ 2 ^ (n + 1 + 1) := Nat.pow_le_pow_right (by omega) (by omega)
    have pw0 : 2 ^ n ≤ 2 ^ (n + 1) := Nat.pow_le_pow_right (by omega) (by omega)
    rcases h with h | ⟨o, ss, h1, h2, h3, h4⟩ | ⟨g, x, y, z, h1, h2, h3⟩
    · exact .inl h
    · exact .inr (.inl ⟨o, ss, h1, h2, by omega, fun s hs => ⟨by have := (h4 s hs).1; omega, (h4 s hs).2.1, fun p hp => WA.up ((h4 s hs).2.2 p hp)⟩⟩)
    · exact .inr (.inr ⟨g, x, y, z, h1, h2, fun s hs => ⟨by have := (h3 s hs).1; omega, (h3 s hs).2.1, fun p hp => WA.up ((h3 s hs).2.2 p hp)⟩⟩)
theorem WA.le {n m : Nat} (h : n ≤ m) {a : PV} (w : WA n a) : WA m a := by
  induction h with
  | refl => exact w
  | step _ ih => exact ih.up
theorem WS.le {n m : Nat} (h : n ≤ m) {s : Su} (w : WS n s) : WS m s := ⟨Nat.le_trans w.len (Nat.pow_le_pow_right (by omega) h), w.can, fun p hp => (w.at_ p hp).le h⟩
/-! comparing -/
theorem lts_some {f : PV → PV → Prop} : ∀ {xs ys : List PV}, (∀ x ∈ xs, ∀ y ∈ ys, (PV.lt? x y).isSome = true) → (PV.lts? xs ys).isSome = true
  | [], _, _ => rfl
  | _ :: _, [], _ => rfl
  | x :: xs, y :: ys, h => by
    simp only [PV.lts?]
    by_cases e : x = y
    · rw [if_pos e]; exact lts_some (f := f) fun a ha b hb => h a (List.mem_cons_of_mem _ ha) b (List.mem_cons_of_mem _ hb)
    · rw [if_neg e]; exact h x List.mem_cons_self y List.mem_cons_self
theorem lts_cons {x y : PV} {xs ys : List PV} (h1 : (PV.lt? x y).isSome = true) (h2 : x = y → (PV.lts? xs ys).isSome = true) : (PV.lts? (x :: xs) (y :: ys)).isSome = true := by
  simp only [PV.lts?]
  by_cases e : x = y
  · rw [if_pos e]; exact h2 e
  · rw [if_neg e]; exact h1
theorem lt_str {x y : List Nat} : (PV.lt? (.str x) (.str y)).isSome = true := rfl
theorem lt_int {x y : Int} : (PV.lt? (.int x) (.int y)).isSome = true := rfl
theorem lt_tup {x y : List PV} (h : (PV.lts? x y).isSome = true) : (PV.lt? (.tup x) (.tup y)).isSome = true := by simpa [PV.lt?] using h
theorem lt_pr {p q : Pr} (h : (PV.lt? p.1 q.1).isSome = true) : (PV.lt? (prP p) (prP q)).isSome = true := lt_tup (lts_cons h fun _ => lts_cons lt_int fun _ => rfl)
theorem lt_prs {l m : List Pr} (h : ∀ p ∈ l, ∀ q ∈ m, (PV.lt? p.1 q.1).isSome = true) : (PV.lts? (l.map prP) (m.map prP)).isSome = true :=
  lts_some (f := fun _ _ => True) fun x hx y hy => by
    obtain ⟨p, hp, rfl⟩ := List.mem_map.mp hx
    obtain ⟨q, hq, rfl⟩ := List.mem_map.mp hy
    exact lt_pr (h p hp q hq)
theorem lt_su {s t : Su} (h : ∀ p ∈ s.ps, ∀ q ∈ t.ps, (PV.lt? p.1 q.1).isSome = true) : (PV.lt? s.P t.P).isSome = true := lt_tup (lts_cons lt_int fun _ => lts_cons (lt_tup (lt_prs h)) fun _ => rfl)
theorem lt_ints {l m : List Int} : (PV.lts? (l.map .int) (m.map .int)).isSome = true := lts_some (f := fun _ _ => True) fun x hx y hy => by
  obtain ⟨p, hp, rfl⟩ := List.mem_map.mp hx
  obtain ⟨q, hq, rfl⟩ := List.mem_map.mp hy
  rfl
theorem base_hd {a : PV} (h : Base a) : (∃ (x : List Nat) (os : List Int), a = .tup [(PV.str [99, 101, 108, 108]), .str x, .tup (os.map .int)]) ∨ ∃ c, a = .tup [(PV.str [99, 111, 117, 110, 116, 101, 114]), .int c] := h.imp (fun ⟨x, os, e, _⟩ => ⟨x, os, e⟩) fun ⟨c, e⟩ => ⟨c, e⟩
/-- what an atom looks like: its name, the rest -/
theorem wa_cmp : ∀ {n : Nat} {a b : PV}, WA n a → WA n b → (PV.lt? a b).isSome = true := by
  have bb : ∀ {a b : PV}, Base a → Base b → (PV.lt? a b).isSome = true := fun {a b} ha hb => by
    rcases base_hd ha with ⟨x, os, rfl⟩ | ⟨c, rfl⟩ <;> rcases base_hd hb with ⟨x', os', rfl⟩ | ⟨c', rfl⟩
    · exact lt_tup (lts_cons lt_str fun _ => lts_cons lt_str fun _ => lts_cons (lt_tup lt_ints) fun _ => rfl)
    · exact lt_tup (lts_cons lt_str fun e => absurd e (by decide))
    · exact lt_tup (lts_cons lt_str fun e => absurd e (by decide))
    · exact lt_tup (lts_cons lt_str fun _ => lts_cons lt_int fun _ => rfl)
  have bo : ∀ {a : PV} {o : Op2} {r : List PV}, Base a → (o = .least ∨ o = .greatest) → (PV.lt? a (.tup (.str o.cs :: r))).isSome = true ∧ (PV.lt? (.tup (.str o.cs :: r)) a).isSome = true := fun {a o r} ha ho => by
    rcases base_hd ha with ⟨x, os, rfl⟩ | ⟨c, rfl⟩ <;> rcases ho with rfl | rfl <;> exact ⟨lt_tup (lts_cons lt_str fun e => absurd e (by decide)), lt_tup (lts_cons lt_str fun e => absurd e (by decide))⟩
  have bp : ∀ {a : PV} {r : List PV}, Base a → (PV.lt? a (.tup (PV.str [112, 105, 99, 107] :: r))).isSome = true ∧ (PV.lt? (.tup (PV.str [112, 105, 99, 107] :: r)) a).isSome = true := fun {a r} ha => by
    rcases base_hd ha with ⟨x, os, rfl⟩ | ⟨c, rfl⟩ <;> exact ⟨lt_tup (lts_cons lt_str fun e => absurd e (by decide)), lt_tup (lts_cons lt_str fun e => absurd e (by decide))⟩
  have op : ∀ {o : Op2} {r r' : List PV}, (o = .least ∨ o = .greatest) → (PV.lt? (.tup (.str o.cs :: r')) (.tup (PV.str [112, 105, 99, 107] :: r))).isSome = true ∧ (PV.lt? (.tup (PV.str [112, 105, 99, 107] :: r)) (.tup (.str o.cs :: r'))).isSome = true := fun {o r r'} ho => by
    rcases ho with rfl | rfl <;> exact ⟨lt_tup (lts_cons lt_str fun e => absurd e (by decide)), lt_tup (lts_cons lt_str fun e => absurd e (by decide))⟩
  intro n
  induction n with
  | zero => exact fun ha hb => bb ha hb
  | succ n ih =>
    intro a b ha hb
    rcases ha with ha | ⟨o, ss, h1, rfl, h3, h4⟩ | ⟨g, x, y, z, h1, rfl, h3⟩ <;> rcases hb with hb | ⟨o', ss', h1', rfl, h3', h4'⟩ | ⟨g', x', y', z', h1', rfl, h3'⟩
    · exact bb ha hb
    · exact (bo ha h1').1
    · exact (bp ha).1
    · exact (bo hb h1).2
    · refine lt_tup (lts_cons lt_str fun _ => lts_cons (lt_tup (lts_some (f := fun _ _ => True) fun u hu v hv => ?_)) fun _ => rfl)
      obtain ⟨s, hs, rfl⟩ := List.mem_map.mp hu
      obtain ⟨t, ht, rfl⟩ := List.mem_map.mp hv
      exact lt_su fun p hp q hq => ih ((h4 s hs).2.2 p hp) ((h4' t ht).2.2 q hq)
    · exact (op h1).1
    · exact (bp hb).2
    · exact (op h1').2
    · have su : ∀ s ∈ [x, y, z], ∀ t ∈ [x', y', z'], (PV.lt? s.P t.P).isSome = true := fun s hs t ht => lt_su fun p hp q hq => ih ((h3 s hs).2.2 p hp) ((h3' t ht).2.2 q hq)
      exact lt_tup (lts_cons lt_str fun _ => lts_cons lt_str fun _ => lts_cons (su x (by simp) x' (by simp)) fun _ => lts_cons (su y (by simp) y' (by simp)) fun _ => lts_cons (su z (by simp) z' (by simp)) fun _ => rfl)
theorem ws_cmp {n : Nat} {s t : Su} (h1 : WS n s) (h2 : WS n t) : (PV.lt? s.P t.P).isSome = true := lt_su fun p hp q hq => wa_cmp (h1.at_ p hp) (h2.at_ q hq)
/-! plain data, not too deep -/
theorem dats_of {l : List PV} (h : ∀ p ∈ l, dat p = true) : dats l = true := by
  induction l with
  | nil => rfl
  | cons x l ih => simp [dats, h x List.mem_cons_self, ih fun p hp => h p (List.mem_cons_of_mem _ hp)]
theorem dps_of {l : List PV} {n : Nat} (h : ∀ p ∈ l, p.dp ≤ n) : PV.dps l ≤ n := by
  induction l with
  | nil => exact Nat.zero_le _
  | cons x l ih =>
    have := h x List.mem_cons_self
    have := ih fun p hp => h p (List.mem_cons_of_mem _ hp)
    simp only [PV.dps]; omega
theorem pr_dat {p : Pr} (h : dat p.1 = true) : dat (prP p) = true := by simp [prP, K74.dat, K74.dats, h]
theorem pr_dp {p : Pr} : (prP p).dp = p.1.dp + 1 := by simp [prP, PV.dp, PV.dps]
theorem su_dat {s : Su} (hl : s.ps.length ≤ 1000000) (h : ∀ p ∈ s.ps, dat p.1 = true) : dat s.P = true := by
  have : dats (s.ps.map prP) = true := dats_of fun x hx => by
    obtain ⟨p, hp, rfl⟩ := List.mem_map.mp hx
    exact pr_dat (h p hp)
  simp [Su.P, K74.dat, K74.dats, this, hl]
theorem su_dp {s : Su} {n : Nat} (h : ∀ p ∈ s.ps, p.1.dp ≤ n) : s.P.dp ≤ n + 3 := by
  have : PV.dps (s.ps.map prP) ≤ n + 1 := dps_of fun x hx => by
    obtain ⟨p, hp, rfl⟩ := List.mem_map.mp hx
    have := h p hp
    rw [pr_dp]; omega
  simp only [Su.P, PV.dp, PV.dps]; omega
theorem wa_dat : ∀ {n : Nat} {a : PV}, n ≤ 10 → WA n a → dat a = true ∧ a.dp ≤ 5 * n + 2 := by
  have bb : ∀ {a : PV}, Base a → dat a = true ∧ a.dp ≤ 2 := fun {a} h => by
    rcases h with ⟨x, os, rfl, w⟩ | ⟨c, rfl⟩
    · exact ⟨Ex.dat (e := .cell x os) w, Ex.dp _⟩
    · exact ⟨by simp [Ex.P, K74.dat, K74.dats], Ex.dp _⟩
  have pw : ∀ {n : Nat}, n ≤ 10 → 2 ^ n ≤ 1024 := fun {n} h => Nat.le_trans (Nat.pow_le_pow_right (by omega) h) (by decide)
  intro n
  induction n with
  | zero => exact fun _ h => bb h
  | succ n ih =>
    intro a hn h
    have p1 := pw hn
    have p0 := pw (n := n) (by omega)
    rcases h with h | ⟨o, ss, h1, rfl, h3, h4⟩ | ⟨g, x, y, z, h1, rfl, h3⟩
    · obtain ⟨b1, b2⟩ := bb h; exact ⟨b1, by omega⟩
    · have d1 : dats (ss.map Su.P) = true := dats_of fun u hu => by
        obtain ⟨s, hs, rfl⟩ := List.mem_map.mp hu
        exact su_dat (by have := (h4 s hs).1; omega) fun p hp => (ih (by omega) ((h4 s hs).2.2 p hp)).1
      have d2 : PV.dps (ss.map Su.P) ≤ 5 * n + 5 := dps_of fun u hu => by
        obtain ⟨s, hs, rfl⟩ := List.mem_map.mp hu
        exact su_dp fun p hp => (ih (by omega) ((h4 s hs).2.2 p hp)).2
      have d3 := op_dat o
      refine ⟨?_, by simp only [PV.dp, PV.dps]; omega⟩
      simp only [K74.dat, K74.dats, d1, d3, List.length_map, List.length_cons, List.length_nil, Bool.and_true, Bool.true_and, Bool.and_eq_true, decide_eq_true_eq] at d3 ⊢
      exact ⟨by decide, d3, by omega⟩
    · have sd : ∀ s ∈ [x, y, z], dat s.P = true ∧ s.P.dp ≤ 5 * n + 5 := fun s hs => ⟨su_dat (by have := (h3 s hs).1; omega) fun p hp => (ih (by omega) ((h3 s hs).2.2 p hp)).1, su_dp fun p hp => (ih (by omega) ((h3 s hs).2.2 p hp)).2⟩
      have s1 := sd x (by simp)
      have s2 := sd y (by simp)
      have s3 := sd z (by simp)
      have d3 := sg_dat g
      refine ⟨?_, by simp only [PV.dp, PV.dps]; omega⟩
      simp only [K74.dat, K74.dats, s1.1, s2.1, s3.1, List.length_cons, List.length_nil, Bool.and_true, Bool.true_and, Bool.and_eq_true, decide_eq_true_eq] at d3 ⊢
      exact ⟨by decide, by decide, d3⟩
theorem ws_dat {n : Nat} {s : Su} (hn : n ≤ 10) (w : WS n s) : dat s.P = true ∧ s.P.dp ≤ 5 * n + 5 := by
  have pw : 2 ^ n ≤ 1024 := Nat.le_trans (Nat.pow_le_pow_right (by omega) hn) (by decide)
  exact ⟨su_dat (by have := w.len; omega) fun p hp => (wa_dat hn (w.at_ p hp)).1, su_dp fun p hp => (wa_dat hn (w.at_ p hp)).2⟩

/-! ### adding -/
def mg (acc : List Pr) (p : Pr) : List Pr := match acc.getLast? with
  | some l => if l.1 = p.1 then acc.dropLast ++ [(p.1, l.2 + p.2)] else acc ++ [p]
  | none => acc ++ [p]
theorem mg_nil (p : Pr) : mg [] p = [p] := rfl
theorem mg_snoc (L : List Pr) (b p : Pr) : mg (L ++ [b]) p = if b.1 = p.1 then L ++ [(p.1, b.2 + p.2)] else L ++ [b] ++ [p] := by
  unfold mg
  rw [List.getLast?_concat, List.dropLast_concat]
def Str (l : List Pr) : Prop := l.Pairwise fun p q => PV.o p.1 q.1 = true
theorem mg_ok : ∀ (rest acc : List Pr), Str acc → (∀ p ∈ acc ++ rest, ∀ q ∈ acc ++ rest, (PV.lt? p.1 q.1).isSome = true) → (∀ a ∈ acc, ∀ p ∈ rest, PV.o p.1 a.1 = false) → rest.Pairwise (fun p q => PV.o q.1 p.1 = false) →
    Str (rest.foldl mg acc) ∧ (∀ a, tot (rest.foldl mg acc) a = tot acc a + tot rest a) ∧ (∀ p ∈ rest.foldl mg acc, ∃ q ∈ acc ++ rest, p.1 = q.1) ∧ (rest.foldl mg acc).length ≤ acc.length + rest.length
  | [], acc, h1, _, _, _ => ⟨h1, fun a => by rw [tot_nil, List.foldl_nil]; omega, fun p hp => ⟨p, by simpa using hp, rfl⟩, by simp⟩
  | p :: rest, acc, h1, hc, h2, h3 => by
    obtain ⟨h3a, h3b⟩ := List.pairwise_cons.mp h3
    rw [List.foldl_cons]
    have key : Str (mg acc p) ∧ (∀ a, tot (mg acc p) a = tot acc a + tot [p] a) ∧ (∀ x ∈ mg acc p, ∃ q ∈ acc ++ [p], x.1 = q.1) ∧ (mg acc p).length ≤ acc.length + 1 := by
      rcases List.eq_nil_or_concat acc with rfl | ⟨L, b, rfl⟩
      · rw [mg_nil]
        exact ⟨List.pairwise_singleton _ _, fun a => by rw [tot_nil]; omega, fun x hx => ⟨x, by simpa using hx, rfl⟩, by simp⟩
      · rw [List.concat_eq_append] at *
        obtain ⟨s1, s2, s3⟩ := List.pairwise_append.mp h1
        rw [mg_snoc]
        by_cases e : b.1 = p.1
        · rw [if_pos e]
          refine ⟨List.pairwise_append.mpr ⟨s1, List.pairwise_singleton _ _, fun x hx y hy => ?_⟩, fun a => ?_, fun x hx => ?_, by simp⟩
          · rw [List.mem_singleton.mp hy]
            have := s3 x hx b (by simp)
            rw [e] at this
            exact this
          · rw [tot_app, tot_app, tot_cons, tot_cons, tot_cons, tot_nil, e]
            split <;> omega
          · rcases List.mem_append.mp hx with hx | hx
            · exact ⟨x, by simp [hx], rfl⟩
            · rw [List.mem_singleton.mp hx]; exact ⟨p, by simp, rfl⟩
        · rw [if_neg e]
          have hbp : PV.o b.1 p.1 = true := by
            cases h : PV.o b.1 p.1 with
            | true => rfl
            | false => exact absurd (o_tri (hc b (by simp) p (by simp)) (hc p (by simp) b (by simp)) h (h2 b (by simp) p List.mem_cons_self)) e
          refine ⟨List.pairwise_append.mpr ⟨h1, List.pairwise_singleton _ _, fun x hx y hy => ?_⟩, fun a => by rw [tot_app], fun x hx => ⟨x, hx, rfl⟩, by simp⟩
          rw [List.mem_singleton.mp hy]
          rcases List.mem_append.mp hx with hx | hx
          · exact o_trans (s3 x hx b (by simp)) hbp
          · rw [List.mem_singleton.mp hx]; exact hbp
    obtain ⟨k1, k2, k3, k4⟩ := key
    have old : ∀ x ∈ mg acc p, ∃ q ∈ acc ++ p :: rest, x.1 = q.1 := fun x hx => by
      obtain ⟨q, hq, e⟩ := k3 x hx
      exact ⟨q, by simp at hq ⊢; rcases hq with hq | hq <;> simp [hq], e⟩
    obtain ⟨r1, r2, r3, r4⟩ := mg_ok rest (mg acc p) k1 (fun x hx y hy => by
      have f : ∀ z ∈ mg acc p ++ rest, ∃ q ∈ acc ++ p :: rest, z.1 = q.1 := fun z hz => by
        rcases List.mem_append.mp hz with hz | hz
        · exact old z hz
        · exact ⟨z, by simp [hz], rfl⟩
      obtain ⟨q1, m1, e1⟩ := f x hx
      obtain ⟨q2, m2, e2⟩ := f y hy
      rw [e1, e2]; exact hc q1 m1 q2 m2) (fun x hx y hy => by
      obtain ⟨q, hq, e⟩ := k3 x hx
      rw [e]
      rcases List.mem_append.mp hq with hq | hq
      · exact h2 q hq y (List.mem_cons_of_mem _ hy)
      · rw [List.mem_singleton.mp hq]; exact h3a y hy) h3b
    refine ⟨r1, fun a => ?_, fun x hx => ?_, by rw [List.length_cons]; omega⟩
    · rw [r2, k2, tot_cons (l := rest), tot_cons (l := []), tot_nil]; omega
    · obtain ⟨q, hq, e⟩ := r3 x hx
      rcases List.mem_append.mp hq with hq | hq
      · obtain ⟨q', hq', e'⟩ := old q hq
        exact ⟨q', hq', e.trans e'⟩
      · exact ⟨q, by simp [hq], e⟩
/-- sorted pairs: the atoms ascend -/
theorem sortPr_asc {l : List Pr} (hc : ∀ p ∈ l, ∀ q ∈ l, (PV.lt? p.1 q.1).isSome = true) : (sortPr l).Pairwise fun p q => PV.o q.1 p.1 = false := by
  have h := (isort_ok (l.map prP)).1
  rw [← sortPr_map] at h
  have h' := List.pairwise_map.mp h
  refine List.Pairwise.imp_of_mem (fun {p q} hp hq e => ?_) h'
  have hp' := (sortPr_perm l).mem_iff.mp hp
  have hq' := (sortPr_perm l).mem_iff.mp hq
  cases ho : PV.o q.1 p.1 with
  | false => rfl
  | true =>
    obtain ⟨b, hb⟩ := Option.isSome_iff_exists.mp (hc q hq' p hp')
    have hb' : b = true := by rw [PV.o_of hb] at ho; exact ho
    have ne : q.1 ≠ p.1 := fun z => by rw [z, o_irr] at ho; cases ho
    have : PV.lt? (prP q) (prP p) = some true := by
      simp only [prP, PV.lt?, PV.lts?, if_neg ne, hb, hb']
    rw [PV.o_of this] at e
    cases e
def scaled (f : Int) (l : List Pr) : List Pr := l.map fun p => (p.1, f * p.2)
theorem tot_scaled (f : Int) (l : List Pr) (a : PV) : tot (scaled f l) a = f * tot l a := by
  induction l with
  | nil => simp [scaled, tot_nil]
  | cons p l ih =>
    show tot ((p.1, f * p.2) :: scaled f l) a = _
    rw [tot_cons, tot_cons, ih, Int.mul_add]
    split <;> simp
def nzs (l : List Pr) : List Pr := l.filter fun p => !decide (p.2 = 0)
theorem tot_nzs (l : List Pr) (a : PV) : tot (nzs l) a = tot l a := by
  induction l with
  | nil => rfl
  | cons p l ih =>
    unfold nzs at ih ⊢
    by_cases h : p.2 = 0
    · rw [List.filter_cons_of_neg (by simp [h]), ih, tot_cons, h]; split <;> omega
    · rw [List.filter_cons_of_pos (by simp [h]), tot_cons, tot_cons, ih]
/-- one + f times two -/
def addS (one two : Su) (f : Int) : Su := ⟨one.c + f * two.c, nzs ((sortPr (one.ps ++ scaled f two.ps)).foldl mg [])⟩
theorem addS_ok {n : Nat} {one two : Su} {f : Int} (h1 : WS n one) (h2 : WS n two) : Can (addS one two f).ps ∧ (∀ a, tot (addS one two f).ps a = tot one.ps a + f * tot two.ps a) ∧ (∀ p ∈ (addS one two f).ps, WA n p.1) ∧ (addS one two f).ps.length ≤ one.ps.length + two.ps.length := by
  have at_ : ∀ p ∈ one.ps ++ scaled f two.ps, WA n p.1 := fun p hp => by
    rcases List.mem_append.mp hp with hp | hp
    · exact h1.at_ p hp
    · obtain ⟨q, hq, rfl⟩ := List.mem_map.mp hp
      exact h2.at_ q hq
  have cm : ∀ p ∈ one.ps ++ scaled f two.ps, ∀ q ∈ one.ps ++ scaled f two.ps, (PV.lt? p.1 q.1).isSome = true := fun p hp q hq => wa_cmp (at_ p hp) (at_ q hq)
  have pm := sortPr_perm (one.ps ++ scaled f two.ps)
  obtain ⟨r1, r2, r3, r4⟩ := mg_ok (sortPr (one.ps ++ scaled f two.ps)) [] List.Pairwise.nil (fun p hp q hq => cm p (pm.mem_iff.mp (by simpa using hp)) q (pm.mem_iff.mp (by simpa using hq))) (fun a ha => nomatch ha) (sortPr_asc cm)
  refine ⟨⟨r1.sublist (List.filter_sublist ..), fun p hp => ?_⟩, fun a => ?_, fun p hp => ?_, ?_⟩
  · have := (List.mem_filter.mp hp).2
    simpa using this
  · show tot (nzs _) a = _
    rw [tot_nzs, r2, tot_nil, tot_perm pm, tot_app, tot_scaled]; omega
  · obtain ⟨q, hq, e⟩ := r3 p (List.mem_filter.mp hp).1
    rw [e]
    exact at_ q (pm.mem_iff.mp (by simpa using hq))
  · have l1 : (nzs ((sortPr (one.ps ++ scaled f two.ps)).foldl mg [])).length ≤ ((sortPr (one.ps ++ scaled f two.ps)).foldl mg []).length := List.length_filter_le _ _
    have l2 := pm.length_eq
    rw [List.length_append] at l2
    simp only [List.length_nil, Nat.zero_add] at r4
    have l3 : (scaled f two.ps).length = two.ps.length := by simp [scaled]
    show (nzs _).length ≤ _
    omega

theorem zEq_dat {p q : PV} {h : PH} {Q : QV} (h1 : dat p = true) (h2 : dat q = true) (d1 : p.dp ≤ 63) (d2 : q.dp ≤ 63) : zEq p q h Q = Q (.bl (decide (p = q))) h := by
  have p1 := dat_pl p h1
  have p2 := dat_pl q h2
  cases p with
  | int a =>
    cases q with
    | int b => simp [zEq_int]
    | str b => simp [zEq, PV.flat, PV.v, scal]
    | tup b =>
      rw [zEq_it]
      simp only [PV.pl] at p2
      simp only [PV.dp] at d2
      simp only [PV.pl, p2, true_and, eq_iff_iff]
      exact ⟨fun z => z.2, fun z => ⟨by omega, z⟩⟩
    | _ => simp [dat] at h2
  | str a =>
    cases q with
    | int b => simp [zEq, PV.flat, PV.v, scal]
    | str b => simp [zEq_str]
    | tup b =>
      show ((PV.str a).pl = true ∧ PV.pls b = true ∧ PV.dps b ≤ 63 ∧ Q (.bl (decide (PV.str a = .tup b))) h) = _
      simp only [PV.pl] at p2
      simp only [PV.dp] at d2
      simp only [p1, p2, true_and, eq_iff_iff]
      exact ⟨fun z => z.2, fun z => ⟨by omega, z⟩⟩
    | _ => simp [dat] at h2
  | tup a =>
    simp only [PV.dp] at d1
    have p1' : PV.pls a = true := by simpa [PV.pl] using p1
    have : zEq (.tup a) q h Q = (PV.pls a = true ∧ q.pl = true ∧ PV.dps a ≤ 63 ∧ q.dp ≤ 64 ∧ Q (.bl (decide (PV.tup a = q))) h) := by cases q <;> rfl
    rw [this]
    simp only [p1', p2, true_and, eq_iff_iff]
    exact ⟨fun z => z.2.2, fun z => ⟨by omega, by omega, z⟩⟩
  | _ => simp [dat] at h1
theorem atM1 {α : Type} {L : List α} {b : α} : atI (L ++ [b]) (-1) = some b := L2.atI_last L b
theorem ixM1 {n : Nat} : ixN (n + 1) (-1) = some n := by
  unfold ixN
  rw [if_neg (by omega), if_pos (by omega)]
  congr 1
  omega
theorem set_last {α : Type} {L : List α} {b v : α} : (L ++ [b]).set L.length v = L ++ [v] := by
  rw [List.set_append_right _ _ (Nat.le_refl _)]; simp
/-- pairs can be sorted -/
theorem sort_prs {n : Nat} (hn : n ≤ 8) {l : List Pr} (h : ∀ p ∈ l, WA n p.1) : sortOk (l.map prP) = true := by
  have dt : ∀ p ∈ l, dat p.1 = true ∧ p.1.dp ≤ 5 * n + 2 := fun p hp => wa_dat (by omega) (h p hp)
  have h1 : PV.pls (l.map prP) = true := dats_pl _ (dats_of fun x hx => by
    obtain ⟨p, hp, rfl⟩ := List.mem_map.mp hx
    exact pr_dat (dt p hp).1)
  have h2 : PV.dps (l.map prP) ≤ 5 * n + 3 := dps_of fun x hx => by
    obtain ⟨p, hp, rfl⟩ := List.mem_map.mp hx
    have := (dt p hp).2
    rw [pr_dp]; omega
  have tup_of : ∀ {n : Nat} {a : PV}, WA n a → a.isTup = true := fun {n a} w => by
    have b : ∀ {a : PV}, Base a → a.isTup = true := fun z => by rcases base_hd z with ⟨x, os, rfl⟩ | ⟨c, rfl⟩ <;> rfl
    cases n with
    | zero => exact b w
    | succ n =>
      rcases w with w | ⟨o, ss, _, rfl, _⟩ | ⟨g, x, y, z, _, rfl, _⟩
      · exact b w
      · rfl
      · rfl
  unfold sortOk
  simp only [Bool.and_eq_true, Bool.or_eq_true, decide_eq_true_eq, List.all_eq_true, h1, hdAll]
  refine ⟨⟨⟨trivial, by omega⟩, fun x hx y hy => ?_⟩, .inr fun x hx => ?_⟩
  · obtain ⟨p, hp, rfl⟩ := List.mem_map.mp hx
    obtain ⟨q, hq, rfl⟩ := List.mem_map.mp hy
    exact lt_pr (wa_cmp (h p hp) (h q hq))
  · obtain ⟨p, hp, rfl⟩ := List.mem_map.mp hx
    exact tup_of (h p hp)
theorem c_added {k n : Nat} (hk : 1 ≤ k) (hn : n ≤ 8) {one two : Su} (h1 : WS n one) (h2 : WS n two) {f : Int} (hf : -(2 ^ 64) < f ∧ f < 2 ^ 64) {h : PH} {Q : QV} (q : Q (addS one two f).P h) : (wC k).added [one.P, two.P, .int f] h Q := by
  obtain ⟨k, rfl⟩ : ∃ j, k = j + 1 := ⟨k - 1, by omega⟩
  show zFn _ _ (b_added (wC k)) [.tup [.int one.c, .tup (one.ps.map prP)], .tup [.int two.c, .tup (two.ps.map prP)], .int f] h Q
  unfold b_added
  have pw : 2 ^ n ≤ 256 := Nat.le_trans (Nat.pow_le_pow_right (by omega) hn) (by decide)
  have l1 := h1.len
  have l2 := h2.len
  have at_ : ∀ p ∈ one.ps ++ scaled f two.ps, WA n p.1 := fun p hp => by
    rcases List.mem_append.mp hp with hp | hp
    · exact h1.at_ p hp
    · obtain ⟨q, hq, rfl⟩ := List.mem_map.mp hp
      exact h2.at_ q hq
  have pm := sortPr_perm (one.ps ++ scaled f two.ps)
  dsimp! []
  refine lcP_V (fun _ => true) (fun p => p) (by rw [sizeLine_eq, List.length_map]; omega) (fun p hp R acc r => ?_) ?_
  · obtain ⟨p, _, rfl⟩ := List.mem_map.mp hp
    simp only [prP]
    dsimp! []
    exact ⟨by decide, by simpa [prP] using r⟩
  intro D1 n1
  rw [List.filter_eq_self.mpr (by simp), show (fun p : PV => p) = id from rfl, List.map_id]
  refine lcP_V (fun _ => true) (fun p => match p with | .tup [a, .int m] => .tup [a, .int (f * m)] | p => p) (by rw [sizeLine_eq, List.length_map]; omega) (fun p hp R acc r => ?_) ?_
  · obtain ⟨p, _, rfl⟩ := List.mem_map.mp hp
    simp only [prP]
    dsimp! []
    exact ⟨mulR hf, by decide, by simpa [prP] using r⟩
  intro D2 n2
  have e2 : (((two.ps.map prP).filter fun _ => true).map fun p => match p with | .tup [a, .int m] => PV.tup [a, .int (f * m)] | p => p) = (scaled f two.ps).map prP := by
    rw [List.filter_eq_self.mpr (by simp), List.map_map, scaled, List.map_map]; rfl
  rw [e2]
  have hD : D1 ≠ D2 := by rintro rfl; rw [up_same] at n2; cases n2
  dsimp! [up_ne hD]
  refine ⟨by rw [sizeLine_eq, List.length_map, List.length_map]; simp [scaled]; omega, fun p3 n3 => ?_⟩
  rw [← List.map_append]
  dsimp! [sort_prs hn at_]
  intro p4 n4
  dsimp! []
  refine ⟨by decide, fun p5 n5 => ?_⟩
  have h45 : p4 ≠ p5 := by rintro rfl; rw [up_same] at n5; cases n5
  have k5 : Kp [] h (up (up (up (up (up h D1 (.lst (one.ps.map prP))) D2 (.lst ((scaled f two.ps).map prP))) p3 (.lst ((one.ps ++ scaled f two.ps).map prP))) p4 (.lst (isort ((one.ps ++ scaled f two.ps).map prP)))) p5 (.lst [])) := (((((Kp.refl [] h).new n1).new n2).new n3).new n4).new n5
  have e4 : (up (up (up (up (up h D1 (.lst (one.ps.map prP))) D2 (.lst ((scaled f two.ps).map prP))) p3 (.lst ((one.ps ++ scaled f two.ps).map prP))) p4 (.lst (isort ((one.ps ++ scaled f two.ps).map prP)))) p5 (.lst [])) p4 = some (.lst ((sortPr (one.ps ++ scaled f two.ps)).map prP)) := by rw [up_ne h45, up_same, sortPr_map]
  have n5' := kp_fresh ((((Kp.refl [] h).new n1).new n2).new n3 |>.new n4) n5
  have e5 : (up (up (up (up (up h D1 (.lst (one.ps.map prP))) D2 (.lst ((scaled f two.ps).map prP))) p3 (.lst ((one.ps ++ scaled f two.ps).map prP))) p4 (.lst (isort ((one.ps ++ scaled f two.ps).map prP)))) p5 (.lst [])) p5 = some (.lst []) := up_same
  generalize (up (up (up (up (up h D1 (.lst (one.ps.map prP))) D2 (.lst ((scaled f two.ps).map prP))) p3 (.lst ((one.ps ++ scaled f two.ps).map prP))) p4 (.lst (isort ((one.ps ++ scaled f two.ps).map prP)))) p5 (.lst [])) = H5 at k5 e4 e5 ⊢
  have lS : (sortPr (one.ps ++ scaled f two.ps)).length ≤ 512 := by
    rw [pm.length_eq, List.length_append]; simp [scaled]; omega
  have atS : ∀ p ∈ sortPr (one.ps ++ scaled f two.ps), WA n p.1 := fun p hp => at_ p (pm.mem_iff.mp hp)
  have atM : ∀ i, ∀ p ∈ ((sortPr (one.ps ++ scaled f two.ps)).take i).foldl mg [], WA n p.1 := fun i p hp => by
    have g : ∀ (rest acc : List Pr), (∀ x ∈ acc ++ rest, WA n x.1) → ∀ x ∈ rest.foldl mg acc, WA n x.1 := by
      intro rest
      induction rest with
      | nil => intro acc ha x hx; exact ha x (by simpa using hx)
      | cons y rest ih =>
        intro acc ha x hx
        rw [List.foldl_cons] at hx
        refine ih _ (fun z hz => ?_) x hx
        rcases List.mem_append.mp hz with hz | hz
        · rcases List.eq_nil_or_concat acc with rfl | ⟨L, b, rfl⟩
          · rw [mg_nil] at hz; exact ha z (by simp at hz; simp [hz])
          · rw [List.concat_eq_append] at *
            rw [mg_snoc] at hz
            split at hz
            · rcases List.mem_append.mp hz with hz | hz
              · exact ha z (by simp [hz])
              · rw [List.mem_singleton.mp hz]; exact ha y (by simp)
            · rcases List.mem_append.mp hz with hz | hz
              · exact ha z (by simp at hz ⊢; rcases hz with hz | hz <;> simp [hz])
              · rw [List.mem_singleton.mp hz]; exact ha y (by simp)
        · exact ha z (by simp [hz])
    exact g _ [] (fun x hx => atS x (List.mem_of_mem_take (by simpa using hx))) p hp
  have lM : ∀ i, (((sortPr (one.ps ++ scaled f two.ps)).take i).foldl mg []).length ≤ 512 := fun i => by
    have g : ∀ (rest acc : List Pr), (rest.foldl mg acc).length ≤ acc.length + rest.length := by
      intro rest
      induction rest with
      | nil => intro acc; simp
      | cons y rest ih =>
        intro acc
        rw [List.foldl_cons]
        have := ih (mg acc y)
        have h2 : (mg acc y).length ≤ acc.length + 1 := by
          rcases List.eq_nil_or_concat acc with rfl | ⟨L, b, rfl⟩
          · simp [mg_nil]
          · rw [List.concat_eq_append, mg_snoc]; split <;> simp
        rw [List.length_cons]; omega
    have := g ((sortPr (one.ps ++ scaled f two.ps)).take i) []
    rw [List.length_take] at this
    simp only [List.length_nil] at this
    omega
  rw [zSeq_x]
  dsimp! [e4]
  refine forW_L (ps := (sortPr (one.ps ++ scaled f two.ps)).map prP) (fun i ρ' h' => ∃ x y : Option PV, ρ' = [some (.tup [.int one.c, .tup (one.ps.map prP)]), some (.tup [.int two.c, .tup (two.ps.map prP)]), some (.int f), some (.ref p4), some (.ref p5), x, y, none] ∧ Kp [] h h' ∧
    h' p4 = some (.lst ((sortPr (one.ps ++ scaled f two.ps)).map prP)) ∧ h' p5 = some (.lst ((((sortPr (one.ps ++ scaled f two.ps)).take i).foldl mg []).map prP))) ⟨none, none, rfl, k5, e4, e5⟩ (fun i ρ' h' _ ⟨_, _, _, _, e, _⟩ => e) ?_ ?_
  · rintro i _ h6 p ep ⟨x, y, rfl, k6, e46, e56⟩
    rw [List.getElem?_map] at ep
    obtain ⟨pr, er, rfl⟩ := Option.map_eq_some_iff.mp ep
    obtain ⟨a, m⟩ := pr
    have wa := atS _ (List.mem_of_getElem? er)
    have da := wa_dat (show n ≤ 10 by omega) wa
    have stp : ((sortPr (one.ps ++ scaled f two.ps)).take (i + 1)).foldl mg [] = mg (((sortPr (one.ps ++ scaled f two.ps)).take i).foldl mg []) (a, m) := by
      rw [List.take_add_one, er]; simp
    have aM := atM i
    have lMi := lM i
    generalize ((sortPr (one.ps ++ scaled f two.ps)).take i).foldl mg [] = acc at e56 stp aM lMi
    simp only [prP]
    dsimp! [e56]
    have fin : ∀ (L : List Pr), mg acc (a, m) = L → ∃ h2, G.Sub h2 (up h6 p5 (.lst (L.map prP))) ∧ ∃ x' y' : Option PV, [some (PV.tup [.int one.c, .tup (one.ps.map prP)]), some (.tup [.int two.c, .tup (two.ps.map prP)]), some (.int f), some (.ref p4), some (.ref p5), some a, some (.int m), none] = [some (PV.tup [.int one.c, .tup (one.ps.map prP)]), some (.tup [.int two.c, .tup (two.ps.map prP)]), some (.int f), some (.ref p4), some (.ref p5), x', y', none] ∧ Kp [] h h2 ∧
        h2 p4 = some (.lst ((sortPr (one.ps ++ scaled f two.ps)).map prP)) ∧ h2 p5 = some (.lst ((((sortPr (one.ps ++ scaled f two.ps)).take (i + 1)).foldl mg []).map prP)) := fun L e => ⟨_, G.Sub.refl _, some a, some (.int m), rfl, k6.put0 n5', by rw [up_ne h45]; exact e46, by rw [up_same, stp, e]⟩
    rcases List.eq_nil_or_concat acc with rfl | ⟨L, b, rfl⟩
    · dsimp! [List.isEmpty_nil, Bool.not_true, e56]
      exact ⟨by decide, by rw [sizeLine_eq]; decide, fin [(a, m)] rfl⟩
    · rw [List.concat_eq_append] at *
      obtain ⟨ba, bm⟩ := b
      have hne : ((L ++ [((ba, bm) : Pr)]).map prP).isEmpty = false := by simp
      have wb := aM (ba, bm) (by simp)
      have db := wa_dat (show n ≤ 10 by omega) wb
      have e1 : (L ++ [((ba, bm) : Pr)]).map prP = L.map prP ++ [.tup [ba, .int bm]] := by simp [prP]
      rw [e1] at e56 ⊢
      have hne' : (L.map prP ++ [PV.tup [ba, .int bm]]).isEmpty = false := by simp
      dsimp! [hne', Bool.not_false, e56, atM1]
      rw [zEq_dat db.1 da.1 (by omega) (by omega)]
      have ms := mg_snoc L (ba, bm) (a, m)
      simp only at ms
      by_cases eb : ba = a
      · subst eb
        rw [if_pos rfl] at ms
        dsimp! [e56, atM1]
        have hlen : (L.map prP ++ [PV.tup [ba, .int bm]]).length = (L.map prP).length + 1 := by simp
        refine ⟨by decide, (L.map prP).length, by rw [hlen]; exact ixM1, ?_⟩
        rw [set_last]
        have := fin _ ms
        simpa [prP] using this
      · rw [if_neg eb] at ms
        dsimp! [eb, e56]
        refine ⟨by decide, by simp at lMi; rw [sizeLine_eq]; simp; omega, ?_⟩
        have := fin _ ms
        simpa [prP] using this
  · rintro _ h6 ⟨x, y, rfl, k6, e46, e56⟩
    rw [List.length_map, List.take_length] at e56
    have aM := atM (sortPr (one.ps ++ scaled f two.ps)).length
    have lMi := lM (sortPr (one.ps ++ scaled f two.ps)).length
    rw [List.take_length] at aM lMi
    dsimp! []
    refine ⟨mulR hf, ?_⟩
    dsimp! [e56]
    refine lcP_L (ps := ((sortPr (one.ps ++ scaled f two.ps)).foldl mg []).map prP) (fun p => match p with | .tup [_, .int m] => !decide (m = 0) | _ => true) (fun p => p) (by rw [sizeLine_eq, List.length_map]; omega) e56 (fun p hp R acc r => ?_) ?_
    · obtain ⟨⟨a, m⟩, _, rfl⟩ := List.mem_map.mp hp
      simp only [prP] at r ⊢
      dsimp! []
      by_cases hm : m = 0
      · simp only [hm, decide_true, Bool.not_true, Bool.false_eq_true, if_false] at r ⊢
        exact r
      · simp only [hm, decide_false, Bool.not_false, if_true] at r ⊢
        exact r
    · intro D nD
      have e6 : (((((sortPr (one.ps ++ scaled f two.ps)).foldl mg []).map prP).filter fun p => match p with | .tup [_, .int m] => !decide (m = 0) | _ => true).map fun p => p) = (nzs ((sortPr (one.ps ++ scaled f two.ps)).foldl mg [])).map prP := by
        rw [show (fun p : PV => p) = id from rfl, List.map_id, List.filter_map]
        rfl
      rw [e6]
      dsimp! []
      exact ⟨by decide, h, sub_of_kp (k6.new nD), q⟩

/-! ### adding, as the law does -/
def upn (acc : List Pr) (p : Pr) : List Pr :=
  if p.1 ∈ acc.map Prod.fst then acc.set (acc.findIdx fun x => decide (x.1 = p.1)) (p.1, (acc.getD (acc.findIdx fun x => decide (x.1 = p.1)) (.non, 0)).2 + p.2) else acc ++ [p]
theorem fidx {acc : List Pr} {a : PV} (h : a ∈ acc.map Prod.fst) : ∃ v, acc[acc.findIdx fun x => decide (x.1 = a)]? = some (a, v) ∧ acc.findIdx (fun x => decide (x.1 = a)) < acc.length := by
  obtain ⟨p, hp, rfl⟩ := List.mem_map.mp h
  have hlt : acc.findIdx (fun x => decide (x.1 = p.1)) < acc.length := List.findIdx_lt_length_of_exists ⟨p, hp, by simp⟩
  have := List.findIdx_getElem (w := hlt)
  refine ⟨acc[acc.findIdx fun x => decide (x.1 = p.1)].2, ?_, hlt⟩
  rw [List.getElem?_eq_getElem hlt]
  have e : acc[acc.findIdx fun x => decide (x.1 = p.1)].1 = p.1 := by simpa using this
  exact congrArg some (Prod.ext e rfl)
theorem tot_set : ∀ {l : List Pr} {k : Nat} {a : PV} {v m : Int}, l[k]? = some (a, v) → ∀ x, tot (l.set k (a, v + m)) x = tot l x + if a = x then m else 0
  | [], _, _, _, _, h, _ => by simp at h
  | p :: l, 0, a, v, m, h, x => by
    simp at h
    subst h
    rw [List.set_cons_zero, tot_cons, tot_cons]
    split <;> simp_all <;> omega
  | p :: l, k + 1, a, v, m, h, x => by
    rw [List.set_cons_succ, tot_cons, tot_cons, tot_set (by simpa using h)]; omega
theorem upn_ok {acc : List Pr} {p : Pr} (nd : (acc.map Prod.fst).Nodup) : ((upn acc p).map Prod.fst).Nodup ∧ (∀ x, tot (upn acc p) x = tot acc x + tot [p] x) ∧ (∀ q ∈ upn acc p, ∃ r ∈ acc ++ [p], q.1 = r.1) ∧ (upn acc p).length ≤ acc.length + 1 := by
  unfold upn
  by_cases h : p.1 ∈ acc.map Prod.fst
  · rw [if_pos h]
    obtain ⟨v, e, hl⟩ := fidx h
    have eg : acc.getD (acc.findIdx fun x => decide (x.1 = p.1)) (.non, 0) = (p.1, v) := by rw [List.getD_eq_getElem?_getD, e]; rfl
    rw [eg]
    refine ⟨?_, fun x => ?_, fun q hq => ?_, by simp⟩
    · rw [List.map_set]
      have : (acc.map Prod.fst).set (acc.findIdx fun x => decide (x.1 = p.1)) p.1 = acc.map Prod.fst := by
        apply List.ext_getElem?
        intro i
        by_cases hi : acc.findIdx (fun x => decide (x.1 = p.1)) = i
        · subst hi
          rw [List.getElem?_set_self (by rw [List.length_map]; exact hl), List.getElem?_map, e]; rfl
        · rw [List.getElem?_set_ne hi]
      rw [this]; exact nd
    · rw [tot_set e, tot_cons, tot_nil]; omega
    · rcases List.mem_or_eq_of_mem_set hq with hq | rfl
      · exact ⟨q, by simp [hq], rfl⟩
      · exact ⟨p, by simp, rfl⟩
  · rw [if_neg h]
    refine ⟨?_, fun x => by rw [tot_app], fun q hq => ⟨q, hq, rfl⟩, by simp⟩
    rw [List.map_append, List.nodup_append]
    exact ⟨nd, by simp, fun x hx y hy => by simp at hy; subst hy; rintro rfl; exact h hx⟩
theorem upns_ok : ∀ (rest acc : List Pr), (acc.map Prod.fst).Nodup → ((rest.foldl upn acc).map Prod.fst).Nodup ∧ (∀ x, tot (rest.foldl upn acc) x = tot acc x + tot rest x) ∧ (∀ q ∈ rest.foldl upn acc, ∃ r ∈ acc ++ rest, q.1 = r.1) ∧ (rest.foldl upn acc).length ≤ acc.length + rest.length
  | [], acc, nd => ⟨nd, fun x => by rw [tot_nil, List.foldl_nil]; omega, fun q hq => ⟨q, by simpa using hq, rfl⟩, by simp⟩
  | p :: rest, acc, nd => by
    obtain ⟨k1, k2, k3, k4⟩ := upn_ok (p := p) nd
    obtain ⟨r1, r2, r3, r4⟩ := upns_ok rest (upn acc p) k1
    rw [List.foldl_cons]
    refine ⟨r1, fun x => ?_, fun q hq => ?_, by rw [List.length_cons]; omega⟩
    · rw [r2, k2, tot_cons (l := rest), tot_cons (l := []), tot_nil]; omega
    · obtain ⟨r, hr, e⟩ := r3 q hq
      rcases List.mem_append.mp hr with hr | hr
      · obtain ⟨r', hr', e'⟩ := k3 r hr
        exact ⟨r', by simp at hr' ⊢; rcases hr' with hr' | hr' <;> simp [hr'], e.trans e'⟩
      · exact ⟨r, by simp [hr], e⟩
def lAdd (one two : Su) (f : Int) : Su := ⟨one.c + f * two.c, sortPr (nzs ((scaled f two.ps).foldl upn one.ps))⟩
theorem can_nd {l : List Pr} (h : Can l) : (l.map Prod.fst).Nodup := by
  rw [List.nodup_iff_pairwise_ne, List.pairwise_map]
  refine h.srt.imp fun {p q} ho e => ?_
  rw [e, o_irr] at ho; cases ho
theorem lAdd_eq {n : Nat} {one two : Su} {f : Int} (h1 : WS n one) (h2 : WS n two) : lAdd one two f = addS one two f := by
  obtain ⟨a1, a2, a3, _⟩ := addS_ok (f := f) h1 h2
  have at_ : ∀ p ∈ one.ps ++ scaled f two.ps, WA n p.1 := fun p hp => by
    rcases List.mem_append.mp hp with hp | hp
    · exact h1.at_ p hp
    · obtain ⟨q, hq, rfl⟩ := List.mem_map.mp hp
      exact h2.at_ q hq
  obtain ⟨r1, r2, r3, _⟩ := upns_ok (scaled f two.ps) one.ps (can_nd h1.can)
  have atR : ∀ p ∈ nzs ((scaled f two.ps).foldl upn one.ps), WA n p.1 := fun p hp => by
    obtain ⟨q, hq, e⟩ := r3 p (List.mem_filter.mp hp).1
    rw [e]; exact at_ q hq
  have pm := sortPr_perm (nzs ((scaled f two.ps).foldl upn one.ps))
  have cm : ∀ p ∈ nzs ((scaled f two.ps).foldl upn one.ps), ∀ q ∈ nzs ((scaled f two.ps).foldl upn one.ps), (PV.lt? p.1 q.1).isSome = true := fun p hp q hq => wa_cmp (atR p hp) (atR q hq)
  have nd : ((sortPr (nzs ((scaled f two.ps).foldl upn one.ps))).map Prod.fst).Nodup := by
    refine (List.Perm.nodup_iff (pm.map _)).mpr ?_
    exact List.Nodup.sublist (List.Sublist.map _ (List.filter_sublist ..)) r1
  have can : Can (sortPr (nzs ((scaled f two.ps).foldl upn one.ps))) := by
    refine ⟨?_, fun p hp => ?_⟩
    · have asc := sortPr_asc cm
      rw [List.nodup_iff_pairwise_ne, List.pairwise_map] at nd
      refine List.Pairwise.imp_of_mem (fun {p q} hp hq hh => ?_) (asc.and nd)
      obtain ⟨x1, x2⟩ := hh
      have hp' := pm.mem_iff.mp hp
      have hq' := pm.mem_iff.mp hq
      cases ho : PV.o p.1 q.1 with
      | true => rfl
      | false => exact absurd (o_tri (cm p hp' q hq') (cm q hq' p hp') ho x1) x2
    · have := (List.mem_filter.mp (pm.mem_iff.mp hp)).2
      simpa using this
  have e : sortPr (nzs ((scaled f two.ps).foldl upn one.ps)) = (addS one two f).ps := can_uniq can a1 (fun p hp q hq => ⟨wa_cmp (atR p (pm.mem_iff.mp hp)) (a3 q hq), wa_cmp (a3 q hq) (atR p (pm.mem_iff.mp hp))⟩) fun a => by
    rw [tot_perm pm, tot_nzs, r2, a2, tot_scaled]
  unfold lAdd
  rw [e]
  rfl

def zIdxO (y : PV) : Option PO → PH → QV → Prop
  | some (.lst xs), h, Q => y.pl = true ∧ y.dp ≤ 64 ∧ PV.pls xs = true ∧ PV.dps xs ≤ 63 ∧ y ∈ xs ∧ Q (.int (xs.findIdx (fun x => decide (x = y)) : Nat)) h
  | _, _, _ => False
theorem zIndex_r {l : Addr} {y : PV} {h : PH} {Q : QV} : zIndex (.ref l) [y] h Q = zIdxO y (h l) h Q := by
  simp only [zIndex]
  cases h l with
  | none => rfl
  | some o => cases o <;> rfl
theorem zIdxO_l {y : PV} {xs : List PV} {h : PH} {Q : QV} : zIdxO y (some (.lst xs)) h Q = (y.pl = true ∧ y.dp ≤ 64 ∧ PV.pls xs = true ∧ PV.dps xs ≤ 63 ∧ y ∈ xs ∧ Q (.int (xs.findIdx (fun x => decide (x = y)) : Nat)) h) := rfl
theorem c_ladd {k n : Nat} (hk : 1 ≤ k) (hn : n ≤ 8) {one two : Su} (h1 : WS n one) (h2 : WS n two) {f : Int} (hf : -(2 ^ 64) < f ∧ f < 2 ^ 64) {h : PH} {Q : QV} (q : Q (addS one two f).P h) : (wC k)._law_tidy_add [one.P, two.P, .int f] h Q := by
  obtain ⟨k, rfl⟩ : ∃ j, k = j + 1 := ⟨k - 1, by omega⟩
  show zFn _ _ (b__law_tidy_add (wC k)) [.tup [.int one.c, .tup (one.ps.map prP)], .tup [.int two.c, .tup (two.ps.map prP)], .int f] h Q
  unfold b__law_tidy_add
  have pw : 2 ^ n ≤ 256 := Nat.le_trans (Nat.pow_le_pow_right (by omega) hn) (by decide)
  have l1 := h1.len
  have l2 := h2.len
  have at_ : ∀ p ∈ one.ps ++ scaled f two.ps, WA n p.1 := fun p hp => by
    rcases List.mem_append.mp hp with hp | hp
    · exact h1.at_ p hp
    · obtain ⟨q, hq, rfl⟩ := List.mem_map.mp hp
      exact h2.at_ q hq
  have ups : ∀ i, (((scaled f two.ps).take i).foldl upn one.ps).length ≤ 512 ∧ ∀ p ∈ ((scaled f two.ps).take i).foldl upn one.ps, WA n p.1 := fun i => by
    obtain ⟨_, _, r3, r4⟩ := upns_ok ((scaled f two.ps).take i) one.ps (can_nd h1.can)
    have sl : (scaled f two.ps).length = two.ps.length := by simp [scaled]
    refine ⟨by rw [List.length_take, sl] at r4; omega, fun p hp => ?_⟩
    obtain ⟨r, hr, e⟩ := r3 p hp
    rw [e]
    refine at_ r ?_
    rcases List.mem_append.mp hr with hr | hr
    · simp [hr]
    · exact List.mem_append_right _ (List.mem_of_mem_take hr)
  dsimp! []
  refine lcP_V (fun _ => true) (fun p => match p with | .tup [a, .int _] => a | p => p) (by rw [sizeLine_eq, List.length_map]; omega) (fun p hp R acc r => ?_) ?_
  · obtain ⟨p, _, rfl⟩ := List.mem_map.mp hp
    simp only [prP]
    dsimp! []
    simpa [prP] using r
  intro pa na
  have ea : (((one.ps.map prP).filter fun _ => true).map fun p => match p with | .tup [a, .int _] => a | p => p) = one.ps.map Prod.fst := by
    rw [List.filter_eq_self.mpr (by simp), List.map_map]; rfl
  rw [ea]
  dsimp! []
  refine lcP_V (fun _ => true) (fun p => match p with | .tup [_, .int m] => .int m | p => p) (by rw [sizeLine_eq, List.length_map]; omega) (fun p hp R acc r => ?_) ?_
  · obtain ⟨p, _, rfl⟩ := List.mem_map.mp hp
    simp only [prP]
    dsimp! []
    simpa [prP] using r
  intro pb nb
  have eb : (((one.ps.map prP).filter fun _ => true).map fun p => match p with | .tup [_, .int m] => PV.int m | p => p) = one.ps.map fun p => PV.int p.2 := by
    rw [List.filter_eq_self.mpr (by simp), List.map_map]; rfl
  rw [eb]
  have hab : pa ≠ pb := by rintro rfl; rw [up_same] at nb; cases nb
  have nbh : h pb = none := by rw [up_ne hab.symm] at nb; exact nb
  rw [zSeq_x]
  dsimp! []
  refine forW_V (ps := two.ps.map prP) (fun i ρ' h' => ∃ x y z : Option PV, ρ' = [some (.tup [.int one.c, .tup (one.ps.map prP)]), some (.tup [.int two.c, .tup (two.ps.map prP)]), some (.int f), some (.ref pa), some (.ref pb), x, y, z, none] ∧ Kp [] h h' ∧
    h' pa = some (.lst ((((scaled f two.ps).take i).foldl upn one.ps).map Prod.fst)) ∧ h' pb = some (.lst ((((scaled f two.ps).take i).foldl upn one.ps).map fun p => PV.int p.2))) ⟨none, none, none, rfl, ((Kp.refl [] h).new na).new nb, by rw [up_ne hab]; exact up_same, up_same⟩ ?_ ?_
  · rintro i _ h6 p ep ⟨x, y, z, rfl, k6, e1, e2⟩
    rw [List.getElem?_map] at ep
    obtain ⟨⟨a, m⟩, er, rfl⟩ := Option.map_eq_some_iff.mp ep
    have wa := h2.at_ _ (List.mem_of_getElem? er)
    have da : dat a = true ∧ a.dp ≤ 5 * n + 2 := wa_dat (show n ≤ 10 by omega) wa
    have stp : ((scaled f two.ps).take (i + 1)).foldl upn one.ps = upn (((scaled f two.ps).take i).foldl upn one.ps) (a, f * m) := by
      have : (scaled f two.ps)[i]? = some (a, f * m) := by unfold scaled; rw [List.getElem?_map, er]; rfl
      rw [List.take_add_one, this]; simp
    obtain ⟨lA, aA⟩ := ups i
    generalize ((scaled f two.ps).take i).foldl upn one.ps = acc at e1 e2 stp lA aA
    have plA : PV.pls (acc.map Prod.fst) = true := dats_pl _ (dats_of fun u hu => by
      obtain ⟨p, hp, rfl⟩ := List.mem_map.mp hu
      exact (wa_dat (show n ≤ 10 by omega) (aA p hp)).1)
    have dpA : PV.dps (acc.map Prod.fst) ≤ 5 * n + 2 := dps_of fun u hu => by
      obtain ⟨p, hp, rfl⟩ := List.mem_map.mp hu
      exact (wa_dat (show n ≤ 10 by omega) (aA p hp)).2
    simp only [prP]
    dsimp! [e1, dat_pl _ da.1, plA]
    refine ⟨by omega, by omega, ?_⟩
    by_cases hm : a ∈ acc.map Prod.fst
    · obtain ⟨v, ev, hl⟩ := fidx hm
      have hidx : (acc.map Prod.fst).findIdx (fun x => decide (x = a)) = acc.findIdx fun x => decide (x.1 = a) := by rw [List.findIdx_map]; rfl
      dsimp! [hm, e1, zIndex_r, zIdxO_l, dat_pl _ da.1, plA]
      refine ⟨by omega, by omega, ?_⟩
      rw [hidx]
      dsimp! [e2, atN, List.getElem?_map, ev, Option.map_some]
      refine ⟨mulR hf, ?_⟩
      dsimp! [e2, ixN_n (n := (acc.map fun p => PV.int p.2).length) (i := acc.findIdx fun x => decide (x.1 = a)) (by rw [List.length_map]; exact hl)]
      have eu : upn acc (a, f * m) = acc.set (acc.findIdx fun x => decide (x.1 = a)) (a, v + f * m) := by
        unfold upn
        rw [if_pos hm, List.getD_eq_getElem?_getD, ev]; rfl
      refine ⟨_, G.Sub.refl _, some a, some (.int m), some (.int (acc.findIdx fun x => decide (x.1 = a) : Nat)), rfl, k6.put0 nbh, ?_, ?_⟩
      · rw [up_ne hab, e1, stp, eu, List.map_set]
        congr 2
        apply List.ext_getElem?
        intro j
        by_cases hj : acc.findIdx (fun x => decide (x.1 = a)) = j
        · subst hj
          rw [List.getElem?_set_self (by rw [List.length_map]; exact hl), List.getElem?_map, ev]; rfl
        · rw [List.getElem?_set_ne hj]
      · rw [up_same, stp, eu, List.map_set]
    · dsimp! [hm, e1, e2]
      refine ⟨by rw [sizeLine_eq, List.length_map]; omega, ?_⟩
      dsimp! [up_ne hab.symm, e2]
      refine ⟨mulR hf, ?_⟩
      dsimp! [up_ne hab.symm, e2]
      have eu : upn acc (a, f * m) = acc ++ [(a, f * m)] := by unfold upn; rw [if_neg hm]
      refine ⟨by rw [sizeLine_eq, List.length_map]; omega, _, G.Sub.refl _, some a, some (.int m), z, rfl, (k6.put0 na).put0 nbh, ?_, ?_⟩
      · rw [up_ne hab, up_same, stp, eu, List.map_append]; rfl
      · rw [up_same, stp, eu, List.map_append]; rfl
  · rintro _ h6 ⟨x, y, z, rfl, k6, e1, e2⟩
    have hlt : (two.ps.map prP).length = (scaled f two.ps).length := by simp [scaled]
    rw [hlt, List.take_length] at e1 e2
    have up := ups (scaled f two.ps).length
    rw [List.take_length] at up
    obtain ⟨lA, aA⟩ := up
    have eq0 := lAdd_eq (f := f) h1 h2
    unfold lAdd at eq0
    generalize (scaled f two.ps).foldl upn one.ps = acc at e1 e2 lA aA eq0
    dsimp! [e1]
    refine ⟨by rw [List.length_map]; omega, by rw [List.length_map]; omega, ?_⟩
    refine lcW_R (by rw [sizeLine_eq, List.length_map]; omega) (fun i out h' => h6 = h' ∧ out = (nzs (acc.take i)).map prP) ⟨rfl, rfl⟩ (fun i out h' e => by
      rw [e.2, List.length_map]
      exact Nat.le_trans (List.length_filter_le _ _) (by rw [List.length_take]; omega)) ?_ ?_
    · rintro i _ _ hi ⟨rfl, rfl⟩
      have hi' : i < acc.length := by rw [List.length_map] at hi; omega
      have nzt : nzs (acc.take (i + 1)) = if acc[i].2 = 0 then nzs (acc.take i) else nzs (acc.take i) ++ [acc[i]] := by
        unfold nzs
        rw [List.take_add_one, List.getElem?_eq_getElem hi', Option.toList_some, List.filter_append]
        by_cases h0 : acc[i].2 = 0
        · rw [if_pos h0, List.filter_cons_of_neg (by simp [h0])]; simp
        · rw [if_neg h0, List.filter_cons_of_pos (by simp [h0])]; rfl
      dsimp! [e2, Int.zero_add, atN, List.getElem?_map, List.getElem?_eq_getElem hi', Option.map_some]
      by_cases h0 : acc[i].2 = 0
      · dsimp! [h0, Bool.not_true]
        exact ⟨h6, G.Sub.refl _, rfl, by rw [nzt, if_pos h0]⟩
      · dsimp! [h0, Bool.not_false, e1, e2, atN, List.getElem?_map, List.getElem?_eq_getElem hi', Option.map_some]
        exact ⟨by decide, h6, G.Sub.refl _, rfl, by rw [nzt, if_neg h0, List.map_append]; rfl⟩
    · rintro _ _ ⟨rfl, rfl⟩ D nD
      rw [show acc.take (((acc.map Prod.fst).length : Nat) : Int).toNat = acc by rw [List.length_map]; simp]
      dsimp! []
      refine ⟨sort_prs hn (fun p hp => aA p (List.mem_filter.mp hp).1), fun D2 nD2 => ⟨mulR hf, by decide, h, sub_of_kp ((k6.new nD).new nD2), ?_⟩⟩
      have : (addS one two f).P = .tup [.int (one.c + f * two.c), .tup (isort ((nzs acc).map prP))] := by
        rw [← eq0, ← sortPr_map]; rfl
      rw [← this]
      exact q

/-! ### leasts and greatests -/
def aloneS (a : PV) : Su := ⟨0, [(a, 1)]⟩
def unSu : PV → Su
  | .tup [.int c, .tup l] => ⟨c, l.map unPr⟩
  | _ => ⟨0, []⟩
theorem unSu_P (s : Su) : unSu s.P = s := by
  show (⟨s.c, (s.ps.map prP).map unPr⟩ : Su) = s
  rw [unPr_map]
theorem unSu_map (l : List Su) : (l.map Su.P).map unSu = l := by
  rw [List.map_map]
  have : (unSu ∘ Su.P) = id := funext unSu_P
  rw [this, List.map_id]
def inn (o : Op2) (s : Su) : Option (List Su) :=
  match s.ps with
  | [(.tup [.str x, .tup ss], m)] => if s.c = 0 ∧ m = 1 ∧ x = o.cs then some (ss.map unSu) else none
  | _ => none
/-- the four ways not to be inner -/
def NotIn (o : Op2) (s : Su) : Prop := s.c ≠ 0 ∨ s.ps.length ≠ 1 ∨ (∃ a m, s.ps = [(a, m)] ∧ m ≠ 1) ∨ ∃ x r, s.ps = [(.tup (.str x :: r), 1)] ∧ x ≠ o.cs
theorem inn_cases {n : Nat} {s : Su} (h : WS n s) {o : Op2} (ho : o = .least ∨ o = .greatest) :
    (∃ ss, s = ⟨0, [(.tup [.str o.cs, .tup (ss.map Su.P)], 1)]⟩ ∧ inn o s = some ss ∧ ss.length ≤ 2 ^ n ∧ ∀ t ∈ ss, WS n t) ∨ (inn o s = none ∧ NotIn o s) := by
  obtain ⟨c, ps⟩ := s
  match ps, h with
  | [], h => exact .inr ⟨rfl, .inr (.inl (by simp))⟩
  | _ :: _ :: _, h => exact .inr ⟨by unfold inn; split <;> simp_all, .inr (.inl (by simp))⟩
  | [(a, m)], h =>
    by_cases hc : c = 0
    case neg =>
      refine .inr ⟨?_, .inl hc⟩
      unfold inn
      split
      · rw [if_neg fun z => hc z.1]
      · rfl
    subst hc
    by_cases hm : m = 1
    case neg =>
      refine .inr ⟨?_, .inr (.inr (.inl ⟨a, m, rfl, hm⟩))⟩
      unfold inn
      split
      · rename_i e
        simp only [List.cons.injEq, Prod.mk.injEq, and_true] at e
        obtain ⟨_, rfl⟩ := e
        rw [if_neg fun z => hm z.2.1]
      · rfl
    subst hm
    have wa : WA n a := h.at_ _ List.mem_cons_self
    have hd : ∀ {a : PV}, Base a → ∃ x r, a = .tup (.str x :: r) ∧ x ≠ o.cs := fun {a} b => by
      rcases base_hd b with ⟨x, os, rfl⟩ | ⟨c, rfl⟩
      · exact ⟨_, _, rfl, by rcases ho with rfl | rfl <;> decide⟩
      · exact ⟨_, _, rfl, by rcases ho with rfl | rfl <;> decide⟩
    have no : (∃ x r, a = .tup (.str x :: r) ∧ x ≠ o.cs) → inn o ⟨0, [(a, 1)]⟩ = none ∧ NotIn o ⟨0, [(a, 1)]⟩ := fun ⟨x, r, e, hx⟩ => by
      subst e
      refine ⟨?_, .inr (.inr (.inr ⟨x, r, rfl, hx⟩))⟩
      unfold inn
      split
      · rename_i e
        simp only [List.cons.injEq, Prod.mk.injEq, and_true, PV.tup.injEq, PV.str.injEq] at e
        obtain ⟨⟨rfl, _⟩, _⟩ := e
        rw [if_neg fun z => hx z.2.2]
      · rfl
    cases n with
    | zero => exact .inr (no (hd wa))
    | succ n =>
      rcases wa with b | ⟨o', ss, h1, rfl, h3, h4⟩ | ⟨g, x, y, z, h1, rfl, h3⟩
      · exact .inr (no (hd b))
      · by_cases e : o'.cs = o.cs
        · rw [e]
          refine .inl ⟨ss, rfl, ?_, h3, fun t ht => WS.le (n := n) (by omega) ⟨(h4 t ht).1, (h4 t ht).2.1, (h4 t ht).2.2⟩⟩
          unfold inn
          simp only [and_self, if_true, unSu_map]
        · exact .inr (no ⟨_, _, rfl, e⟩)
      · exact .inr (no ⟨_, _, rfl, by rcases ho with rfl | rfl <;> decide⟩)
def spread (o : Op2) (l : List Su) : List Su := l.flatMap fun s => (inn o s).getD [s]
theorem spread_ok {n : Nat} {o : Op2} (ho : o = .least ∨ o = .greatest) : ∀ {l : List Su}, (∀ s ∈ l, WS n s) → (∀ s ∈ spread o l, WS n s) ∧ (spread o l).length ≤ l.length * 2 ^ n
  | [], _ => ⟨fun s hs => by simp [spread] at hs, by simp [spread]⟩
  | s :: l, h => by
    obtain ⟨i1, i2⟩ := spread_ok ho (l := l) fun t ht => h t (List.mem_cons_of_mem _ ht)
    have e : spread o (s :: l) = (inn o s).getD [s] ++ spread o l := by simp [spread]
    have hs := h s List.mem_cons_self
    have pw : 1 ≤ 2 ^ n := Nat.one_le_two_pow
    rw [e]
    rcases inn_cases hs ho with ⟨ss, _, e2, hl, hw⟩ | ⟨e2, _⟩
    · rw [e2]
      refine ⟨fun t ht => ?_, ?_⟩
      · rcases List.mem_append.mp ht with ht | ht
        · exact hw t ht
        · exact i1 t ht
      · rw [List.length_append, List.length_cons, Nat.add_mul, Nat.one_mul]
        simp only [Option.getD_some]; omega
    · rw [e2]
      refine ⟨fun t ht => ?_, ?_⟩
      · rcases List.mem_append.mp ht with ht | ht
        · simp at ht; subst ht; exact hs
        · exact i1 t ht
      · rw [List.length_append, List.length_cons, Nat.add_mul, Nat.one_mul]
        simp only [Option.getD_none, List.length_cons, List.length_nil]; omega
/-- is it before -/
def bet (o : Op2) (t s : Su) : Prop := if o = .least then t.c < s.c else s.c < t.c
instance (o : Op2) (t s : Su) : Decidable (bet o t s) := by unfold bet; infer_instance
structure Best (o : Op2) (out flat : List Su) : Prop where
  nd : (out.map Su.ps).Nodup
  mem : ∀ s ∈ out, s ∈ flat
  bst : ∀ s ∈ out, ∀ t ∈ flat, t.ps = s.ps → ¬ bet o t s
  all : ∀ t ∈ flat, ∃ s ∈ out, s.ps = t.ps
theorem Best.nil {o : Op2} : Best o [] [] := ⟨by simp, by simp, by simp, by simp⟩
theorem Best.sub {o : Op2} {a b f g : List Su} (h1 : Best o a f) (h2 : Best o b g) (hm : ∀ x, x ∈ f ↔ x ∈ g) {s : Su} (hs : s ∈ a) : s ∈ b := by
  obtain ⟨t, ht, e⟩ := h2.all s ((hm s).mp (h1.mem s hs))
  have b1 := h1.bst s hs t ((hm t).mpr (h2.mem t ht)) e
  have b2 := h2.bst t ht s ((hm s).mp (h1.mem s hs)) e.symm
  have : t = s := by
    obtain ⟨c, ps⟩ := t
    obtain ⟨c', ps'⟩ := s
    unfold bet at b1 b2
    dsimp only at e
    subst e
    congr 1
    split at b1 <;> simp_all <;> omega
  rw [← this]; exact ht
theorem nd_of {l : List Su} (h : (l.map Su.ps).Nodup) : l.Nodup := by
  rw [List.nodup_iff_pairwise_ne, List.pairwise_map] at h
  rw [List.nodup_iff_pairwise_ne]
  exact h.imp fun hne e => hne (congrArg Su.ps e)
theorem best_perm {o : Op2} {a b f g : List Su} (h1 : Best o a f) (h2 : Best o b g) (hm : ∀ x, x ∈ f ↔ x ∈ g) : a.Perm b :=
  (List.perm_ext_iff_of_nodup (nd_of h1.nd) (nd_of h2.nd)).mpr fun _ => ⟨h1.sub h2 hm, h2.sub h1 fun x => (hm x).symm⟩
/-- the program's step -/
def kf (acc : List Su) (t : Su) : List Su := if t.ps ∈ acc.map Su.ps then acc else acc ++ [t]
/-- the law's step -/
def kl (o : Op2) (acc : List Su) (t : Su) : List Su :=
  if t.ps ∈ acc.map Su.ps then
    if bet o t (acc.getD (acc.findIdx fun x => decide (x.ps = t.ps)) ⟨0, []⟩) then acc.set (acc.findIdx fun x => decide (x.ps = t.ps)) t else acc
  else acc ++ [t]
theorem bet_irr {o : Op2} (t : Su) : ¬ bet o t t := by unfold bet; split <;> omega
theorem Best.app {o : Op2} {acc seen : List Su} {t : Su} (h : Best o acc seen) (hn : t.ps ∉ acc.map Su.ps) : Best o (acc ++ [t]) (seen ++ [t]) := by
  refine ⟨?_, fun s hs => ?_, fun s hs u hu e => ?_, fun u hu => ?_⟩
  · rw [List.map_append, List.nodup_append]
    exact ⟨h.nd, by simp, fun x hx y hy => by simp at hy; subst hy; rintro rfl; exact hn hx⟩
  · rcases List.mem_append.mp hs with hs | hs
    · exact List.mem_append_left _ (h.mem s hs)
    · exact List.mem_append_right _ hs
  · rcases List.mem_append.mp hs with hs1 | hs1 <;> rcases List.mem_append.mp hu with hu1 | hu1
    · exact h.bst s hs1 u hu1 e
    · rw [List.mem_singleton.mp hu1] at e; exact absurd (List.mem_map.mpr ⟨s, hs1, e.symm⟩) hn
    · rw [List.mem_singleton.mp hs1] at e
      obtain ⟨v, hv, ev⟩ := h.all u hu1
      exact absurd (List.mem_map.mpr ⟨v, hv, ev.trans e⟩) hn
    · rw [List.mem_singleton.mp hs1, List.mem_singleton.mp hu1]; exact bet_irr _
  · rcases List.mem_append.mp hu with hu | hu
    · obtain ⟨v, hv, ev⟩ := h.all u hu
      exact ⟨v, List.mem_append_left _ hv, ev⟩
    · exact ⟨t, by simp, by simp at hu; rw [hu]⟩
theorem kf_ok {o : Op2} {acc seen : List Su} {t : Su} (h : Best o acc seen) (hb : ∀ s ∈ seen, t.ps = s.ps → ¬ bet o t s) : Best o (kf acc t) (seen ++ [t]) := by
  unfold kf
  by_cases hn : t.ps ∈ acc.map Su.ps
  · rw [if_pos hn]
    refine ⟨h.nd, fun s hs => List.mem_append_left _ (h.mem s hs), fun s hs u hu e => ?_, fun u hu => ?_⟩
    · rcases List.mem_append.mp hu with hu | hu
      · exact h.bst s hs u hu e
      · simp at hu; subst hu; exact hb s (h.mem s hs) e
    · rcases List.mem_append.mp hu with hu | hu
      · exact h.all u hu
      · simp at hu; subst hu
        obtain ⟨s, hs, e⟩ := List.mem_map.mp hn
        exact ⟨s, hs, e⟩
  · rw [if_neg hn]; exact h.app hn
theorem kfs_ok {o : Op2} : ∀ (rest : List Su) {acc seen : List Su}, Best o acc seen → (seen ++ rest).Pairwise (fun s t => t.ps = s.ps → ¬ bet o t s) → Best o (rest.foldl kf acc) (seen ++ rest)
  | [], acc, seen, h, _ => by simpa using h
  | t :: rest, acc, seen, h, hp => by
    have := kfs_ok rest (kf_ok h fun s hs => (List.pairwise_append.mp hp).2.2 s hs t List.mem_cons_self) (by simpa using hp)
    simpa using this
theorem fidxS {acc : List Su} {a : List Pr} (h : a ∈ acc.map Su.ps) : ∃ v, acc[acc.findIdx fun x => decide (x.ps = a)]? = some v ∧ v.ps = a ∧ acc.findIdx (fun x => decide (x.ps = a)) < acc.length := by
  obtain ⟨p, hp, rfl⟩ := List.mem_map.mp h
  have hlt : acc.findIdx (fun x => decide (x.ps = p.ps)) < acc.length := List.findIdx_lt_length_of_exists ⟨p, hp, by simp⟩
  have := List.findIdx_getElem (w := hlt)
  exact ⟨_, List.getElem?_eq_getElem hlt, by simpa using this, hlt⟩
theorem nd_inj {α : Type} {l : List α} (h : l.Nodup) {i j : Nat} (hi : i < l.length) (hj : j < l.length) (e : l[i] = l[j]) : i = j := by
  rw [List.nodup_iff_pairwise_ne, List.pairwise_iff_getElem] at h
  rcases Nat.lt_trichotomy i j with x | x | x
  · exact absurd e (h i j hi hj x)
  · exact x
  · exact absurd e.symm (h j i hj hi x)
theorem kl_ok {o : Op2} {acc seen : List Su} {t : Su} (h : Best o acc seen) : Best o (kl o acc t) (seen ++ [t]) := by
  unfold kl
  by_cases hn : t.ps ∈ acc.map Su.ps
  case neg => rw [if_neg hn]; exact h.app hn
  rw [if_pos hn]
  obtain ⟨v, ev, pv, hl⟩ := fidxS hn
  rw [List.getD_eq_getElem?_getD, ev, Option.getD_some]
  have mv := List.mem_of_getElem? ev
  have one : ∀ s ∈ acc, s.ps = t.ps → s = v := fun s hs e => by
    have nd := h.nd
    obtain ⟨i, hi, rfl⟩ := List.getElem_of_mem hs
    have e2 : (acc.map Su.ps)[i]'(by simpa using hi) = (acc.map Su.ps)[acc.findIdx fun x => decide (x.ps = t.ps)]'(by simpa using hl) := by
      rw [List.getElem_map, List.getElem_map, e]
      rw [List.getElem?_eq_getElem hl] at ev
      rw [Option.some.inj ev, pv]
    have := nd_inj nd (by simpa using hi) (by simpa using hl) e2
    subst this
    rw [List.getElem?_eq_getElem hl] at ev
    exact Option.some.inj ev
  by_cases hb : bet o t v
  · rw [if_pos hb]
    have hmap : (acc.set (acc.findIdx fun x => decide (x.ps = t.ps)) t).map Su.ps = acc.map Su.ps := by
      rw [List.map_set]
      apply List.ext_getElem?
      intro j
      by_cases hj : acc.findIdx (fun x => decide (x.ps = t.ps)) = j
      · subst hj
        rw [List.getElem?_set_self (by rw [List.length_map]; exact hl), List.getElem?_map, ev, ← pv]; rfl
      · rw [List.getElem?_set_ne hj]
    have hmem : ∀ s ∈ acc.set (acc.findIdx fun x => decide (x.ps = t.ps)) t, (s ∈ acc ∧ s.ps ≠ t.ps) ∨ s = t := fun s hs => by
      obtain ⟨j, hj, rfl⟩ := List.getElem_of_mem hs
      have hj' : j < acc.length := by simpa using hj
      by_cases e : acc.findIdx (fun x => decide (x.ps = t.ps)) = j
      · subst e; right; rw [List.getElem_set_self]
      · left
        rw [List.getElem_set_ne e]
        refine ⟨List.getElem_mem _, fun e3 => e ?_⟩
        have e2 : (acc.map Su.ps)[j]'(by simpa using hj') = (acc.map Su.ps)[acc.findIdx fun x => decide (x.ps = t.ps)]'(by simpa using hl) := by
          rw [List.getElem_map, List.getElem_map, e3]
          rw [List.getElem?_eq_getElem hl] at ev
          rw [Option.some.inj ev, pv]
        exact (nd_inj h.nd (by simpa using hj') (by simpa using hl) e2).symm
    refine ⟨by rw [hmap]; exact h.nd, fun s hs => ?_, fun s hs u hu e => ?_, fun u hu => ?_⟩
    · rcases hmem s hs with ⟨hs, _⟩ | rfl
      · exact List.mem_append_left _ (h.mem s hs)
      · simp
    · rcases hmem s hs with ⟨hs, hne⟩ | rfl
      · rcases List.mem_append.mp hu with hu | hu
        · exact h.bst s hs u hu e
        · simp at hu; subst hu; exact absurd e.symm hne
      · rcases List.mem_append.mp hu with hu | hu
        · have := h.bst v mv u hu (e.trans pv.symm)
          unfold bet at this hb ⊢
          split at this <;> simp_all <;> omega
        · simp at hu; subst hu; exact bet_irr _
    · have mt : u.ps ∈ acc.map Su.ps := by
        rcases List.mem_append.mp hu with hu | hu
        · obtain ⟨s, hs, e⟩ := h.all u hu
          exact List.mem_map.mpr ⟨s, hs, e⟩
        · simp at hu; subst hu; exact hn
      rw [← hmap] at mt
      obtain ⟨s, hs, e⟩ := List.mem_map.mp mt
      exact ⟨s, hs, e⟩
  · rw [if_neg hb]
    refine ⟨h.nd, fun s hs => List.mem_append_left _ (h.mem s hs), fun s hs u hu e => ?_, fun u hu => ?_⟩
    · rcases List.mem_append.mp hu with hu | hu
      · exact h.bst s hs u hu e
      · simp at hu; subst hu; rw [one s hs e.symm]; exact hb
    · rcases List.mem_append.mp hu with hu | hu
      · exact h.all u hu
      · simp at hu; subst hu
        obtain ⟨s, hs, e⟩ := List.mem_map.mp hn
        exact ⟨s, hs, e⟩
theorem kls_ok {o : Op2} : ∀ (rest : List Su) {acc seen : List Su}, Best o acc seen → Best o (rest.foldl (kl o) acc) (seen ++ rest)
  | [], acc, seen, h => by simpa using h
  | t :: rest, acc, seen, h => by
    have := kls_ok rest (kl_ok (t := t) h)
    simpa using this

def zExtO (l : Addr) (ys : List PV) : Option PO → PH → QV → Prop
  | some (.lst xs), h, Q => xs.length + ys.length ≤ sizeLine ∧ Q .non (up h l (.lst (xs ++ ys)))
  | _, _, _ => False
def zExtP (l : Addr) : Option PO → Option PO → PH → QV → Prop
  | some (.lst xs), some (.lst ys), h, Q => xs.length + ys.length ≤ sizeLine ∧ Q .non (up h l (.lst (xs ++ ys)))
  | _, _, _, _ => False
theorem zExt_t {l : Addr} {ys : List PV} {h : PH} {Q : QV} : zExtend (.ref l) [.tup ys] h Q = zExtO l ys (h l) h Q := by
  simp only [zExtend]
  cases h l with
  | none => rfl
  | some o => cases o <;> rfl
theorem zExt_r {l b : Addr} {h : PH} {Q : QV} : zExtend (.ref l) [.ref b] h Q = zExtP l (h l) (h b) h Q := by
  simp only [zExtend]
  cases h l with
  | none => rfl
  | some o => cases o <;> cases h b <;> first | rfl | (rename_i p; cases p <;> rfl)
theorem zExtO_l {l : Addr} {xs ys : List PV} {h : PH} {Q : QV} : zExtO l ys (some (.lst xs)) h Q = (xs.length + ys.length ≤ sizeLine ∧ Q .non (up h l (.lst (xs ++ ys)))) := rfl
theorem zExtP_l {l : Addr} {xs ys : List PV} {h : PH} {Q : QV} : zExtP l (some (.lst xs)) (some (.lst ys)) h Q = (xs.length + ys.length ≤ sizeLine ∧ Q .non (up h l (.lst (xs ++ ys)))) := rfl
theorem cast1 : ((1 : Nat) : Int) = 1 := rfl
theorem spread_snoc {o : Op2} {l : List Su} {s : Su} : spread o (l ++ [s]) = spread o l ++ (inn o s).getD [s] := by simp [spread]
theorem c_spread_out {k n : Nat} (hk : 1 ≤ k) (hn : n ≤ 8) {o : Op2} (ho : o = .least ∨ o = .greatest) {l : List Su} (hl : l.length ≤ 8) (hw : ∀ s ∈ l, WS n s) {h : PH} {a : Addr} (ha : h a = some (.lst (l.map Su.P))) {Q : QV}
    (q : ∀ d h', h d = none → Kp [] h h' → h' d = some (.lst ((spread o l).map Su.P)) → Q (.ref d) h') : (wC k).spread_out [.str o.cs, .ref a] h Q := by
  obtain ⟨k, rfl⟩ : ∃ j, k = j + 1 := ⟨k - 1, by omega⟩
  show zFn _ _ (b_spread_out (wC k)) [.str o.cs, .ref a] h Q
  unfold b_spread_out
  have pw : 2 ^ n ≤ 256 := Nat.le_trans (Nat.pow_le_pow_right (by omega) hn) (by decide)
  dsimp! []
  refine ⟨by decide, fun d nd => ?_⟩
  have hd : d ≠ a := by rintro rfl; rw [ha] at nd; cases nd
  rw [zSeq_x]
  dsimp! [up_ne hd.symm, ha]
  refine forW_L (ps := l.map Su.P) (fun i ρ' h' => ∃ x y : Option PV, ρ' = [some (.str o.cs), some (.ref a), some (.ref d), x, y] ∧ Kp [] h h' ∧ h' d = some (.lst ((spread o (l.take i)).map Su.P))) ⟨none, none, rfl, (Kp.refl [] h).new nd, up_same⟩ ?_ ?_ ?_
  · rintro i _ h' _ ⟨x, y, rfl, k', e⟩
    exact k' a _ (by simp) ha
  · rintro i _ h6 p ep ⟨x, y, rfl, k6, e1⟩
    rw [List.getElem?_map] at ep
    obtain ⟨s, er, rfl⟩ := Option.map_eq_some_iff.mp ep
    have ws := hw s (List.mem_of_getElem? er)
    have stp : spread o (l.take (i + 1)) = spread o (l.take i) ++ (inn o s).getD [s] := by rw [List.take_add_one, er]; exact spread_snoc
    have sz : (spread o (l.take i)).length ≤ 2048 := by
      have := (spread_ok ho (l := l.take i) fun s hs => hw s (List.mem_of_mem_take hs)).2
      rw [List.length_take] at this
      exact Nat.le_trans this (Nat.le_trans (Nat.mul_le_mul (Nat.le_trans (Nat.min_le_right ..) hl) pw) (by decide))
    have sz2 : ((spread o (l.take i)).map Su.P).length ≤ 2048 := by rw [List.length_map]; exact sz
    generalize spread o (l.take i) = acc at e1 stp sz sz2
    have fin : ∀ (v : Option PV) (h7 : PH), Kp [] h6 h7 → ∃ x y : Option PV, [some (.str o.cs), some (.ref a), some (.ref d), some s.P, v] = [some (.str o.cs), some (.ref a), some (.ref d), x, y] ∧ Kp [] h (up h7 d (.lst (acc.map Su.P ++ ((inn o s).getD [s]).map Su.P))) ∧ up h7 d (.lst (acc.map Su.P ++ ((inn o s).getD [s]).map Su.P)) d = some (.lst ((spread o (l.take (i + 1))).map Su.P)) := fun v h7 k7 =>
      ⟨_, _, rfl, (k6.trans k7).put0 nd, by rw [up_same, stp, List.map_append]⟩
    rcases inn_cases ws ho with ⟨ss, e, e2, hl2, hw2⟩ | ⟨e2, hno⟩
    · rw [e2, Option.getD_some] at fin
      rw [e] at fin ⊢
      simp only [Su.P, prP, List.map_cons, List.map_nil] at fin ⊢
      dsimp! [e1, zExt_t, zExtO_l, cast1]
      exact ⟨by rw [sizeLine_eq, List.length_map (f := Su.P) (as := ss)]; omega, _, G.Sub.refl _, fin _ h6 (Kp.refl _ _)⟩
    · rw [e2, Option.getD_none] at fin
      obtain ⟨c, ps⟩ := s
      simp only [Su.P, List.map_cons, List.map_nil] at fin ⊢
      have out : ∀ v, 1 ≤ sizeLine ∧ ∀ p, h6 p = none → zExtP d (up h6 p (.lst [.tup [.int c, .tup (ps.map prP)]]) d) (some (.lst [.tup [.int c, .tup (ps.map prP)]])) (up h6 p (.lst [.tup [.int c, .tup (ps.map prP)]])) fun _ h1 => ∃ h2, G.Sub h2 h1 ∧ ∃ x y : Option PV, [some (.str o.cs), some (.ref a), some (.ref d), some (.tup [.int c, .tup (ps.map prP)]), v] = [some (.str o.cs), some (.ref a), some (.ref d), x, y] ∧ Kp [] h h2 ∧ h2 d = some (.lst ((spread o (l.take (i + 1))).map Su.P)) := fun v => by
        refine ⟨by decide, fun p np => ?_⟩
        have hp : d ≠ p := by rintro rfl; rw [e1] at np; cases np
        rw [up_ne hp, e1, zExtP_l]
        exact ⟨by rw [sizeLine_eq, List.length_singleton]; omega, _, G.Sub.refl _, fin v _ ((Kp.refl [] h6).new np)⟩
      by_cases hc : c = 0
      case neg =>
        dsimp! [e1, zExt_r, zExtP_l, hc]
        exact out _
      by_cases hlen : ps.length = 1
      case neg =>
        dsimp! [e1, zExt_r, zExtP_l, hc, show ((ps.map prP).length : Int) = 1 ↔ False from ⟨fun z => hlen (by rw [List.length_map] at z; omega), False.elim⟩]
        subst hc
        exact out _
      rcases hno with hno | hno | ⟨b, m, e, hm⟩ | ⟨x, r, e, hx⟩
      · exact absurd hc hno
      · exact absurd hlen hno
      · simp only at e
        subst e
        simp only [prP, List.map_cons, List.map_nil] at out ⊢
        subst hc
        dsimp! [e1, zExt_r, zExtP_l, cast1, hm]
        exact out _
      · simp only at e
        subst e
        simp only [prP, List.map_cons, List.map_nil] at out ⊢
        subst hc
        dsimp! [e1, zExt_r, zExtP_l, cast1, hx]
        exact out _
  · rintro _ h6 ⟨x, y, rfl, k6, e1⟩
    rw [List.length_map, List.take_length] at e1
    dsimp! []
    exact ⟨h6, G.Sub.refl _, q d h6 nd k6 e1⟩

def sortSu (l : List Su) : List Su := (isort (l.map Su.P)).map unSu
theorem sortSu_map (l : List Su) : (sortSu l).map Su.P = isort (l.map Su.P) := (back_map Su.P unSu unSu_P (isort_perm _)).1
theorem sortSu_perm (l : List Su) : (sortSu l).Perm l := (back_map Su.P unSu unSu_P (isort_perm _)).2
def rowsS (o : Op2) (l : List Su) : List Su := if o = .least then sortSu (spread o l) else (sortSu (spread o l)).reverse
def leftS (o : Op2) (l : List Su) : List Su := (rowsS o l).foldl kf []
def endS (o : Op2) (l : List Su) : Su := match l with
  | [s] => s
  | l => aloneS (.tup [.str o.cs, .tup ((sortSu l).map Su.P)])
def chosenS (o : Op2) (l : List Su) : Su := endS o (leftS o l)
theorem rowsS_mem {o : Op2} {l : List Su} (x : Su) : x ∈ rowsS o l ↔ x ∈ spread o l := by
  unfold rowsS
  split
  · exact (sortSu_perm _).mem_iff
  · rw [List.mem_reverse]; exact (sortSu_perm _).mem_iff
theorem cmpS {n : Nat} {l : List Su} (h : ∀ s ∈ l, WS n s) : Cmpb (l.map Su.P) := fun p hp q hq => by
  obtain ⟨s, hs, rfl⟩ := List.mem_map.mp hp
  obtain ⟨t, ht, rfl⟩ := List.mem_map.mp hq
  exact ws_cmp (h s hs) (h t ht)
theorem o_su {s t : Su} (e : t.ps = s.ps) (h : t.c < s.c) : PV.o t.P s.P = true := by
  have : PV.lt? t.P s.P = some true := by
    simp only [Su.P, PV.lt?, PV.lts?, e]
    rw [if_neg (by simp; omega)]
    simp [h]
  exact PV.o_of this
theorem rows_pw {o : Op2} (ho : o = .least ∨ o = .greatest) {l : List Su} : (rowsS o l).Pairwise fun s t => t.ps = s.ps → ¬ bet o t s := by
  have asc : (sortSu (spread o l)).Pairwise fun s t => PV.o t.P s.P = false := by
    have := (isort_ok ((spread o l).map Su.P)).1
    rw [← sortSu_map] at this
    exact List.pairwise_map.mp this
  unfold rowsS
  rcases ho with rfl | rfl
  · rw [if_pos rfl]
    refine asc.imp fun {s t} h e hb => ?_
    unfold bet at hb
    rw [if_pos rfl] at hb
    rw [o_su e hb] at h; cases h
  · rw [if_neg (by decide), List.pairwise_reverse]
    refine asc.imp fun {s t} h e hb => ?_
    unfold bet at hb
    rw [if_neg (by decide)] at hb
    rw [o_su e.symm hb] at h; cases h
theorem left_best {o : Op2} (ho : o = .least ∨ o = .greatest) {l : List Su} : Best o (leftS o l) (rowsS o l) := by
  have := kfs_ok (o := o) (rowsS o l) Best.nil (by simpa using rows_pw ho)
  rw [List.nil_append] at this
  exact this
/-- both ways come to one -/
theorem endS_congr {n : Nat} {o : Op2} {a b : List Su} (ha : ∀ s ∈ a, WS n s) (h : a.Perm b) : endS o a = endS o b := by
  have e : (sortSu a).map Su.P = (sortSu b).map Su.P := by
    rw [sortSu_map, sortSu_map]
    exact isort_congr (cmpS ha) (h.map _)
  match a, b, h.length_eq with
  | [], [], _ => rfl
  | [x], [y], _ => rw [List.singleton_perm_singleton.mp h]
  | x :: y :: a, x' :: y' :: b, _ => simp only [endS, e]
theorem law_best {n : Nat} {o : Op2} (ho : o = .least ∨ o = .greatest) {l : List Su} (hw : ∀ s ∈ l, WS n s) : endS o ((spread o l).foldl (kl o) []) = chosenS o l := by
  have b1 := kls_ok (o := o) (spread o l) Best.nil
  rw [List.nil_append] at b1
  have p := best_perm b1 (left_best ho (l := l)) fun x => (rowsS_mem x).symm
  exact endS_congr (fun s hs => (spread_ok ho hw).1 s (b1.mem s hs)) p
theorem endS_ok {n : Nat} {o : Op2} (ho : o = .least ∨ o = .greatest) {l : List Su} (hw : ∀ s ∈ l, WS n s) (hl : l.length ≤ 2 ^ (n + 1)) : WS (n + 1) (endS o l) := by
  have al : WS (n + 1) (aloneS (.tup [.str o.cs, .tup ((sortSu l).map Su.P)])) := by
    refine ⟨Nat.one_le_two_pow, ⟨by simp [aloneS], by simp [aloneS]⟩, fun p hp => ?_⟩
    rw [List.mem_singleton.mp hp]
    refine .inr (.inl ⟨o, sortSu l, ho, rfl, by rw [(sortSu_perm l).length_eq]; exact hl, fun s hs => ?_⟩)
    have := hw s ((sortSu_perm l).mem_iff.mp hs)
    exact ⟨this.len, this.can, this.at_⟩
  match l with
  | [s] => exact (hw s List.mem_cons_self).le (by omega)
  | [] => exact al
  | _ :: _ :: _ => exact al
theorem kf_len (acc : List Su) (t : Su) : (kf acc t).length ≤ acc.length + 1 := by unfold kf; split <;> simp
theorem kfs_len : ∀ (rest acc : List Su), (rest.foldl kf acc).length ≤ acc.length + rest.length
  | [], _ => Nat.le_refl _
  | t :: rest, acc => by
    have := kfs_len rest (kf acc t)
    have := kf_len acc t
    rw [List.foldl_cons, List.length_cons]; omega
theorem rows_len {o : Op2} {l : List Su} : (rowsS o l).length = (spread o l).length := by
  unfold rowsS
  split
  · exact (sortSu_perm _).length_eq
  · rw [List.length_reverse]; exact (sortSu_perm _).length_eq
theorem chosenS_ok {n : Nat} {o : Op2} (ho : o = .least ∨ o = .greatest) {l : List Su} (hw : ∀ s ∈ l, WS n s) (hl : l.length ≤ 2) : WS (n + 1) (chosenS o l) := by
  obtain ⟨s1, s2⟩ := spread_ok ho hw
  refine endS_ok ho (fun s hs => s1 s ((rowsS_mem s).mp ((left_best ho).mem s hs))) ?_
  have := kfs_len (rowsS o l) []
  rw [rows_len] at this
  have e : l.length * 2 ^ n ≤ 2 * 2 ^ n := Nat.mul_le_mul_right _ hl
  rw [Nat.pow_succ]
  unfold leftS
  simp only [List.length_nil] at this
  omega
theorem c_alone {k : Nat} (hk : 1 ≤ k) {a : PV} {h : PH} {Q : QV} (q : Q (aloneS a).P h) : (wC k).alone [a] h Q := by
  obtain ⟨k, rfl⟩ : ∃ j, k = j + 1 := ⟨k - 1, by omega⟩
  show zFn _ _ (b_alone (wC k)) [a] h Q
  unfold b_alone
  dsimp! []
  exact ⟨by decide, by decide, by decide, h, G.Sub.refl _, q⟩
theorem sort_sus {n : Nat} (hn : n ≤ 8) {l : List Su} (h : ∀ s ∈ l, WS n s) : sortOk (l.map Su.P) = true := by
  have h1 : PV.pls (l.map Su.P) = true := dats_pl _ (dats_of fun x hx => by
    obtain ⟨p, hp, rfl⟩ := List.mem_map.mp hx
    exact (ws_dat (by omega) (h p hp)).1)
  have h2 : PV.dps (l.map Su.P) ≤ 5 * n + 5 := dps_of fun x hx => by
    obtain ⟨p, hp, rfl⟩ := List.mem_map.mp hx
    exact (ws_dat (by omega) (h p hp)).2
  unfold sortOk
  simp only [Bool.and_eq_true, Bool.or_eq_true, decide_eq_true_eq, List.all_eq_true, h1, hdAll]
  refine ⟨⟨⟨trivial, by omega⟩, fun x hx y hy => cmpS h x hx y hy⟩, ?_⟩
  exact .inl (.inl (.inr fun x hx => by obtain ⟨s, _, rfl⟩ := List.mem_map.mp hx; rfl))

theorem ws_ps {n : Nat} {s : Su} (hn : n ≤ 10) (w : WS n s) : dat (.tup (s.ps.map prP)) = true ∧ (PV.tup (s.ps.map prP)).dp ≤ 5 * n + 5 := by
  obtain ⟨d1, d2⟩ := ws_dat hn w
  refine ⟨?_, ?_⟩
  · simp only [Su.P, dat, dats, Bool.and_eq_true] at d1 ⊢
    exact d1.2.2.1
  · simp only [Su.P, PV.dp, PV.dps] at d2 ⊢
    omega
theorem ps_mem {s : Su} {acc : List Su} : (PV.tup (s.ps.map prP) ∈ acc.map fun t => PV.tup (t.ps.map prP)) ↔ s.ps ∈ acc.map Su.ps := by
  rw [List.mem_map, List.mem_map]
  exact ⟨fun ⟨t, ht, e⟩ => ⟨t, ht, map_prP_inj (by simpa using e)⟩, fun ⟨t, ht, e⟩ => ⟨t, ht, by rw [e]⟩⟩
theorem c_chosen {k n : Nat} (hk : 2 ≤ k) (hn : n ≤ 8) {o : Op2} (ho : o = .least ∨ o = .greatest) {l : List Su} (hl : l.length ≤ 2) (hw : ∀ s ∈ l, WS n s) {h : PH} {a : Addr} (ha : h a = some (.lst (l.map Su.P))) {Q : QV}
    (q : Q (chosenS o l).P h) : (wC k).chosen [.str o.cs, .ref a] h Q := by
  obtain ⟨k, rfl⟩ : ∃ j, k = j + 1 := ⟨k - 1, by omega⟩
  show zFn _ _ (b_chosen (wC k)) [.str o.cs, .ref a] h Q
  unfold b_chosen
  have pw : 2 ^ n ≤ 256 := Nat.le_trans (Nat.pow_le_pow_right (by omega) hn) (by decide)
  obtain ⟨s1, s2⟩ := spread_ok ho hw
  have sl : (spread o l).length ≤ 512 := Nat.le_trans s2 (Nat.le_trans (Nat.mul_le_mul hl pw) (by decide))
  have rw_ : ∀ s ∈ rowsS o l, WS n s := fun s hs => s1 s ((rowsS_mem s).mp hs)
  have rl : (rowsS o l).length ≤ 512 := by rw [rows_len]; exact sl
  have tl : ∀ i, (((rowsS o l).take i).foldl kf []).length ≤ 512 := fun i => by
    have := kfs_len ((rowsS o l).take i) []
    rw [List.length_take] at this
    simp only [List.length_nil] at this; omega
  have tw : ∀ i, ∀ s ∈ ((rowsS o l).take i).foldl kf [], WS n s := fun i s hs => by
    have b := kfs_ok (o := o) ((rowsS o l).take i) Best.nil (by rw [List.nil_append]; exact (rows_pw ho).sublist (List.take_sublist ..))
    exact rw_ s (List.mem_of_mem_take (b.mem s hs))
  dsimp! []
  refine ⟨by decide, fun d nd => ?_⟩
  have hd : d ≠ a := by rintro rfl; rw [ha] at nd; cases nd
  dsimp! []
  refine c_spread_out (n := n) (by omega) hn ho (l := l) (by omega) hw (by rw [up_ne hd.symm]; exact ha) fun d2 h2 n2 k2 e2 => ?_
  dsimp! [e2]
  refine ⟨sort_sus hn s1, fun d3 n3 => ?_⟩
  have k3 : Kp [] (up h d (.lst [])) (up h2 d3 (.lst (isort ((spread o l).map Su.P)))) := k2.new n3
  generalize he : up h2 d3 (.lst (isort ((spread o l).map Su.P))) = h3 at k3
  have e3 : h3 d3 = some (.lst ((sortSu (spread o l)).map Su.P)) := by rw [← he, up_same, sortSu_map]
  have k4 : Kp [] h h3 := ((Kp.refl [] h).new nd).trans k3
  have ed : h3 d = some (.lst []) := k3 d _ (by simp) up_same
  have hd3 : d3 ≠ d := by
    rintro rfl
    have := k2 d3 _ (by simp) up_same
    rw [n3] at this; cases this
  clear he k3 e2 k2 n2 n3
  let P : Ev → PH → Prop := fun ρ' h' => ∃ x y : Option PV, ρ' = [some (.str o.cs), some (.ref a), some (.ref d), some (.ref d3), x, y, none, none] ∧ Kp [] h h' ∧ h' d = some (.lst ((leftS o l).map Su.P))
  have loop : ∀ (rr : Addr) (h4 : PH) (X : Ev → PH → Prop) (R : QV), h4 rr = some (.lst ((rowsS o l).map Su.P)) → h4 d = some (.lst []) → Kp [] h h4 → rr ≠ d → (∀ ρ' h', P ρ' h' → X ρ' h') →
      ForW (ZitL rr) (zgTup 2 (zgCons (zgName 4) (zgCons (zgName 5) zgNil))) (zIfS (ztB (z2 (zInn true) (zVar 5) (zLc (zsAny (zVar 2)) (zgTup 2 (zgCons (zgName 6) (zgCons (zgName 7) zgNil))) ztYes (zVar 7) [6, 7]))) (zDrop (zMt "list" zAppend (zVar 2) (zaCons (zTup (zaCons (zVar 4) (zaCons (zVar 5) zaNil))) zaNil))) zNext)
        { nx := X, rt := R } [some (.str o.cs), some (.ref a), some (.ref d), some (.ref d3), none, none, none, none] h4 := fun rr h4 X R er ed4 k5 hr fx => by
    refine forW_L (ps := (rowsS o l).map Su.P) (fun i ρ' h' => ∃ x y : Option PV, ρ' = [some (.str o.cs), some (.ref a), some (.ref d), some (.ref d3), x, y, none, none] ∧ Kp [] h h' ∧ h' rr = some (.lst ((rowsS o l).map Su.P)) ∧ h' d = some (.lst ((((rowsS o l).take i).foldl kf []).map Su.P))) ⟨none, none, rfl, k5, er, ed4⟩ (fun i _ h' _ ⟨x, y, _, _, e, _⟩ => e) ?_ ?_
    · rintro i _ h6 p ep ⟨x, y, rfl, k6, e1, e2⟩
      rw [List.getElem?_map] at ep
      obtain ⟨s, es, rfl⟩ := Option.map_eq_some_iff.mp ep
      have ws := rw_ s (List.mem_of_getElem? es)
      have stp : ((rowsS o l).take (i + 1)).foldl kf [] = kf (((rowsS o l).take i).foldl kf []) s := by rw [List.take_add_one, es]; simp
      have l6 := tl i
      have w6 := tw i
      generalize ((rowsS o l).take i).foldl kf [] = acc at e2 stp l6 w6
      simp only [Su.P]
      dsimp! [e2]
      refine lcP_L (ps := acc.map Su.P) (fun _ => true) (fun p => match p with | .tup [_, z] => z | p => p) (by rw [sizeLine_eq, List.length_map]; omega) e2 (fun p hp R acc r => ?_) ?_
      · obtain ⟨t, _, rfl⟩ := List.mem_map.mp hp
        simp only [Su.P]
        dsimp! []
        simpa [Su.P] using r
      intro D nD
      have em : (((acc.map Su.P).filter fun _ => true).map fun p => match p with | .tup [_, z] => z | p => p) = acc.map fun t => PV.tup (t.ps.map prP) := by
        rw [List.filter_eq_self.mpr (by simp), List.map_map]; rfl
      rw [em]
      dsimp! []
      have p1 := ws_ps (show n ≤ 10 by omega) ws
      have pA : ∀ x ∈ acc.map fun t => PV.tup (t.ps.map prP), dat x = true ∧ x.dp ≤ 5 * n + 5 := fun x hx => by
        obtain ⟨t, ht, rfl⟩ := List.mem_map.mp hx
        exact ws_ps (by omega) (w6 t ht)
      have dA := dps_of fun x hx => (pA x hx).2
      have hD : d ≠ D := by rintro rfl; rw [e2] at nD; cases nD
      have hR : rr ≠ D := by rintro rfl; rw [e1] at nD; cases nD
      refine ⟨dat_pl _ p1.1, by have := p1.2; omega, dats_pl _ (dats_of fun x hx => (pA x hx).1), by omega, ?_⟩
      by_cases hm : (PV.tup (s.ps.map prP) ∈ acc.map fun t => PV.tup (t.ps.map prP))
      · dsimp! [hm, Bool.not_true]
        refine ⟨_, G.Sub.refl _, some (.int s.c), some (.tup (s.ps.map prP)), rfl, k6.new nD, by rw [up_ne hR]; exact e1, ?_⟩
        rw [up_ne hD, e2, stp]
        unfold kf
        rw [if_pos (ps_mem.mp hm)]
      · dsimp! [hm, Bool.not_false, up_ne hD, e2]
        refine ⟨by decide, by rw [sizeLine_eq, List.length_map]; omega, _, G.Sub.refl _, some (.int s.c), some (.tup (s.ps.map prP)), rfl, (k6.new nD).put0 nd, by rw [up_ne hr, up_ne hR]; exact e1, ?_⟩
        rw [up_same, stp]
        unfold kf
        rw [if_neg fun z => hm (ps_mem.mpr z), List.map_append]; rfl
    · rintro _ h6 ⟨x, y, rfl, k6, e1, e2⟩
      rw [List.length_map, List.take_length] at e2
      exact fx _ _ ⟨x, y, rfl, k6, e2⟩
  refine zSeq_key P ?_ fun X fx => ?_
  · rintro _ h6 ⟨x, y, rfl, k6, e6⟩
    have ll : (leftS o l).length ≤ 512 := by have := tl (rowsS o l).length; rwa [List.take_length] at this
    have lw : ∀ s ∈ leftS o l, WS n s := by have := tw (rowsS o l).length; rwa [List.take_length] at this
    unfold chosenS at q
    generalize leftS o l = left at e6 ll lw q
    dsimp! [e6]
    by_cases h1 : left.length = 1
    · obtain ⟨s, rfl⟩ : ∃ s, left = [s] := by
        match left, h1 with
        | [s], _ => exact ⟨s, rfl⟩
      dsimp! [cast1]
      exact ⟨h, sub_of_kp k6, q⟩
    · dsimp! [show ((left.map Su.P).length : Int) = 1 ↔ False from ⟨fun z => h1 (by rw [List.length_map] at z; omega), False.elim⟩]
      refine ⟨sort_sus hn lw, fun d5 n5 => ⟨by decide, c_alone (by omega) ⟨h, sub_of_kp (k6.new n5), ?_⟩⟩⟩
      have e : endS o left = aloneS (.tup [.str o.cs, .tup (isort (left.map Su.P))]) := by
        rw [← sortSu_map]
        match left, h1 with
        | [], _ => rfl
        | _ :: _ :: _, _ => rfl
      rw [← e]
      exact q
  · rcases ho with rfl | rfl
    · dsimp! [e3]
      exact loop d3 h3 X _ e3 ed k4 hd3 fx
    · dsimp! [show (Op2.greatest.cs = [108, 101, 97, 115, 116]) ↔ False from by decide, zRev, e3]
      intro d4 n4
      have h44 : d4 ≠ d := by rintro rfl; rw [ed] at n4; cases n4
      refine loop d4 _ X _ (by rw [up_same, ← List.map_reverse]; rfl) (by rw [up_ne h44.symm]; exact ed) (k4.new n4) h44 fx

def holdsS (g : Sg) (c : Int) : Bool := if g = .lt then decide (c < 0) else decide (c = 0)
def pickedS (g : Sg) (c y n : Su) : Su := if c.ps = [] then (if holdsS g c.c = true then y else n) else if y = n then y else aloneS (.tup [(PV.str [112, 105, 99, 107]), .str g.cs, c.P, y.P, n.P])
def fwdOk : List Pr → Bool
  | [] => true
  | p :: _ => decide (0 < p.2)
def forwardS (c : Su) : Su := if fwdOk c.ps = true then c else addS ⟨0, []⟩ c (-1)
def tidyPickS (g : Sg) (l r y n : Su) : Su := match g with
  | .eq => pickedS .eq (forwardS (addS l r (-1))) y n
  | .ne => pickedS .eq (forwardS (addS l r (-1))) n y
  | .lt => pickedS .lt (addS l r (-1)) y n
  | .ge => pickedS .lt (addS l r (-1)) n y
  | .gt => pickedS .lt (addS r l (-1)) y n
  | .le => pickedS .lt (addS r l (-1)) n y
theorem c_picked {k n : Nat} (hk : 2 ≤ k) (hn : n ≤ 9) {g : Sg} (hg : g = .lt ∨ g = .eq) {c y z : Su} (h1 : WS n c) (h2 : WS n y) (h3 : WS n z) {h : PH} {Q : QV} (q : Q (pickedS g c y z).P h) : (wC k).picked [.str g.cs, c.P, y.P, z.P] h Q := by
  obtain ⟨k, rfl⟩ : ∃ j, k = j + 1 := ⟨k - 1, by omega⟩
  obtain ⟨dy, ey⟩ := ws_dat (show n ≤ 10 by omega) h2
  obtain ⟨dz, ez⟩ := ws_dat (show n ≤ 10 by omega) h3
  obtain ⟨c, ps⟩ := c
  have yz : y.P = z.P ↔ y = z := ⟨SuP_inj, fun e => by rw [e]⟩
  show zFn _ _ (b_picked (wC k)) [.str g.cs, .tup [.int c, .tup (ps.map prP)], y.P, z.P] h Q
  unfold b_picked
  unfold pickedS at q
  dsimp only at q
  match ps, q with
  | [], q =>
    rw [if_pos rfl] at q
    have yy : Q y.P h → ∃ h2, G.Sub h2 h ∧ Q y.P h2 := fun z => ⟨h, G.Sub.refl _, z⟩
    dsimp! []
    rw [zSeq_x]
    rcases hg with rfl | rfl
    · rw [show holdsS .lt c = decide (c < 0) from rfl] at q
      dsimp! [Sg.cs, List.isEmpty_nil, Bool.not_true, Bool.not_false]
      by_cases e : c < 0
      · rw [if_pos (by simpa using e)] at q
        dsimp! [e]
        exact ⟨h, G.Sub.refl _, q⟩
      · rw [if_neg (by simpa using e)] at q
        dsimp! [e]
        exact ⟨h, G.Sub.refl _, q⟩
    · rw [show holdsS .eq c = decide (c = 0) from rfl] at q
      dsimp! [Sg.cs, List.isEmpty_nil, Bool.not_true, Bool.not_false, show ([61, 61] : List Nat) = [60] ↔ False from by decide]
      by_cases e : c = 0
      · rw [if_pos (by simpa using e)] at q
        dsimp! [e]
        exact ⟨h, G.Sub.refl _, q⟩
      · rw [if_neg (by simpa using e)] at q
        dsimp! [e]
        exact ⟨h, G.Sub.refl _, q⟩
  | p :: ps, q =>
    rw [if_neg (by simp)] at q
    dsimp! []
    rw [zSeq_x]
    dsimp! [zEq_dat dy dz (by omega) (by omega), yz, List.isEmpty_cons, Bool.not_true, Bool.not_false]
    by_cases e : y = z
    · rw [if_pos e] at q
      dsimp! [e]
      exact ⟨h, G.Sub.refl _, e ▸ q⟩
    · rw [if_neg e] at q
      dsimp! [e]
      exact ⟨by decide, c_alone (by omega) ⟨h, G.Sub.refl _, q⟩⟩
theorem c_forward {k n : Nat} (hk : 2 ≤ k) (hn : n ≤ 8) {c : Su} (h1 : WS n c) {h : PH} {Q : QV} (q : Q (forwardS c).P h) : (wC k).forward [c.P] h Q := by
  obtain ⟨k, rfl⟩ : ∃ j, k = j + 1 := ⟨k - 1, by omega⟩
  have h0 : WS n ⟨0, []⟩ := ⟨Nat.zero_le _, ⟨by simp, by simp⟩, by simp⟩
  obtain ⟨c, ps⟩ := c
  show zFn _ _ (b_forward (wC k)) [.tup [.int c, .tup (ps.map prP)]] h Q
  unfold b_forward
  unfold forwardS at q
  dsimp only at q
  match ps, q, h1 with
  | [], q, h1 =>
    dsimp! []
    exact ⟨h, G.Sub.refl _, q⟩
  | (a, m) :: ps, q, h1 =>
    simp only [prP, List.map_cons]
    by_cases e : 0 < m
    · rw [if_pos (show fwdOk ((a, m) :: ps) = true by simpa [fwdOk] using e)] at q
      dsimp! [e, List.isEmpty_cons, Bool.not_true, Bool.not_false]
      exact ⟨h, G.Sub.refl _, q⟩
    · rw [if_neg (show ¬ fwdOk ((a, m) :: ps) = true by simpa [fwdOk] using e)] at q
      dsimp! [e, List.isEmpty_cons, Bool.not_true, Bool.not_false]
      exact c_added (n := n) (one := ⟨0, []⟩) (two := ⟨c, (a, m) :: ps⟩) (by omega) hn h0 h1 (by decide) ⟨h, G.Sub.refl _, q⟩
theorem ws_mono {n m : Nat} {s : Su} (h : n ≤ m) (w : WS n s) : WS m s := w.le h
theorem addS_ws {n : Nat} {one two : Su} {f : Int} (h1 : WS n one) (h2 : WS n two) : WS (n + 1) (addS one two f) := by
  obtain ⟨a1, a2, a3, a4⟩ := addS_ok (f := f) h1 h2
  refine ⟨?_, a1, fun p hp => (a3 p hp).up⟩
  have := h1.len
  have := h2.len
  rw [Nat.pow_succ]; omega

/-- the atoms of level n, twice as many -/
structure WT (n : Nat) (s : Su) : Prop where
  len : s.ps.length ≤ 2 ^ (n + 1)
  can : Can s.ps
  at_ : ∀ p ∈ s.ps, WA n p.1
theorem WS.wt {n : Nat} {s : Su} (w : WS n s) : WT n s := ⟨Nat.le_trans w.len (Nat.pow_le_pow_right (by omega) (by omega)), w.can, w.at_⟩
theorem WT.ws {n : Nat} {s : Su} (w : WT n s) : WS (n + 1) s := ⟨w.len, w.can, fun p hp => (w.at_ p hp).up⟩
theorem addS_wt {n : Nat} {one two : Su} {f : Int} (h1 : WS n one) (h2 : WS n two) : WT n (addS one two f) := by
  obtain ⟨a1, a2, a3, a4⟩ := addS_ok (f := f) h1 h2
  have := h1.len
  have := h2.len
  exact ⟨by rw [Nat.pow_succ]; omega, a1, a3⟩
theorem forwardS_wt {n : Nat} {c : Su} (h : WT n c) : WT n (forwardS c) := by
  unfold forwardS
  split
  · exact h
  · have h0 : WS (n + 1) ⟨0, []⟩ := ⟨Nat.zero_le _, ⟨by simp, by simp⟩, by simp⟩
    obtain ⟨a1, a2, a3, a4⟩ := addS_ok (f := -1) h0 h.ws
    refine ⟨?_, a1, fun p hp => ?_⟩
    · have := h.len
      simp only [List.length_nil] at a4
      omega
    · have e : tot (addS ⟨0, []⟩ c (-1)).ps p.1 ≠ 0 := by
        have := a1.nz p hp
        have o : tot (addS ⟨0, []⟩ c (-1)).ps p.1 = p.2 := by
          obtain ⟨l1, l2, e⟩ := List.append_of_mem hp
          rw [e, tot_app, tot_cons, if_pos rfl]
          have s := a1.srt
          rw [e, List.pairwise_append, List.pairwise_cons] at s
          rw [tot_none fun x hx z => ?_, tot_none fun x hx z => ?_]
          · omega
          · have := s.2.1.1 x hx
            rw [z, o_irr] at this; cases this
          · have := s.2.2 x hx p List.mem_cons_self
            rw [z, o_irr] at this; cases this
        omega
      rw [a2, tot_nil] at e
      by_cases z : ∃ q ∈ c.ps, q.1 = p.1
      · obtain ⟨q, hq, eq⟩ := z
        rw [← eq]; exact h.at_ q hq
      · exact absurd (by rw [tot_none fun q hq eq => z ⟨q, hq, eq⟩]; rfl) e
theorem pickedS_ws {n : Nat} {g : Sg} (hg : g = .lt ∨ g = .eq) {c y z : Su} (h1 : WT n c) (h2 : WS n y) (h3 : WS n z) : WS (n + 1) (pickedS g c y z) := by
  unfold pickedS
  split
  · split
    · exact h2.wt.ws
    · exact h3.wt.ws
  · split
    · exact h2.wt.ws
    · refine ⟨Nat.one_le_two_pow, ⟨by simp [aloneS], by simp [aloneS]⟩, fun p hp => ?_⟩
      rw [List.mem_singleton.mp hp]
      refine .inr (.inr ⟨g, c, y, z, hg, rfl, fun s hs => ?_⟩)
      rcases List.mem_cons.mp hs with rfl | hs
      · exact ⟨h1.len, h1.can, h1.at_⟩
      · rcases List.mem_cons.mp hs with rfl | hs
        · exact ⟨h2.wt.len, h2.wt.can, h2.wt.at_⟩
        · rw [List.mem_singleton.mp hs]
          exact ⟨h3.wt.len, h3.wt.can, h3.wt.at_⟩
theorem tidyPickS_ws {n : Nat} {g : Sg} {l r y z : Su} (h1 : WS n l) (h2 : WS n r) (h3 : WS n y) (h4 : WS n z) : WS (n + 1) (tidyPickS g l r y z) := by
  cases g <;> simp only [tidyPickS]
  · exact pickedS_ws (.inl rfl) (addS_wt h1 h2) h3 h4
  · exact pickedS_ws (.inl rfl) (addS_wt h2 h1) h4 h3
  · exact pickedS_ws (.inl rfl) (addS_wt h2 h1) h3 h4
  · exact pickedS_ws (.inl rfl) (addS_wt h1 h2) h4 h3
  · exact pickedS_ws (.inr rfl) (forwardS_wt (addS_wt h1 h2)) h3 h4
  · exact pickedS_ws (.inr rfl) (forwardS_wt (addS_wt h1 h2)) h4 h3
theorem c_tidy_pick {k n : Nat} (hk : 4 ≤ k) (hn : n ≤ 7) {g : Sg} {l r y z : Su} (h1 : WS n l) (h2 : WS n r) (h3 : WS n y) (h4 : WS n z) {h : PH} {Q : QV} (q : Q (tidyPickS g l r y z).P h) : (wC k).tidy_pick [.str g.cs, l.P, r.P, y.P, z.P] h Q := by
  obtain ⟨k, rfl⟩ : ∃ j, k = j + 1 := ⟨k - 1, by omega⟩
  show zFn _ _ (b_tidy_pick (wC k)) [.str g.cs, l.P, r.P, y.P, z.P] h Q
  unfold b_tidy_pick
  have y1 := h3.wt.ws
  have z1 := h4.wt.ws
  cases g <;> simp only [tidyPickS] at q <;> (dsimp! [Sg.cs]; rw [zSeq_x]; dsimp! [])
  · refine ⟨by decide, by decide, by decide, by decide, by decide, ?_⟩
    rw [if_neg (by decide)]
    dsimp! []
    rw [zSeq_x]
    dsimp! []
    refine ⟨by decide, by decide, by decide, by decide, by decide, ?_⟩
    rw [if_pos (by decide)]
    refine c_added (by omega) (by omega) h1 h2 (by decide) ?_
    dsimp! []
    refine ⟨by decide, by decide, by decide, by decide, by decide, ?_⟩
    rw [if_pos (by decide)]
    exact c_picked (n := n + 1) (by omega) (by omega) (g := .lt) (.inl rfl) (addS_wt h1 h2).ws y1 z1 ⟨h, G.Sub.refl _, q⟩
  · refine ⟨by decide, by decide, by decide, by decide, by decide, ?_⟩
    rw [if_neg (by decide)]
    dsimp! []
    rw [zSeq_x]
    dsimp! []
    refine ⟨by decide, by decide, by decide, by decide, by decide, ?_⟩
    rw [if_neg (by decide)]
    refine c_added (by omega) (by omega) h2 h1 (by decide) ?_
    dsimp! []
    refine ⟨by decide, by decide, by decide, by decide, by decide, ?_⟩
    rw [if_neg (by decide)]
    exact c_picked (n := n + 1) (by omega) (by omega) (g := .lt) (.inl rfl) (addS_wt h2 h1).ws z1 y1 ⟨h, G.Sub.refl _, q⟩
  · refine ⟨by decide, by decide, by decide, by decide, by decide, ?_⟩
    rw [if_neg (by decide)]
    dsimp! []
    rw [zSeq_x]
    dsimp! []
    refine ⟨by decide, by decide, by decide, by decide, by decide, ?_⟩
    rw [if_neg (by decide)]
    refine c_added (by omega) (by omega) h2 h1 (by decide) ?_
    dsimp! []
    refine ⟨by decide, by decide, by decide, by decide, by decide, ?_⟩
    rw [if_pos (by decide)]
    exact c_picked (n := n + 1) (by omega) (by omega) (g := .lt) (.inl rfl) (addS_wt h2 h1).ws y1 z1 ⟨h, G.Sub.refl _, q⟩
  · refine ⟨by decide, by decide, by decide, by decide, by decide, ?_⟩
    rw [if_neg (by decide)]
    dsimp! []
    rw [zSeq_x]
    dsimp! []
    refine ⟨by decide, by decide, by decide, by decide, by decide, ?_⟩
    rw [if_pos (by decide)]
    refine c_added (by omega) (by omega) h1 h2 (by decide) ?_
    dsimp! []
    refine ⟨by decide, by decide, by decide, by decide, by decide, ?_⟩
    rw [if_neg (by decide)]
    exact c_picked (n := n + 1) (by omega) (by omega) (g := .lt) (.inl rfl) (addS_wt h1 h2).ws z1 y1 ⟨h, G.Sub.refl _, q⟩
  · refine ⟨by decide, by decide, by decide, by decide, by decide, ?_⟩
    rw [if_pos (by decide)]
    refine c_added (by omega) (by omega) h1 h2 (by decide) ?_
    refine c_forward (n := n + 1) (by omega) (by omega) (addS_ws h1 h2) ?_
    exact c_picked (n := n + 1) (by omega) (by omega) (g := .eq) (.inr rfl) (forwardS_wt (addS_wt h1 h2)).ws y1 z1 ⟨h, G.Sub.refl _, q⟩
  · refine ⟨by decide, by decide, by decide, by decide, by decide, ?_⟩
    rw [if_pos (by decide)]
    refine c_added (by omega) (by omega) h1 h2 (by decide) ?_
    refine c_forward (n := n + 1) (by omega) (by omega) (addS_ws h1 h2) ?_
    rw [if_neg (by decide)]
    exact c_picked (n := n + 1) (by omega) (by omega) (g := .eq) (.inr rfl) (forwardS_wt (addS_wt h1 h2)).ws z1 y1 ⟨h, G.Sub.refl _, q⟩

theorem c__law_tidy_pick {k n : Nat} (hk : 4 ≤ k) (hn : n ≤ 7) {g : Sg} {l r y z : Su} (h1 : WS n l) (h2 : WS n r) (h3 : WS n y) (h4 : WS n z) {h : PH} {Q : QV} (q : Q (tidyPickS g l r y z).P h) : (wC k)._law_tidy_pick [.str g.cs, l.P, r.P, y.P, z.P] h Q := by
  obtain ⟨k, rfl⟩ : ∃ j, k = j + 1 := ⟨k - 1, by omega⟩
  show zFn _ _ (b__law_tidy_pick (wC k)) [.str g.cs, l.P, r.P, y.P, z.P] h Q
  unfold b__law_tidy_pick
  dsimp! []
  refine zSeq_key (fun ρ' h' => ∃ (g' : Sg) (y' z' : Su), ρ' = [some (.str g'.cs), some l.P, some r.P, some y'.P, some z'.P, none] ∧ Kp [] h h' ∧ WS n y' ∧ WS n z' ∧ (g' = .lt ∨ g' = .gt ∨ g' = .eq) ∧ tidyPickS g l r y z = tidyPickS g' l r y' z') ?_ fun X fx => ?_
  · rintro _ h6 ⟨g', y', z', rfl, k6, w1, w2, hg, e⟩
    rw [e] at q
    clear e
    dsimp! []
    refine c_ladd (n := n) (by omega) (by omega) h1 h2 (by decide) ?_
    dsimp! []
    refine zSeq_key (fun ρ' h' => ∃ (g2 : Sg) (c : Su), ρ' = [some (.str g2.cs), some l.P, some r.P, some y'.P, some z'.P, some c.P] ∧ Kp [] h h' ∧ WT n c ∧ ((g2 = .lt ∧ tidyPickS g' l r y' z' = pickedS .lt c y' z') ∨ (g2 = .eq ∧ tidyPickS g' l r y' z' = pickedS .eq (forwardS c) y' z'))) ?_ fun X fx => ?_
    · rintro _ h7 ⟨g2, c, rfl, k7, wc, hc⟩
      refine zSeq_key (fun ρ' h' => ∃ c : Su, ρ' = [some (.str g2.cs), some l.P, some r.P, some y'.P, some z'.P, some c.P] ∧ Kp [] h h' ∧ WT n c ∧ (g2 = .lt ∨ g2 = .eq) ∧ tidyPickS g' l r y' z' = pickedS g2 c y' z') ?_ fun X fx => ?_
      · rintro _ h8 ⟨c, rfl, k8, wc, hg2, e⟩
        rw [e] at q
        clear e
        obtain ⟨c, ps⟩ := c
        match ps, q, wc with
        | [], q, wc =>
          rw [show pickedS g2 ⟨c, []⟩ y' z' = if holdsS g2 c = true then y' else z' from rfl] at q
          rw [zSeq_x]
          simp only [Su.P, List.map_nil]
          dsimp! []
          refine ⟨by decide, by decide, by decide, by decide, by decide, by decide, fun p np => ?_⟩
          rcases hg2 with rfl | rfl
          · rw [show holdsS .lt c = decide (c < 0) from rfl] at q
            by_cases hc : c < 0
            · rw [if_pos (by simpa using hc)] at q
              dsimp! [Sg.cs, hc]
              exact ⟨h, sub_of_kp (k8.new np), q⟩
            · rw [if_neg (by simpa using hc)] at q
              dsimp! [Sg.cs, hc, show ([60] : List Nat) = [61, 61] ↔ False from by decide]
              exact ⟨h, sub_of_kp (k8.new np), q⟩
          · rw [show holdsS .eq c = decide (c = 0) from rfl] at q
            by_cases hc : c = 0
            · rw [if_pos (by simpa using hc)] at q
              dsimp! [Sg.cs, hc, show ([61, 61] : List Nat) = [60] ↔ False from by decide]
              exact ⟨h, sub_of_kp (k8.new np), q⟩
            · rw [if_neg (by simpa using hc)] at q
              dsimp! [Sg.cs, hc, show ([61, 61] : List Nat) = [60] ↔ False from by decide]
              exact ⟨h, sub_of_kp (k8.new np), q⟩
        | p :: ps, q, wc =>
          have dc := ws_ps (show n + 1 ≤ 10 by omega) wc.ws
          simp only [List.map_cons] at dc
          obtain ⟨dy, ey⟩ := ws_dat (show n ≤ 10 by omega) w1
          obtain ⟨dz, ez⟩ := ws_dat (show n ≤ 10 by omega) w2
          have yz : y'.P = z'.P ↔ y' = z' := ⟨SuP_inj, fun e => by rw [e]⟩
          rw [show pickedS g2 ⟨c, p :: ps⟩ y' z' = if y' = z' then y' else aloneS (.tup [(PV.str [112, 105, 99, 107]), .str g2.cs, (⟨c, p :: ps⟩ : Su).P, y'.P, z'.P]) from rfl] at q
          rw [zSeq_x]
          dsimp! [show (⟨c, p :: ps⟩ : Su).P = .tup [.int c, .tup (prP p :: ps.map prP)] from rfl]
          have pl := dat_pl _ dc.1
          have dp := dc.2
          simp only [PV.pl] at pl
          simp only [PV.dp] at dp
          refine ⟨by decide, pl, by decide, by omega, by decide, ?_⟩
          rw [if_neg (by simp)]
          rw [zSeq_x]
          dsimp! [zEq_dat dy dz (by omega) (by omega), yz]
          by_cases e : y' = z'
          · rw [if_pos e] at q
            dsimp! [e]
            exact ⟨h, sub_of_kp k8, e ▸ q⟩
          · rw [if_neg e] at q
            dsimp! [e]
            exact ⟨by decide, by decide, by decide, by decide, h, sub_of_kp k8, q⟩
      · obtain ⟨c, ps⟩ := c
        rcases hc with ⟨rfl, e⟩ | ⟨rfl, e⟩
        · dsimp! [Sg.cs, Su.P]
          exact fx _ _ ⟨⟨c, ps⟩, rfl, k7, wc, .inl rfl, e⟩
        · have cw := wc.ws
          have h0 : WS (n + 1) ⟨0, []⟩ := ⟨Nat.zero_le _, ⟨by simp, by simp⟩, by simp⟩
          match ps, e, wc, cw with
          | [], e, wc, cw =>
            dsimp! [Sg.cs, Su.P]
            refine ⟨by decide, ?_⟩
            rw [zNot_ok, zEq_dat rfl rfl (by decide) (by decide)]
            dsimp! [zNotI, Bool.not_true]
            exact fx _ _ ⟨⟨c, []⟩, rfl, k7, wc, .inr rfl, by rw [e]; rfl⟩
          | (a, m) :: ps, e, wc, cw =>
            have da := ws_ps (show n + 1 ≤ 10 by omega) cw
            simp only [List.map_cons] at da
            dsimp! [Sg.cs, Su.P]
            refine ⟨by decide, ?_⟩
            rw [zNot_ok, zEq_dat (q := .tup []) da.1 rfl (by have := da.2; omega) (by decide)]
            dsimp! [zNotI, Bool.not_false, prP, PV.tup.injEq]
            have nz : m ≠ 0 := wc.can.nz _ List.mem_cons_self
            by_cases hm : m < 0
            · dsimp! [hm]
              have ef : forwardS ⟨c, (a, m) :: ps⟩ = addS ⟨0, []⟩ ⟨c, (a, m) :: ps⟩ (-1) := if_neg (show ¬ fwdOk ((a, m) :: ps) = true by simp only [fwdOk, decide_eq_true_eq]; omega)
              refine ⟨by decide, by decide, c_ladd (n := n + 1) (one := ⟨0, []⟩) (two := ⟨c, (a, m) :: ps⟩) (by omega) (by omega) h0 cw (by decide) ?_⟩
              exact fx _ _ ⟨_, rfl, k7, ef ▸ forwardS_wt wc, .inr rfl, by rw [e, ef]⟩
            · dsimp! [hm]
              have ef : forwardS ⟨c, (a, m) :: ps⟩ = ⟨c, (a, m) :: ps⟩ := if_pos (show fwdOk ((a, m) :: ps) = true by simp only [fwdOk, decide_eq_true_eq]; omega)
              exact fx _ _ ⟨⟨c, (a, m) :: ps⟩, rfl, k7, wc, .inr rfl, by rw [e, ef]⟩
    · rcases hg with rfl | rfl | rfl <;> dsimp! [Sg.cs]
      · exact fx _ _ ⟨.lt, _, rfl, k6, addS_wt h1 h2, .inl ⟨rfl, rfl⟩⟩
      · refine c_ladd (n := n) (by omega) (by omega) h2 h1 (by decide) ?_
        dsimp! []
        exact fx _ _ ⟨.lt, _, rfl, k6, addS_wt h2 h1, .inl ⟨rfl, rfl⟩⟩
      · exact fx _ _ ⟨.eq, _, rfl, k6, addS_wt h1 h2, .inr ⟨rfl, rfl⟩⟩
  · have no : ∀ p, h p = none → ∀ g', (g' = .lt ∨ g' = .gt ∨ g' = .eq) → tidyPickS g l r y z = tidyPickS g' l r y z → X [some (.str g'.cs), some l.P, some r.P, some y.P, some z.P, none] (up h p (.lst [(PV.str [60, 61]), (PV.str [62, 61]), (PV.str [33, 61])])) := fun p np g' hg e => fx _ _ ⟨g', y, z, rfl, (Kp.refl [] h).new np, h3, h4, hg, e⟩
    cases g <;> dsimp! [Sg.cs]
    · refine ⟨by decide, fun p np => ⟨by decide, by decide, by decide, by decide, ?_⟩⟩
      rw [if_neg (by decide)]
      exact no p np .lt (.inl rfl) rfl
    · refine ⟨by decide, fun p np => ⟨by decide, by decide, by decide, by decide, ?_⟩⟩
      rw [if_pos (by decide)]
      refine ⟨by decide, by decide, fun p2 n2 => ⟨by decide, (PV.str [62]), by decide, ?_⟩⟩
      dsimp! [zPar]
      exact fx _ _ ⟨.gt, z, y, rfl, ((Kp.refl [] h).new np).new n2, h4, h3, by simp, rfl⟩
    · refine ⟨by decide, fun p np => ⟨by decide, by decide, by decide, by decide, ?_⟩⟩
      rw [if_neg (by decide)]
      exact no p np .gt (.inr (.inl rfl)) rfl
    · refine ⟨by decide, fun p np => ⟨by decide, by decide, by decide, by decide, ?_⟩⟩
      rw [if_pos (by decide)]
      refine ⟨by decide, by decide, fun p2 n2 => ⟨by decide, (PV.str [60]), by decide, ?_⟩⟩
      dsimp! [zPar]
      exact fx _ _ ⟨.lt, z, y, rfl, ((Kp.refl [] h).new np).new n2, h4, h3, by simp, rfl⟩
    · refine ⟨by decide, fun p np => ⟨by decide, by decide, by decide, by decide, ?_⟩⟩
      rw [if_neg (by decide)]
      exact no p np .eq (.inr (.inr rfl)) rfl
    · refine ⟨by decide, fun p np => ⟨by decide, by decide, by decide, by decide, ?_⟩⟩
      rw [if_pos (by decide)]
      refine ⟨by decide, by decide, fun p2 n2 => ⟨by decide, (PV.str [61, 61]), by decide, ?_⟩⟩
      dsimp! [zPar]
      exact fx _ _ ⟨.eq, z, y, rfl, ((Kp.refl [] h).new np).new n2, h4, h3, by simp, rfl⟩

def sameL (acc : List Su) (ps : List Pr) : List Nat := (List.range acc.length).filter fun i => decide ((acc.getD i ⟨0, []⟩).ps = ps)
theorem sameL_no {acc : List Su} {ps : List Pr} (h : ps ∉ acc.map Su.ps) : sameL acc ps = [] := by
  unfold sameL
  rw [List.filter_eq_nil_iff]
  intro i hi e
  have hi := List.mem_range.mp hi
  rw [List.getD_eq_getElem?_getD, List.getElem?_eq_getElem hi] at e
  exact h (List.mem_map.mpr ⟨_, List.getElem_mem hi, by simpa using e⟩)
theorem filt_first {p : Nat → Bool} {n k : Nat} (hk : k < n) (h1 : p k = true) (h2 : ∀ i, i < k → p i = false) : ∃ t, (List.range n).filter p = k :: t := by
  have e : List.range n = List.range k ++ (k :: (List.range n).drop (k + 1)) := by
    apply List.ext_getElem?
    intro i
    rcases Nat.lt_trichotomy i k with x | x | x
    · rw [List.getElem?_append_left (by simpa using x), List.getElem?_range x, List.getElem?_range (by omega)]
    · subst x
      rw [List.getElem?_append_right (by simp), List.getElem?_range hk]; simp
    · rw [List.getElem?_append_right (by simp; omega), List.length_range, show i - k = (i - k - 1) + 1 by omega, List.getElem?_cons_succ, List.getElem?_drop]
      congr 1; omega
  rw [e, List.filter_append, List.filter_cons_of_pos h1]
  have : (List.range k).filter p = [] := by
    rw [List.filter_eq_nil_iff]
    intro i hi
    rw [h2 i (List.mem_range.mp hi)]; decide
  rw [this]
  exact ⟨_, rfl⟩
theorem sameL_yes {acc : List Su} {ps : List Pr} (h : ps ∈ acc.map Su.ps) : ∃ t, sameL acc ps = (acc.findIdx fun x => decide (x.ps = ps)) :: t := by
  obtain ⟨v, ev, pv, hl⟩ := fidxS h
  refine filt_first hl ?_ fun i hi => ?_
  · rw [List.getD_eq_getElem?_getD, ev]; simpa using pv
  · have := List.not_of_lt_findIdx hi
    have hi' : i < acc.length := by omega
    rw [List.getD_eq_getElem?_getD, List.getElem?_eq_getElem hi']
    simpa using this
theorem kl_len (o : Op2) (acc : List Su) (t : Su) : (kl o acc t).length ≤ acc.length + 1 := by unfold kl; split <;> (try split) <;> simp
theorem kls_len (o : Op2) : ∀ (rest acc : List Su), (rest.foldl (kl o) acc).length ≤ acc.length + rest.length
  | [], _ => Nat.le_refl _
  | t :: rest, acc => by
    have := kls_len o rest (kl o acc t)
    have := kl_len o acc t
    rw [List.foldl_cons, List.length_cons]; omega
theorem ints_dat (l : List Nat) : PV.pls (l.map fun i : Nat => PV.int (i : Int)) = true ∧ PV.dps (l.map fun i : Nat => PV.int (i : Int)) = 0 := by
  induction l with
  | nil => exact ⟨rfl, rfl⟩
  | cons x l ih => simp [PV.pls, PV.pl, PV.dps, PV.dp, ih]
theorem c__law_tidy_many {k n : Nat} (hk : 1 ≤ k) (hn : n ≤ 8) {o : Op2} (ho : o = .least ∨ o = .greatest) {l : List Su} (hl : l.length ≤ 2) (hw : ∀ s ∈ l, WS n s) {h : PH} {a : Addr} (ha : h a = some (.lst (l.map Su.P))) {Q : QV}
    (q : Q (chosenS o l).P h) : (wC k)._law_tidy_many [.str o.cs, .ref a] h Q := by
  obtain ⟨k, rfl⟩ : ∃ j, k = j + 1 := ⟨k - 1, by omega⟩
  show zFn _ _ (b__law_tidy_many (wC k)) [.str o.cs, .ref a] h Q
  unfold b__law_tidy_many
  have pw : 2 ^ n ≤ 256 := Nat.le_trans (Nat.pow_le_pow_right (by omega) hn) (by decide)
  obtain ⟨s1, s2⟩ := spread_ok ho hw
  have sl : (spread o l).length ≤ 512 := Nat.le_trans s2 (Nat.le_trans (Nat.mul_le_mul hl pw) (by decide))
  dsimp! []
  refine ⟨by decide, fun d nd => ?_⟩
  have hd : d ≠ a := by rintro rfl; rw [ha] at nd; cases nd
  refine zSeq_key (fun ρ' h' => ∃ (x : Option PV) (d : Addr), ρ' = [some (.str o.cs), some (.ref a), some (.ref d), x, none, none, none] ∧ Kp [] h h' ∧ h d = none ∧ h' d = some (.lst ((spread o l).map Su.P))) ?_ fun X fx => ?_
  · rintro _ h6 ⟨x, d, rfl, k6, nd, e6⟩
    have tl : ∀ i, (((spread o l).take i).foldl (kl o) []).length ≤ 512 := fun i => by
      have := kls_len o ((spread o l).take i) []
      rw [List.length_take] at this
      simp only [List.length_nil] at this; omega
    have tw : ∀ i, ∀ s ∈ ((spread o l).take i).foldl (kl o) [], WS n s := fun i s hs => by
      have b := kls_ok (o := o) ((spread o l).take i) Best.nil
      exact s1 s (List.mem_of_mem_take (b.mem s hs))
    have lb := law_best ho hw
    dsimp! []
    refine ⟨by decide, fun e n0 => ?_⟩
    have ne : h e = none := kp_fresh k6 n0
    have hde : d ≠ e := by rintro rfl; rw [e6] at n0; cases n0
    rw [zSeq_x]
    dsimp! [up_ne hde, e6]
    refine forW_L (ps := (spread o l).map Su.P) (fun i ρ' h' => ∃ x y z : Option PV, ρ' = [some (.str o.cs), some (.ref a), some (.ref d), x, some (.ref e), y, z] ∧ Kp [] h h' ∧ h' d = some (.lst ((spread o l).map Su.P)) ∧ h' e = some (.lst ((((spread o l).take i).foldl (kl o) []).map Su.P))) ⟨x, none, none, rfl, k6.new n0, by rw [up_ne hde]; exact e6, up_same⟩ (fun i _ h' _ ⟨_, _, _, _, _, e, _⟩ => e) ?_ ?_
    · rintro i _ h7 p ep ⟨x, y, z, rfl, k7, e1, e2⟩
      rw [List.getElem?_map] at ep
      obtain ⟨s, es, rfl⟩ := Option.map_eq_some_iff.mp ep
      have ws := s1 s (List.mem_of_getElem? es)
      have stp : ((spread o l).take (i + 1)).foldl (kl o) [] = kl o (((spread o l).take i).foldl (kl o) []) s := by rw [List.take_add_one, es]; simp
      have l6 := tl i
      have w6 := tw i
      rw [stp]
      clear stp
      generalize ((spread o l).take i).foldl (kl o) [] = acc at e2 l6 w6
      have sP : ∀ t : Su, t.P = .tup [.int t.c, .tup (t.ps.map prP)] := fun _ => rfl
      have ds := ws_ps (show n ≤ 10 by omega) ws
      dsimp! [e2]
      refine ⟨by rw [List.length_map]; omega, by rw [List.length_map]; omega, ?_⟩
      refine lcP_R (fun p => match p with | .int i => decide ((acc.getD i.toNat ⟨0, []⟩).ps = s.ps) | _ => false) (fun p => p) (by rw [sizeLine_eq, List.length_map]; omega) (fun j hj R out r => ?_) ?_
      · have hj' : j < acc.length := by rw [List.length_map] at hj; omega
        have dj := ws_ps (show n ≤ 10 by omega) (w6 _ (List.getElem_mem hj'))
        dsimp! [e2, Int.zero_add, atN, List.getElem?_map, List.getElem?_eq_getElem hj', Option.map_some, sP]
        have pj := dat_pl _ dj.1
        have ps := dat_pl _ ds.1
        have qj := dj.2
        have qs := ds.2
        simp only [PV.pl] at pj
        simp only [PV.dp] at qj
        refine ⟨pj, ps, by omega, by omega, ?_⟩
        simp only [Int.zero_add, Int.toNat_natCast, List.getD_eq_getElem?_getD, List.getElem?_eq_getElem hj', Option.getD_some] at r
        by_cases e : acc[j].ps = s.ps
        · dsimp! [e]
          rw [if_pos (by simpa using e)] at r
          exact r
        · dsimp! [PV.tup.injEq, show (acc[j].ps.map prP = s.ps.map prP) ↔ False from ⟨fun z => e (map_prP_inj z), False.elim⟩]
          rw [if_neg (by simpa using e)] at r
          exact r
      intro D nD
      have eL : ((((List.range ((((acc.map Su.P).length : Nat) : Int)).toNat).map fun i : Nat => PV.int ((0 : Int) + i)).filter fun p => match p with | .int i => decide ((acc.getD i.toNat ⟨0, []⟩).ps = s.ps) | _ => false).map fun p => p) = (sameL acc s.ps).map fun i : Nat => PV.int (i : Int) := by
        rw [show (fun p : PV => p) = id from rfl, List.map_id, List.filter_map, sameL]
        simp only [List.length_map, Int.toNat_natCast]
        congr 1
        · funext i; simp
        · congr 1; funext i; simp
      rw [eL]
      have hD : d ≠ D := by rintro rfl; rw [e1] at nD; cases nD
      have hE : e ≠ D := by rintro rfl; rw [e2] at nD; cases nD
      obtain ⟨dl1, dl2⟩ := ints_dat (sameL acc s.ps)
      dsimp! []
      refine ⟨by decide, fun p np => ?_⟩
      have hDp : D ≠ p := by rintro rfl; rw [up_same] at np; cases np
      have np' : h7 p = none := by rw [up_ne hDp.symm] at np; exact np
      have hEp : e ≠ p := by rintro rfl; rw [e2] at np'; cases np'
      have hDp' : d ≠ p := by rintro rfl; rw [e1] at np'; cases np'
      have eD : up (up h7 D (.lst ((sameL acc s.ps).map fun i : Nat => PV.int (i : Int)))) p (.lst []) D = some (.lst ((sameL acc s.ps).map fun i : Nat => PV.int (i : Int))) := by rw [up_ne hDp, up_same]
      have eE : up (up h7 D (.lst ((sameL acc s.ps).map fun i : Nat => PV.int (i : Int)))) p (.lst []) e = some (.lst (acc.map Su.P)) := by rw [up_ne hEp, up_ne hE]; exact e2
      have ed : up (up h7 D (.lst ((sameL acc s.ps).map fun i : Nat => PV.int (i : Int)))) p (.lst []) d = some (.lst ((spread o l).map Su.P)) := by rw [up_ne hDp', up_ne hD]; exact e1
      have k8 : Kp [] h (up (up h7 D (.lst ((sameL acc s.ps).map fun i : Nat => PV.int (i : Int)))) p (.lst [])) := (k7.new nD).new np
      generalize up (up h7 D (.lst ((sameL acc s.ps).map fun i : Nat => PV.int (i : Int)))) p (.lst []) = h8 at eD eE ed k8 ⊢
      have fin : ∀ (L : List Su) (u : Option PV), kl o acc s = L → ∃ h2, G.Sub h2 (up h8 e (.lst (L.map Su.P))) ∧ ∃ x y z_1 : Option PV, [some (PV.str o.cs), some (.ref a), some (.ref d), some s.P, some (.ref e), some (.ref D), u] = [some (.str o.cs), some (.ref a), some (.ref d), x, some (.ref e), y, z_1] ∧ Kp [] h h2 ∧ h2 d = some (.lst ((spread o l).map Su.P)) ∧ h2 e = some (.lst ((kl o acc s).map Su.P)) := fun L u eq =>
        ⟨_, G.Sub.refl _, _, _, _, rfl, k8.put0 ne, by rw [up_ne hde]; exact ed, by rw [up_same, eq]⟩
      have stay : ∀ (u : Option PV), kl o acc s = acc → ∃ h2, G.Sub h2 h8 ∧ ∃ x y z_1 : Option PV, [some (PV.str o.cs), some (.ref a), some (.ref d), some s.P, some (.ref e), some (.ref D), u] = [some (.str o.cs), some (.ref a), some (.ref d), x, some (.ref e), y, z_1] ∧ Kp [] h h2 ∧ h2 d = some (.lst ((spread o l).map Su.P)) ∧ h2 e = some (.lst ((kl o acc s).map Su.P)) := fun u eq =>
        ⟨_, G.Sub.refl _, _, _, _, rfl, k8, ed, by rw [eq]; exact eE⟩
      by_cases hm : s.ps ∈ acc.map Su.ps
      · obtain ⟨t, et⟩ := sameL_yes hm
        obtain ⟨v, ev, pv, hl⟩ := fidxS hm
        rw [et] at eD dl1 dl2
        have hlen : (acc.map Su.P).length = acc.length := List.length_map _
        have ekl : kl o acc s = if bet o s v then acc.set (acc.findIdx fun x => decide (x.ps = s.ps)) s else acc := by
          unfold kl
          rw [if_pos hm, List.getD_eq_getElem?_getD, ev, Option.getD_some]
        have ev' : atI (acc.map Su.P) ((acc.findIdx fun x => decide (x.ps = s.ps) : Nat) : Int) = some (.tup [.int v.c, .tup (v.ps.map prP)]) := by
          rw [atN, List.getElem?_map, ev]; rfl
        have ixv : ixN acc.length ((acc.findIdx fun x => decide (x.ps = s.ps) : Nat) : Int) = some (acc.findIdx fun x => decide (x.ps = s.ps)) := ixN_n hl
        rw [List.map_cons] at eD dl1 dl2
        dsimp! [eD]
        refine ⟨dl1, rfl, by omega, by decide, ?_⟩
        dsimp! [eD, eE, sP, ev', hlen, ixv]
        rcases ho with rfl | rfl
        · dsimp! [Op2.cs, show (([108, 101, 97, 115, 116] : List Nat) = [103, 114, 101, 97, 116, 101, 115, 116]) ↔ False from by decide]
          by_cases hb : s.c < v.c
          · rw [if_pos (show bet .least s v from hb)] at ekl
            dsimp! [hb]
            have := fin _ z ekl
            rw [List.map_set] at this
            exact this
          · rw [if_neg (show ¬ bet .least s v from hb)] at ekl
            dsimp! [hb]
            exact stay z ekl
        · dsimp! [Op2.cs, show (([103, 114, 101, 97, 116, 101, 115, 116] : List Nat) = [108, 101, 97, 115, 116]) ↔ False from by decide]
          by_cases hb : v.c < s.c
          · rw [if_pos (show bet .greatest s v from hb)] at ekl
            dsimp! [hb]
            have := fin _ z ekl
            rw [List.map_set] at this
            exact this
          · rw [if_neg (show ¬ bet .greatest s v from hb)] at ekl
            dsimp! [hb]
            exact stay z ekl
      · rw [sameL_no hm] at eD
        have ekl : kl o acc s = acc ++ [s] := by unfold kl; rw [if_neg hm]
        rw [List.map_nil] at eD
        dsimp! [eD]
        refine ⟨rfl, rfl, by decide, by decide, ?_⟩
        dsimp! [eE]
        refine ⟨by rw [sizeLine_eq, List.length_map]; omega, ?_⟩
        have := fin _ z ekl
        rw [List.map_append] at this
        exact this
    · rintro _ h7 ⟨x, y, z, rfl, k7, e1, e2⟩
      rw [List.length_map, List.take_length] at e2
      have ll := tl (spread o l).length
      have lw := tw (spread o l).length
      rw [List.take_length] at ll lw
      rw [← lb] at q
      generalize (spread o l).foldl (kl o) [] = left at e2 ll lw q
      dsimp! []
      rw [zSeq_x]
      dsimp! [e2]
      by_cases h1 : left.length = 1
      · obtain ⟨s, rfl⟩ : ∃ s, left = [s] := by
          match left, h1 with
          | [s], _ => exact ⟨s, rfl⟩
        dsimp! [cast1]
        exact ⟨h, sub_of_kp k7, q⟩
      · dsimp! [show ((left.map Su.P).length : Int) = 1 ↔ False from ⟨fun z => h1 (by rw [List.length_map] at z; omega), False.elim⟩]
        have ee : endS o left = aloneS (.tup [.str o.cs, .tup (isort (left.map Su.P))]) := by
          rw [← sortSu_map]
          match left, h1 with
          | [], _ => rfl
          | _ :: _ :: _, _ => rfl
        rw [ee] at q
        refine ⟨sort_sus hn lw, fun d5 n5 => ?_⟩
        exact ⟨by decide, by decide, by decide, by decide, h, sub_of_kp (k7.new n5), q⟩
  · dsimp! [up_ne hd.symm, ha]
    refine forW_L (ps := l.map Su.P) (fun i ρ' h' => ∃ (x : Option PV) (d : Addr), ρ' = [some (.str o.cs), some (.ref a), some (.ref d), x, none, none, none] ∧ Kp [] h h' ∧ h d = none ∧ h' d = some (.lst ((spread o (l.take i)).map Su.P))) ⟨none, d, rfl, (Kp.refl [] h).new nd, nd, up_same⟩ ?_ ?_ ?_
    · rintro i _ h' _ ⟨x, d, rfl, k', _, e⟩
      exact k' a _ (by simp) ha
    · clear nd hd d
      rintro i _ h6 p ep ⟨x, d, rfl, k6, nd, e1⟩
      rw [List.getElem?_map] at ep
      obtain ⟨s, er, rfl⟩ := Option.map_eq_some_iff.mp ep
      have ws := hw s (List.mem_of_getElem? er)
      have stp : spread o (l.take (i + 1)) = spread o (l.take i) ++ (inn o s).getD [s] := by rw [List.take_add_one, er]; exact spread_snoc
      have sz : (spread o (l.take i)).length ≤ 512 := by
        have := (spread_ok ho (l := l.take i) fun s hs => hw s (List.mem_of_mem_take hs)).2
        rw [List.length_take] at this
        exact Nat.le_trans this (Nat.le_trans (Nat.mul_le_mul (Nat.le_trans (Nat.min_le_right ..) hl) pw) (by decide))
      have sz2 : ((spread o (l.take i)).map Su.P).length ≤ 512 := by rw [List.length_map]; exact sz
      rcases inn_cases ws ho with ⟨ss, e, e2, hl2, hw2⟩ | ⟨e2, hno⟩
      · rw [e2, Option.getD_some] at stp
        rw [stp]
        generalize spread o (l.take i) = acc at e1 sz sz2
        rw [e]
        simp only [Su.P, prP, List.map_cons, List.map_nil]
        dsimp! [e1, cast1]
        intro p1 n1
        have hp : d ≠ p1 := by rintro rfl; rw [e1] at n1; cases n1
        dsimp! [up_ne hp, e1]
        refine ⟨by rw [sizeLine_eq, List.length_map (f := Su.P) (as := ss)]; omega, fun p2 n2 => ?_⟩
        exact ⟨_, G.Sub.refl _, _, p2, rfl, (k6.new n1).new n2, kp_fresh (k6.new n1) n2, by rw [up_same, List.map_append]⟩
      · rw [e2, Option.getD_none] at stp
        rw [stp]
        generalize spread o (l.take i) = acc at e1 sz sz2
        obtain ⟨c, ps⟩ := s
        have out : ∀ v, (acc.map Su.P).length < sizeLine ∧ ∃ h2, G.Sub h2 (up h6 d (.lst (acc.map Su.P ++ [.tup [.int c, .tup (ps.map prP)]]))) ∧ ∃ (x : Option PV) (d_1 : Addr), [some (PV.str o.cs), some (.ref a), some (.ref d), v, none, none, none] = [some (.str o.cs), some (.ref a), some (.ref d_1), x, none, none, none] ∧ Kp [] h h2 ∧ h d_1 = none ∧ h2 d_1 = some (.lst ((acc ++ [(⟨c, ps⟩ : Su)]).map Su.P)) := fun v =>
          ⟨by rw [sizeLine_eq]; omega, _, G.Sub.refl _, v, d, rfl, k6.put0 nd, nd, by rw [up_same, List.map_append]; rfl⟩
        simp only [Su.P]
        by_cases hc : c = 0
        case neg =>
          dsimp! [e1, hc]
          exact out _
        by_cases hlen : ps.length = 1
        case neg =>
          dsimp! [e1, hc, show ((ps.map prP).length : Int) = 1 ↔ False from ⟨fun z => hlen (by rw [List.length_map] at z; omega), False.elim⟩]
          subst hc
          exact out _
        rcases hno with hno | hno | ⟨b, m, e, hm⟩ | ⟨x, r, e, hx⟩
        · exact absurd hc hno
        · exact absurd hlen hno
        · simp only at e
          subst e
          simp only [prP, List.map_cons, List.map_nil] at out ⊢
          subst hc
          dsimp! [e1, cast1, hm]
          exact out _
        · simp only at e
          subst e
          simp only [prP, List.map_cons, List.map_nil] at out ⊢
          subst hc
          dsimp! [e1, cast1, hx]
          exact out _
    · rintro _ h6 ⟨x, d, rfl, k6, nd, e1⟩
      rw [List.length_map, List.take_length] at e1
      exact fx _ _ ⟨x, d, rfl, k6, nd, e1⟩

/-! ### what both tidies come to -/
def zeroS : Su := ⟨0, []⟩
def Ex.T : Ex → Su
  | .num n => ⟨n, []⟩
  | .ctr c => aloneS (Ex.ctr c).P
  | .cell x os => aloneS (Ex.cell x os).P
  | .neg a => addS zeroS a.T (-1)
  | .scl n a => addS zeroS a.T n
  | .bin .plus a b => addS a.T b.T 1
  | .bin .minus a b => addS a.T b.T (-1)
  | .bin .least a b => chosenS .least [a.T, b.T]
  | .bin .greatest a b => chosenS .greatest [a.T, b.T]
  | .pick g a b c d => tidyPickS g a.T b.T c.T d.T
theorem zero_ws (n : Nat) : WS n zeroS := ⟨Nat.zero_le _, ⟨by simp [zeroS], by simp [zeroS]⟩, by simp [zeroS]⟩
theorem T_ok : ∀ (e : Ex) (n : Nat), e.dep ≤ n → e.wf → WS n e.T
  | .num m, n, _, _ => ⟨Nat.zero_le _, ⟨by simp [Ex.T], by simp [Ex.T]⟩, by simp [Ex.T]⟩
  | .ctr m, n, _, _ => WS.le (n := 0) (Nat.zero_le _) ⟨by simp [Ex.T, aloneS], ⟨by simp [Ex.T, aloneS], by simp [Ex.T, aloneS]⟩, fun p hp => by
      simp only [Ex.T, aloneS, List.mem_singleton] at hp; subst hp; exact .inr ⟨m, rfl⟩⟩
  | .cell x os, n, _, w => WS.le (n := 0) (Nat.zero_le _) ⟨by simp [Ex.T, aloneS], ⟨by simp [Ex.T, aloneS], by simp [Ex.T, aloneS]⟩, fun p hp => by
      simp only [Ex.T, aloneS, List.mem_singleton] at hp; subst hp; exact .inl ⟨x, os, rfl, w⟩⟩
  | .neg a, 0, h, _ => absurd h (by simp [Ex.dep])
  | .scl _ a, 0, h, _ => absurd h (by simp [Ex.dep])
  | .bin _ a _, 0, h, _ => absurd h (by simp [Ex.dep])
  | .pick _ a _ _ _, 0, h, _ => absurd h (by simp [Ex.dep])
  | .neg a, n + 1, h, w => addS_ws (zero_ws n) (T_ok a n (by simp only [Ex.dep] at h; omega) w)
  | .scl _ a, n + 1, h, w => addS_ws (zero_ws n) (T_ok a n (by simp only [Ex.dep] at h; omega) w.2)
  | .bin o a b, n + 1, h, w => by
    have ha := T_ok a n (by simp only [Ex.dep] at h; omega) w.1
    have hb := T_ok b n (by simp only [Ex.dep] at h; omega) w.2
    have two : ∀ s ∈ [a.T, b.T], WS n s := fun s hs => by
      rcases List.mem_cons.mp hs with rfl | hs
      · exact ha
      · rw [List.mem_singleton.mp hs]; exact hb
    cases o
    · exact addS_ws ha hb
    · exact addS_ws ha hb
    · exact chosenS_ok (.inl rfl) two (by simp)
    · exact chosenS_ok (.inr rfl) two (by simp)
  | .pick g a b c d, n + 1, h, w =>
    tidyPickS_ws (T_ok a n (by simp only [Ex.dep] at h; omega) w.1) (T_ok b n (by simp only [Ex.dep] at h; omega) w.2.1) (T_ok c n (by simp only [Ex.dep] at h; omega) w.2.2.1) (T_ok d n (by simp only [Ex.dep] at h; omega) w.2.2.2)
theorem c_tidy_sum : ∀ (n : Nat) (e : Ex), e.dep ≤ n → n ≤ 7 → e.wf → ∀ {k : Nat}, n + 5 ≤ k → ∀ {h : PH} {Q : QV}, Q e.T.P h → (wC k).tidy_sum [e.P] h Q := by
  intro n
  induction n with
  | zero => exact fun e he h9 w {k} hk {h Q} q => body 0 (fun c hc => absurd hc (by omega)) e he h9 w hk q
  | succ n ih => exact fun e he h9 w {k} hk {h Q} q => body (n + 1) (fun c hc w => by
      intro k' hk' h' Q' q'
      exact ih c (by omega) (by omega) w (by omega) q') e he h9 w hk q
where
  body (n : Nat) (ih : ∀ c : Ex, c.dep + 1 ≤ n → c.wf → ∀ {k : Nat}, n + 4 ≤ k → ∀ {h : PH} {Q : QV}, Q c.T.P h → (wC k).tidy_sum [c.P] h Q) (e : Ex) (he : e.dep ≤ n) (h9 : n ≤ 7) (w : e.wf) {k : Nat} (hk : n + 5 ≤ k) {h : PH} {Q : QV}
      (q : Q e.T.P h) : (wC k).tidy_sum [e.P] h Q := by
    obtain ⟨k, rfl⟩ : ∃ j, k = j + 1 := ⟨k - 1, by omega⟩
    show zFn _ _ (b_tidy_sum (wC k)) _ h Q
    unfold b_tidy_sum
    have out : ∃ h2, G.Sub h2 h ∧ Q e.T.P h2 := ⟨h, G.Sub.refl _, q⟩
    have nul : PV.tup [.int 0, .tup []] = zeroS.P := rfl
    cases e with
    | num m =>
      simp only [Ex.P]
      simp_all! []
      exact ⟨by decide, by decide, out⟩
    | ctr m =>
      simp only [Ex.P]
      simp_all! []
      refine ⟨by decide, by decide, by decide, by decide, by decide, ?_⟩
      rw [if_pos (by decide)]
      exact c_alone (by omega) out
    | cell x os =>
      simp only [Ex.P]
      simp_all! []
      refine ⟨by decide, by decide, by decide, by decide, by decide, ?_⟩
      rw [if_pos (by decide)]
      exact c_alone (by omega) out
    | neg a =>
      simp only [Ex.dep] at he
      simp only [Ex.P]
      simp_all! []
      refine ⟨by decide, by decide, by decide, by decide, by decide, ?_⟩
      rw [if_neg (by decide)]
      refine ih a he w (by omega) ?_
      exact c_added (n := n) (by omega) (by omega) (zero_ws n) (T_ok a n (by omega) w) (by decide) out
    | scl m a =>
      simp only [Ex.dep] at he
      simp only [Ex.P]
      simp_all! []
      refine ⟨by decide, by decide, by decide, by decide, by decide, ?_⟩
      rw [if_neg (by decide)]
      refine ih a he w.2 (by omega) ?_
      have := w.1
      exact c_added (n := n) (by omega) (by omega) (zero_ws n) (T_ok a n (by omega) w.2) (by omega) out
    | bin o a b =>
      simp only [Ex.dep] at he
      have ta := T_ok a (n - 1) (by omega) w.1
      have tb := T_ok b (n - 1) (by omega) w.2
      have two : ∀ s ∈ [a.T, b.T], WS (n - 1) s := fun s hs => by
        rcases List.mem_cons.mp hs with rfl | hs
        · exact ta
        · rw [List.mem_singleton.mp hs]; exact tb
      simp only [Ex.P]
      cases o <;> simp only [Op2.cs] <;> simp_all! [] <;> refine ⟨by decide, by decide, by decide, by decide, by decide, ?_⟩ <;> rw [if_neg (by decide)] <;> refine ih a (by omega) w.1 (by omega) (ih b (by omega) w.2 (by omega) ?_) <;> simp_all! [] <;> refine ⟨by decide, by decide, by decide, by decide, by decide, ?_⟩
      · rw [if_pos (by decide)]
        exact c_added (n := n - 1) (by omega) (by omega) ta tb (by decide) out
      · rw [if_pos (by decide)]
        exact c_added (n := n - 1) (by omega) (by omega) ta tb (by decide) out
      · rw [if_neg (by decide)]
        refine ⟨by decide, fun p np => ?_⟩
        exact c_chosen (n := n - 1) (o := .least) (l := [a.T, b.T]) (by omega) (by omega) (.inl rfl) (by simp) two up_same ⟨h, back_self np, q⟩
      · rw [if_neg (by decide)]
        refine ⟨by decide, fun p np => ?_⟩
        exact c_chosen (n := n - 1) (o := .greatest) (l := [a.T, b.T]) (by omega) (by omega) (.inr rfl) (by simp) two up_same ⟨h, back_self np, q⟩
    | pick g a b c d =>
      simp only [Ex.dep] at he
      simp only [Ex.P]
      simp_all! []
      refine ⟨by decide, by decide, by decide, by decide, by decide, ?_⟩
      rw [if_neg (by decide)]
      have al : ∀ e ∈ [a, b, c, d], e.dep + 1 ≤ n ∧ e.wf := fun e he' => by
        simp only [List.mem_cons, List.not_mem_nil, or_false] at he'
        rcases he' with rfl | rfl | rfl | rfl
        · exact ⟨by omega, w.1⟩
        · exact ⟨by omega, w.2.1⟩
        · exact ⟨by omega, w.2.2.1⟩
        · exact ⟨by omega, w.2.2.2⟩
      rw [cut_from (show (0 : Int) ≤ 2 by omega), show (2 : Int).toNat = 2 from rfl]
      refine lcW_V (ps := [a, b, c, d].map Ex.P) (by rw [sizeLine_eq, List.length_map]; simp) (fun i acc h' => h = h' ∧ acc = ([a, b, c, d].take i).map fun e => e.T.P) ⟨rfl, rfl⟩ (fun i acc h' e => by rw [e.2, List.length_map]; exact List.length_take_le _ _) ?_ ?_
      · rintro i _ _ p ep ⟨rfl, rfl⟩
        rw [List.getElem?_map] at ep
        obtain ⟨e, er, rfl⟩ := Option.map_eq_some_iff.mp ep
        obtain ⟨e1, e2⟩ := al e (List.mem_of_getElem? er)
        dsimp! []
        refine ih e e1 e2 (by omega) ⟨h, G.Sub.refl _, rfl, ?_⟩
        rw [List.take_add_one, er, List.map_append]; rfl
      · rintro _ _ ⟨rfl, rfl⟩ D nD
        simp only [List.length_map, List.length_cons, List.length_nil, List.take, List.map_cons, List.map_nil]
        dsimp! []
        exact c_tidy_pick (n := n - 1) (by omega) (by omega) (T_ok a (n - 1) (by omega) w.1) (T_ok b (n - 1) (by omega) w.2.1) (T_ok c (n - 1) (by omega) w.2.2.1) (T_ok d (n - 1) (by omega) w.2.2.2) ⟨h, back_self nD, q⟩

theorem c__law_tidy : ∀ (n : Nat) (e : Ex), e.dep ≤ n → n ≤ 7 → e.wf → ∀ {k : Nat}, n + 5 ≤ k → ∀ {h : PH} {Q : QV}, Q e.T.P h → (wC k)._law_tidy [e.P] h Q := by
  intro n
  induction n with
  | zero => exact fun e he h9 w {k} hk {h Q} q => body 0 (fun c hc => absurd hc (by omega)) e he h9 w hk q
  | succ n ih => exact fun e he h9 w {k} hk {h Q} q => body (n + 1) (fun c hc w => by
      intro k' hk' h' Q' q'
      exact ih c (by omega) (by omega) w (by omega) q') e he h9 w hk q
where
  body (n : Nat) (ih : ∀ c : Ex, c.dep + 1 ≤ n → c.wf → ∀ {k : Nat}, n + 4 ≤ k → ∀ {h : PH} {Q : QV}, Q c.T.P h → (wC k)._law_tidy [c.P] h Q) (e : Ex) (he : e.dep ≤ n) (h9 : n ≤ 7) (w : e.wf) {k : Nat} (hk : n + 5 ≤ k) {h : PH} {Q : QV}
      (q : Q e.T.P h) : (wC k)._law_tidy [e.P] h Q := by
    obtain ⟨k, rfl⟩ : ∃ j, k = j + 1 := ⟨k - 1, by omega⟩
    show zFn _ _ (b__law_tidy (wC k)) _ h Q
    unfold b__law_tidy
    have out : ∃ h2, G.Sub h2 h ∧ Q e.T.P h2 := ⟨h, G.Sub.refl _, q⟩
    have nul : PV.tup [.int 0, .tup []] = zeroS.P := rfl
    cases e with
    | num m =>
      simp only [Ex.P]
      simp_all! []
      exact ⟨by decide, by decide, out⟩
    | ctr m =>
      simp only [Ex.P]
      simp_all! []
      exact ⟨by decide, by decide, by decide, out⟩
    | cell x os =>
      simp only [Ex.P]
      simp_all! []
      exact ⟨by decide, by decide, by decide, out⟩
    | neg a =>
      simp only [Ex.dep] at he
      simp only [Ex.P]
      simp_all! []
      refine ⟨by decide, by decide, ih a he w (by omega) (?_)⟩
      exact c_ladd (n := n) (by omega) (by omega) (zero_ws n) (T_ok a n (by omega) w) (by decide) out
    | scl m a =>
      simp only [Ex.dep] at he
      simp only [Ex.P]
      simp_all! []
      refine ⟨by decide, by decide, ih a he w.2 (by omega) ?_⟩
      have := w.1
      exact c_ladd (n := n) (by omega) (by omega) (zero_ws n) (T_ok a n (by omega) w.2) (by omega) out
    | bin o a b =>
      simp only [Ex.dep] at he
      have ta := T_ok a (n - 1) (by omega) w.1
      have tb := T_ok b (n - 1) (by omega) w.2
      have two : ∀ s ∈ [a.T, b.T], WS (n - 1) s := fun s hs => by
        rcases List.mem_cons.mp hs with rfl | hs
        · exact ta
        · rw [List.mem_singleton.mp hs]; exact tb
      simp only [Ex.P]
      cases o <;> simp only [Op2.cs] <;> simp_all! [] <;> refine ih a (by omega) w.1 (by omega) (ih b (by omega) w.2 (by omega) ?_) <;> simp_all! []
      · exact c_ladd (n := n - 1) (by omega) (by omega) ta tb (by decide) out
      · exact c_ladd (n := n - 1) (by omega) (by omega) ta tb (by decide) out
      · refine ⟨by decide, fun p np => ?_⟩
        exact c__law_tidy_many (n := n - 1) (o := .least) (l := [a.T, b.T]) (by omega) (by omega) (.inl rfl) (by simp) two up_same ⟨h, back_self np, q⟩
      · refine ⟨by decide, fun p np => ?_⟩
        exact c__law_tidy_many (n := n - 1) (o := .greatest) (l := [a.T, b.T]) (by omega) (by omega) (.inr rfl) (by simp) two up_same ⟨h, back_self np, q⟩
    | pick g a b c d =>
      simp only [Ex.dep] at he
      simp only [Ex.P]
      simp_all! []
      have al : ∀ e ∈ [a, b, c, d], e.dep + 1 ≤ n ∧ e.wf := fun e he' => by
        simp only [List.mem_cons, List.not_mem_nil, or_false] at he'
        rcases he' with rfl | rfl | rfl | rfl
        · exact ⟨by omega, w.1⟩
        · exact ⟨by omega, w.2.1⟩
        · exact ⟨by omega, w.2.2.1⟩
        · exact ⟨by omega, w.2.2.2⟩
      rw [cut_from (show (0 : Int) ≤ 2 by omega), show (2 : Int).toNat = 2 from rfl]
      refine lcW_V (ps := [a, b, c, d].map Ex.P) (by rw [sizeLine_eq, List.length_map]; simp) (fun i acc h' => h = h' ∧ acc = ([a, b, c, d].take i).map fun e => e.T.P) ⟨rfl, rfl⟩ (fun i acc h' e => by rw [e.2, List.length_map]; exact List.length_take_le _ _) ?_ ?_
      · rintro i _ _ p ep ⟨rfl, rfl⟩
        rw [List.getElem?_map] at ep
        obtain ⟨e, er, rfl⟩ := Option.map_eq_some_iff.mp ep
        obtain ⟨e1, e2⟩ := al e (List.mem_of_getElem? er)
        dsimp! []
        refine ih e e1 e2 (by omega) ⟨h, G.Sub.refl _, rfl, ?_⟩
        rw [List.take_add_one, er, List.map_append]; rfl
      · rintro _ _ ⟨rfl, rfl⟩ D nD
        simp only [List.length_map, List.length_cons, List.length_nil, List.take, List.map_cons, List.map_nil]
        dsimp! []
        exact c__law_tidy_pick (n := n - 1) (by omega) (by omega) (T_ok a (n - 1) (by omega) w.1) (T_ok b (n - 1) (by omega) w.2.1) (T_ok c (n - 1) (by omega) w.2.2.1) (T_ok d (n - 1) (by omega) w.2.2.2) ⟨h, back_self nD, q⟩

theorem T_same {e : Ex} {n k : Nat} (hn : n ≤ 7) (he : e.dep ≤ n) (w : e.wf) (hk : 5 * n + 7 ≤ k) {h : PH} {Q : QV} (q : Q (.bl true) h) : (wC k)._law_same [e.T.P, e.T.P] h Q := by
  have t := ws_dat (show n ≤ 10 by omega) (T_ok e n he w)
  exact c_same (5 * n + 5) e.T.P t.1 t.2 (by omega) q
def exX : Ex := .cell (([97, 95, 97] : List Nat)) [1]
def exY : Ex := .ctr 0
def exO : Ex := .bin .least exX (.bin .least (.bin .plus exY (.num 2)) (.bin .plus (.num 1) exY))
def exD : PV := .tup [.int 0, .tup [.tup [.tup [(PV.str [108, 101, 97, 115, 116]), .tup [.tup [.int 0, .tup [.tup [exX.P, .int 1]]], .tup [.int 1, .tup [.tup [exY.P, .int 1]]]]], .int 1]]]
def exP : Ex := .pick .ge exX exY (.num 5) (.neg exY)
def exC : PV := .tup [.int 0, .tup [.tup [exX.P, .int 1], .tup [exY.P, .int (-1)]]]
def exE : PV := .tup [.int 0, .tup [.tup [.tup [(PV.str [112, 105, 99, 107]), (PV.str [60]), exC, .tup [.int 0, .tup [.tup [exY.P, .int (-1)]]], .tup [.int 5, .tup []]], .int 1]]]
theorem exO_T : exO.T.P = exD := by decide +kernel
theorem exM_T : (Ex.bin .minus exO exO).T.P = .tup [.int 0, .tup []] := by decide +kernel
theorem exP_T : exP.T.P = exE := by decide +kernel
theorem c_law {k : Nat} (hk : 40 ≤ k) {ns : List Int} (hn : ns.length ≤ 63) : (wC k).law [.scr ns] (fun _ => none) fun p _ => p = .bl true := by
  obtain ⟨k, rfl⟩ : ∃ j, k = j + 1 := ⟨k - 1, by omega⟩
  show zFn _ _ (b_law (wC k)) [.scr ns] _ _
  unfold b_law
  dsimp! []
  refine c_start (by omega) hn fun a s h1 d1 _ _ => ?_
  dsimp! []
  refine zSeq_key (fun ρ' h' => ∃ x2 x3 x4 x5 x6 : Option PV, ρ' = [some (.scr ns), some (.ref s), x2, x3, x4, x5, x6, none, none, none, none, none, none]) ?_ fun X fx => ?_
  · rintro _ h2 ⟨x2, x3, x4, x5, x6, rfl⟩
    clear d1
    have wX : exX.wf := ⟨by decide, by decide⟩
    have wY : exY.wf := ⟨by decide, by decide⟩
    have wO : exO.wf := ⟨wX, ⟨wY, by decide, by decide⟩, ⟨by decide, by decide⟩, wY⟩
    have wM : (Ex.bin .minus exO exO).wf := ⟨wO, wO⟩
    have wP : exP.wf := ⟨wX, wY, ⟨by decide, by decide⟩, wY⟩
    refine zSeq_key (fun ρ' h' => ∃ x2 x3 x4 x5 x6 : Option PV, ρ' = [some (.scr ns), some (.ref s), x2, x3, x4, x5, x6, some exX.P, none, none, none, none, none]) ?_ fun X fx => ?_
    rotate_left
    · dsimp! []
      exact ⟨by decide, by decide, fx _ _ ⟨_, _, _, _, _, rfl⟩⟩
    clear x2 x3 x4 x5 x6 h2
    rintro _ h2 ⟨x2, x3, x4, x5, x6, rfl⟩
    refine zSeq_key (fun ρ' h' => ∃ x2 x3 x4 x5 x6 : Option PV, ρ' = [some (.scr ns), some (.ref s), x2, x3, x4, x5, x6, some exX.P, some exY.P, none, none, none, none]) ?_ fun X fx => ?_
    rotate_left
    · dsimp! []
      exact ⟨by decide, fx _ _ ⟨_, _, _, _, _, rfl⟩⟩
    clear x2 x3 x4 x5 x6 h2
    rintro _ h2 ⟨x2, x3, x4, x5, x6, rfl⟩
    refine zSeq_key (fun ρ' h' => ∃ x2 x3 x4 x5 x6 : Option PV, ρ' = [some (.scr ns), some (.ref s), x2, x3, x4, x5, x6, some exX.P, some exY.P, some exO.P, none, none, none]) ?_ fun X fx => ?_
    rotate_left
    · dsimp! []
      exact ⟨by decide, by decide, by decide, by decide, by decide, by decide, fx _ _ ⟨_, _, _, _, _, rfl⟩⟩
    clear x2 x3 x4 x5 x6 h2
    rintro _ h2 ⟨x2, x3, x4, x5, x6, rfl⟩
    refine zSeq_key (fun ρ' h' => ∃ x2 x3 x4 x5 x6 : Option PV, ρ' = [some (.scr ns), some (.ref s), x2, x3, x4, x5, x6, some exX.P, some exY.P, some exO.P, some exD, none, none]) ?_ fun X fx => ?_
    rotate_left
    · dsimp! []
      exact ⟨by decide, by decide, by decide, by decide, by decide, by decide, by decide, by decide, by decide, by decide, by decide, fx _ _ ⟨_, _, _, _, _, rfl⟩⟩
    clear x2 x3 x4 x5 x6 h2
    rintro _ h2 ⟨x2, x3, x4, x5, x6, rfl⟩
    refine zSeq_key (fun ρ' h' => ∃ x2 x3 x4 x5 x6 : Option PV, ρ' = [some (.scr ns), some (.ref s), x2, x3, x4, x5, x6, some exX.P, some exY.P, some exO.P, some exD, none, none]) ?_ fun X fx => ?_
    rotate_left
    · dsimp! []
      refine c_tidy_sum 4 exO (by decide) (by decide) wO (by omega) ?_
      rw [← exO_T]
      refine T_same (n := 4) (by decide) (by decide) wO (by omega) ?_
      dsimp! [Bool.not_true]
      refine ⟨by decide, c_tidy_sum 5 (.bin .minus exO exO) (by decide) (by decide) wM (by omega) ?_⟩
      refine ⟨by decide, by decide, ?_⟩
      rw [← exM_T]
      refine T_same (n := 5) (by decide) (by decide) wM (by omega) ?_
      dsimp! [Bool.not_true]
      rw [exO_T]
      exact fx _ _ ⟨_, _, _, _, _, rfl⟩
    clear x2 x3 x4 x5 x6 h2
    rintro _ h2 ⟨x2, x3, x4, x5, x6, rfl⟩
    refine zSeq_key (fun ρ' h' => ∃ x2 x3 x4 x5 x6 : Option PV, ρ' = [some (.scr ns), some (.ref s), x2, x3, x4, x5, x6, some exX.P, some exY.P, some exO.P, some exD, some exP.P, none]) ?_ fun X fx => ?_
    rotate_left
    · dsimp! []
      exact ⟨by decide, by decide, by decide, fx _ _ ⟨_, _, _, _, _, rfl⟩⟩
    clear x2 x3 x4 x5 x6 h2
    rintro _ h2 ⟨x2, x3, x4, x5, x6, rfl⟩
    refine zSeq_key (fun ρ' h' => ∃ x2 x3 x4 x5 x6 : Option PV, ρ' = [some (.scr ns), some (.ref s), x2, x3, x4, x5, x6, some exX.P, some exY.P, some exO.P, some exD, some exP.P, some exC]) ?_ fun X fx => ?_
    rotate_left
    · dsimp! []
      exact ⟨by decide, by decide, by decide, by decide, fx _ _ ⟨_, _, _, _, _, rfl⟩⟩
    clear x2 x3 x4 x5 x6 h2
    rintro _ h2 ⟨x2, x3, x4, x5, x6, rfl⟩
    dsimp! []
    refine c_tidy_sum 4 exP (by decide) (by decide) wP (by omega) ?_
    refine ⟨by decide, by decide, by decide, by decide, by decide, by decide, by decide, by decide, by decide, ?_⟩
    have e : PV.tup [.int 0, .tup [.tup [.tup [(PV.str [112, 105, 99, 107]), (PV.str [60]), exC, .tup [.int 0, .tup [.tup [exY.P, .int (-1)]]], .tup [.int 5, .tup []]], .int 1]]] = exP.T.P := exP_T.symm
    rw [e]
    exact T_same (n := 4) (by decide) (by decide) wP (by omega) ⟨_, G.Sub.refl _, rfl⟩
  · dsimp! []
    refine ⟨by decide, by decide, ?_⟩
    refine forW_R (fun i ρ' h' => (∃ x2 x3 x4 x5 x6 : Option PV, ρ' = [some (.scr ns), some (.ref s), x2, x3, x4, x5, x6, none, none, none, none, none, none]) ∧ DS a ns s h') ⟨⟨_, _, _, _, _, rfl⟩, d1⟩ ?_ ?_
    · rintro i _ h2 hi ⟨⟨x2, x3, x4, x5, x6, rfl⟩, d2⟩
      dsimp! []
      refine c_pool_table (by omega) d2 fun t1 W1 h3 o1 d3 _ => ?_
      refine c_any_table (by omega) d3 fun t2 W2 h4 o2 d4 _ => ?_
      refine c_pool_table (by omega) d4 fun t3 W3 h5 o3 d5 _ => ?_
      refine ⟨by decide, fun p np => ?_⟩
      obtain ⟨t, W, o, e⟩ : ∃ (t : Tb) (W : Wd), t.Ok 3 W ∧ atI [t1.P, t2.P, t3.P] ((0 : Int) + (i : Nat)) = some t.P := by
        have hi3 : i < 3 := hi
        rcases (show i = 0 ∨ i = 1 ∨ i = 2 by omega) with rfl | rfl | rfl
        · exact ⟨t1, W1, o1, at0⟩
        · exact ⟨t2, W2, ⟨o2.w, o2.many, o2.gn, o2.rn, o2.nd, o2.ok, o2.gs, fun r hr => ⟨(o2.rs r hr).1, by have := (o2.rs r hr).2.1; omega, (o2.rs r hr).2.2⟩⟩, at1⟩
        · exact ⟨t3, W3, o3, at2⟩
      have d6 := d5.new np (o := .lst [t1.P, t2.P, t3.P])
      generalize up h5 p (.lst [t1.P, t2.P, t3.P]) = h6 at d6
      dsimp! [e]
      rw [show t.P = .tup [.tup (t.over.map .str), .tup (t.gs.map Giv.P), .tup (t.rs.map Row.P), .tup []] from rfl]
      dsimp! []
      refine forW_V (ps := t.rs.map Row.P) (fun i ρ' h' => (∃ x2 x3 x4 x5 x6 : Option PV, ρ' = [some (.scr ns), some (.ref s), x2, x3, x4, x5, x6, none, none, none, none, none, none]) ∧ DS a ns s h') ⟨⟨_, _, _, _, _, rfl⟩, d6⟩ ?_ ?_
      · clear x2 x3 x4 x5 x6
        rintro j _ h7 q eq ⟨⟨x2, x3, x4, x5, x6, rfl⟩, d7⟩
        rw [List.getElem?_map] at eq
        obtain ⟨r, er, rfl⟩ := Option.map_eq_some_iff.mp eq
        obtain ⟨_, r2, r3⟩ := o.rs r (List.mem_of_getElem? er)
        have wf : r.e.wf := Ex.Al.mono (fun x os ref => by
          have om := o.w.many.2
          rcases ref with ⟨m, l, _⟩ | ⟨m, l, _⟩
          · exact ⟨o.ok x (by simp; exact .inr (.inr m)), by rw [l]; show W.many ≤ 1000; omega⟩
          · exact ⟨o.ok x (by simp; exact .inr (.inl m)), by rw [l]; show W.many ≤ 1000; omega⟩) r3
        rw [show r.P = .tup [.str r.name, .int r.rim, r.e.P] from rfl]
        dsimp! []
        refine c_tidy_sum 3 r.e r2 (by decide) wf (by omega) (c__law_tidy 3 r.e r2 (by decide) wf (by omega) (T_same (n := 3) (by decide) r2 wf (by omega) ?_))
        dsimp! [Bool.not_true]
        exact ⟨h7, G.Sub.refl _, ⟨_, _, _, _, _, rfl⟩, d7⟩
      · clear x2 x3 x4 x5 x6
        rintro _ h7 ⟨⟨x2, x3, x4, x5, x6, rfl⟩, d7⟩
        exact ⟨h7, G.Sub.refl _, ⟨_, _, _, _, _, rfl⟩, d7⟩
    · rintro _ h2 ⟨⟨x2, x3, x4, x5, x6, rfl⟩, d2⟩
      exact fx _ _ ⟨_, _, _, _, _, rfl⟩

end K74
end
theorem PySem.Challenge.cw_toldinwaves_k74_tidy_sums_holds : PySem.Challenge.rw_toldinwaves_k74_tidy_sums.Holds :=
  K74.holds 40 ⟨rfl, by decide, by decide⟩ fun ns hn => K74.c_law (by decide) hn
