import PyProof.Rows.All
import Wide.All
import OpenK.AllK
import Wide.FinOn
import Open.Row
import HandS.ForMost
import HandS.Deep
import HandS.DictComp
import HandS.SortRule
import HandS.Flow
import HandS.Style
import HandS.Conv
import KE.SortData
import KE.KDictKeyed
import HandS.TupAny
import HandS.TupMul
import HandS.Wide
import HandS.IsInst
import HandS.Text
import HandS.WordsDict
import HandS.RaiseMore
import PyProof.Rows.SeqRoads
import HandS.Iter
import KE.LtSeq
import KE.LtData
import HandS.SortOrd
import HandS.Defaults
import HandS.Ends
import HandS.Head0
import HandS.Head1
import HandS.Head2
import HandS.HeadEnd
import HandS.HeadHook1
import HandS.HeadHook2
import HandS.HeadHook3
import HandS.HeadHook4
import PySem.Challenge.RW_toldinwaves_k78_untouched_rules
set_option Elab.async false
set_option linter.all false
set_option maxRecDepth 100000
set_option maxHeartbeats 4000000
namespace G
open PySem PySem.Spec PyProof.Rows L2

/-! ### values as trees -/
inductive PV where
  | non | bl (b : Bool) | int (i : Int) | str (x : List Nat) | tup (xs : List PV) | ref (a : Addr) | scr (ns : List Int)
  deriving Inhabited

/-- a text by its codes -/
abbrev tS (x : List Nat) : Str := ⟨x.toArray⟩
theorem tS_inj {x y : List Nat} : tS x = tS y ↔ x = y := by
  constructor
  · intro h
    have := congrArg (fun s : Str => s.cps.toList) h
    simpa [tS] using this
  · rintro rfl; rfl
theorem tS_of (s : Str) : tS s.cps.toList = s := by cases s; simp [tS]

mutual
def PV.beq : PV → PV → Bool
  | .non, .non => true
  | .bl a, .bl b => a == b
  | .int a, .int b => a == b
  | .str a, .str b => a == b
  | .tup a, .tup b => PV.beqs a b
  | .ref a, .ref b => a == b
  | .scr a, .scr b => a == b
  | _, _ => false
def PV.beqs : List PV → List PV → Bool
  | [], [] => true
  | a :: as, b :: bs => PV.beq a b && PV.beqs as bs
  | _, _ => false
end
mutual
theorem PV.beq_iff : ∀ a b : PV, PV.beq a b = true ↔ a = b
  | .non, b => by cases b <;> simp [PV.beq]
  | .bl a, b => by cases b <;> simp [PV.beq]
  | .int a, b => by cases b <;> simp [PV.beq]
  | .str a, b => by cases b <;> simp [PV.beq]
  | .tup a, b => by
    cases b with
    | tup b => simp only [PV.beq, PV.tup.injEq]; exact PV.beqs_iff a b
    | _ => simp [PV.beq]
  | .ref a, b => by cases b <;> simp [PV.beq]
  | .scr a, b => by cases b <;> simp [PV.beq]
theorem PV.beqs_iff : ∀ a b : List PV, PV.beqs a b = true ↔ a = b
  | [], b => by cases b <;> simp [PV.beqs]
  | a :: as, b => by
    cases b with
    | nil => simp [PV.beqs]
    | cons b bs => simp only [PV.beqs, Bool.and_eq_true, List.cons.injEq]; rw [PV.beq_iff a b, PV.beqs_iff as bs]
end
instance : DecidableEq PV := fun a b => if h : PV.beq a b = true then isTrue ((PV.beq_iff a b).mp h) else isFalse fun e => h ((PV.beq_iff a b).mpr e)

/-- what stands at an address that may change -/
inductive PO where
  | lst (xs : List PV)
  /-- a dict; t: its keys are tuples, else whole numbers and texts; l: locked while it is walked -/
  | dic (t : Bool) (l : Option (Obj × HO)) (kvs : List (PV × PV))
  deriving Inhabited
abbrev PH := Addr → Option PO
def up (h : PH) (a : Addr) (o : PO) : PH := fun b => if b = a then some o else h b
theorem up_same {h : PH} {a : Addr} {o : PO} : up h a o a = some o := by unfold up; rw [if_pos rfl]
theorem up_ne {h : PH} {a b : Addr} {o : PO} (e : b ≠ a) : up h a o b = h b := by unfold up; rw [if_neg e]
theorem up_up {h : PH} {a : Addr} {o u : PO} : up (up h a o) a u = up h a u := by funext b; unfold up; split <;> rfl
def Sub (h g : PH) : Prop := ∀ a o, h a = some o → g a = some o
theorem Sub.refl (h : PH) : Sub h h := fun _ _ e => e
theorem Sub.trans {a b c : PH} (x : Sub a b) (y : Sub b c) : Sub a c := fun p o e => y p o (x p o e)

/-- a key of a dict: a whole number, a text -/
def kP : Key → PV
  | .inl i => .int i
  | .inr x => .str x.cps.toList
mutual
/-- a key that is a tuple -/
def nk : PV → Option NestedKey
  | .non => some .none
  | .int i => some (.num i)
  | .str x => some (.text (tS x))
  | .tup ps => (nks ps).map .tup
  | _ => none
def nks : List PV → Option (List NestedKey)
  | [] => some []
  | p :: ps => match nk p, nks ps with
    | some k, some ks => some (k :: ks)
    | _, _ => none
end
/-- the dict at a, its entries as they stand in the heap -/
def dphi (P : Program) (w : World) (a : Addr) (xs : List (NestedKey × Addr × Value)) (h : Heap) : Prop :=
  (a == sysModules) = false ∧ xs.length ≤ sizeLine ∧ ∃ o es ep, h.get? a = some o ∧ o.ExactDict ∧ o.data = .dict es ep ∧ es.toList = xs.map (entryOfKey (nestedKind P w)) ∧ (xs.map (·.1)).Nodup

section
variable (K : PySem.W.Frag)
/-- the script: read, never written -/
def FzL (H : Hp) (a : Addr) (xs : List V) : Prop := (∃ o, H a = some (.frz o (.lst xs))) ∨
    ∃ (o : Obj) (its : Array Value) (n : Nat), K.lookup a = some o ∧ o.cls = .type "list" ∧ o.dict = none ∧ o.data = .seq its n ∧ its.size ≤ sizeLine ∧ Vals xs its.toList
mutual
/-- the value v stands for the tree -/
inductive RV (H : Hp) : V → PV → Prop
  | non : RV H .non .non
  | bl (b : Bool) : RV H (.bl b) (.bl b)
  | int (i : Int) : RV H (.int i) (.int i)
  | str (x : List Nat) : RV H (.str (tS x)) (.str x)
  | tup {a : Addr} {xs : List V} {ps : List PV} : SqT K H a xs → xs.length ≤ sizeLine → RVs H xs ps → RV H (.ref a) (.tup ps)
  | ref (a : Addr) : RV H (.ref a) (.ref a)
  | scr {a : Addr} {ns : List Int} : FzL K H a (ns.map V.int) → ns.length ≤ 63 → RV H (.ref a) (.scr ns)
inductive RVs (H : Hp) : List V → List PV → Prop
  | nil : RVs H [] []
  | cons {v : V} {vs : List V} {p : PV} {ps : List PV} : RV H v p → RVs H vs ps → RVs H (v :: vs) (p :: ps)
end
end
section
variable {K : PySem.W.Frag} {H H' : Hp}
theorem FzL.sq {a : Addr} {xs : List V} (h : FzL K H a xs) : SqL K H a xs := by
  rcases h with h | h
  · exact .inl (.inr h)
  · exact .inr h
theorem RVs.length : ∀ {vs : List V} {ps : List PV}, RVs K H vs ps → vs.length = ps.length
  | _, _, .nil => rfl
  | _, _, .cons _ t => congrArg (· + 1) (RVs.length t)
theorem RVs.get : ∀ {vs : List V} {ps : List PV} {i : Nat} {p : PV}, RVs K H vs ps → ps[i]? = some p → ∃ v, vs[i]? = some v ∧ RV K H v p
  | _, _, _, _, .nil, e => by simp at e
  | _, _, 0, _, .cons r _, e => by simp at e; subst e; exact ⟨_, rfl, r⟩
  | _, _, i + 1, p, .cons _ t, e => by
    obtain ⟨v, h1, h2⟩ := RVs.get (i := i) (p := p) t (by simpa using e)
    exact ⟨v, by simpa using h1, h2⟩
theorem RVs.getV : ∀ {vs : List V} {ps : List PV} {i : Nat} {v : V}, RVs K H vs ps → vs[i]? = some v → ∃ p, ps[i]? = some p ∧ RV K H v p
  | _, _, _, _, .nil, e => by simp at e
  | _, _, 0, _, .cons r _, e => by simp at e; subst e; exact ⟨_, rfl, r⟩
  | _, _, i + 1, p, .cons _ t, e => by
    obtain ⟨v, h1, h2⟩ := RVs.getV (i := i) (v := p) t (by simpa using e)
    exact ⟨v, by simpa using h1, h2⟩
theorem RVs.append : ∀ {xs ys : List V} {ps qs : List PV}, RVs K H xs ps → RVs K H ys qs → RVs K H (xs ++ ys) (ps ++ qs)
  | _, _, _, _, .nil, s => s
  | _, _, _, _, .cons r t, s => .cons r (RVs.append t s)
theorem RVs.take : ∀ {xs : List V} {ps : List PV} (n : Nat), RVs K H xs ps → RVs K H (xs.take n) (ps.take n)
  | _, _, 0, _ => .nil
  | _, _, _ + 1, .nil => .nil
  | _, _, n + 1, .cons r t => .cons r (RVs.take n t)
theorem RVs.drop : ∀ {xs : List V} {ps : List PV} (n : Nat), RVs K H xs ps → RVs K H (xs.drop n) (ps.drop n)
  | _, _, 0, r => r
  | _, _, _ + 1, .nil => .nil
  | _, _, n + 1, .cons _ t => RVs.drop n t
theorem RVs.set {v : V} {p : PV} (r : RV K H v p) : ∀ {xs : List V} {ps : List PV} (i : Nat), RVs K H xs ps → RVs K H (xs.set i v) (ps.set i p)
  | _, _, _, .nil => .nil
  | _, _, 0, .cons _ t => .cons r t
  | _, _, i + 1, .cons q t => .cons q (RVs.set r i t)
theorem RVs.reverse : ∀ {xs : List V} {ps : List PV}, RVs K H xs ps → RVs K H xs.reverse ps.reverse
  | _, _, .nil => .nil
  | _, _, .cons r t => by simpa using RVs.append (RVs.reverse t) (.cons r .nil)
theorem RVs.ints : ∀ {ns : List Int}, RVs K H (ns.map V.int) (ns.map PV.int)
  | [] => .nil
  | n :: ns => .cons (.int n) RVs.ints
end

/-- an entry of a dict with tuples as keys -/
def EntT (K : PySem.W.Frag) (H : Hp) (kv : PV × PV) (x : NestedKey × Addr × Value) : Prop := nk kv.1 = some x.1 ∧ x.1.depth ≤ 8 ∧ RV K H (.ref x.2.1) kv.1 ∧ ∃ v, RelV v x.2.2 ∧ RV K H v kv.2
def EntK (K : PySem.W.Frag) (H : Hp) (kv : PV × PV) (x : Key × V) : Prop := kv.1 = kP x.1 ∧ RV K H x.2 kv.2
/-- u stands at a, locked or not -/
def LkAt (H : Hp) (a : Addr) (l : Option (Obj × HO)) (u : HO) : Prop := match l with
  | none => H a = some u
  | some (o, u') => u' = u ∧ H a = some (.frz o u)
theorem LkAt.rd {H : Hp} {a : Addr} {l : Option (Obj × HO)} {u : HO} (h : LkAt H a l u) : Rd H a u := by
  cases l with
  | none => exact .inl h
  | some x => exact .inr ⟨_, h.2⟩
theorem LkAt.keep {H H' : Hp} {a : Addr} {l : Option (Obj × HO)} {u : HO} (e : H' a = H a) (h : LkAt H a l u) : LkAt H' a l u := by
  cases l with
  | none => exact e.trans h
  | some x => exact ⟨h.1, e.trans h.2⟩
section
variable (P : Program) (w : World) (K : PySem.W.Frag)
/-- what is tracked as it is in the trees' heap -/
def RO (H : Hp) (a : Addr) : PO → Prop
  | .lst ps => ∃ xs, H a = some (.lst xs) ∧ xs.length ≤ sizeLine ∧ RVs K H xs ps
  | .dic false l kvs => ∃ ds : List (Key × V), LkAt H a l (.dK ds) ∧ kvs.length ≤ sizeLine ∧ Paired (EntK K H) kvs ds
  | .dic true l kvs => ∃ xs : List (NestedKey × Addr × Value), LkAt H a l (.ext (dphi P w a xs)) ∧ kvs.length ≤ sizeLine ∧ Paired (EntT K H) kvs xs
def RH (H : Hp) (h : PH) : Prop := ∀ a o, h a = some o → RO P w K H a o
end
/-- what is tracked but not in the trees' heap stays so -/
def Stp (h : PH) (H : Hp) (h' : PH) (H' : Hp) : Prop := ∀ b o, H b = some o → h b = none → H' b = some o ∧ h' b = none
theorem Stp.refl (h : PH) (H : Hp) : Stp h H h H := fun _ _ e n => ⟨e, n⟩
theorem Stp.trans {h h1 h2 : PH} {H H1 H2 : Hp} (x : Stp h H h1 H1) (y : Stp h1 H1 h2 H2) : Stp h H h2 H2 := fun b o e n =>
  let ⟨e1, n1⟩ := x b o e n
  y b o e1 n1
section
variable {P : Program} {w : World} {K : PySem.W.Frag} {H H' : Hp}
theorem RH.mut {h : PH} (r : RH P w K H h) {a : Addr} {o : PO} (e : h a = some o) : ∃ u, H a = some u ∧ (∀ xs, u ≠ .tup xs) ∧ ∀ ob xs, u ≠ .frz ob (.tup xs) ∧ u ≠ .frz ob (.lst xs) := by
  have q := r a o e
  have lk : ∀ {l u}, LkAt H a l u → (∀ xs, u ≠ .tup xs) → (∀ ob w, u ≠ .frz ob w) → (∀ xs, u ≠ .lst xs) → ∃ u, H a = some u ∧ (∀ xs, u ≠ .tup xs) ∧ ∀ ob xs, u ≠ .frz ob (.tup xs) ∧ u ≠ .frz ob (.lst xs) := fun {l u} x h1 h2 h3 => by
    cases l with
    | none => exact ⟨u, x, h1, fun ob xs => ⟨h2 _ _, h2 _ _⟩⟩
    | some y =>
      refine ⟨_, x.2, (fun _ z => nomatch z), fun ob xs => ⟨fun z => ?_, fun z => ?_⟩⟩
      · cases z; exact h1 _ rfl
      · cases z; exact h3 _ rfl
  cases o with
  | lst ps => obtain ⟨xs, e1, _⟩ := q; exact ⟨_, e1, (fun _ z => nomatch z), (fun _ _ => ⟨(fun z => nomatch z), (fun z => nomatch z)⟩)⟩
  | dic t l kvs =>
    cases t
    · obtain ⟨xs, e1, _⟩ := q; exact lk e1 (fun _ z => nomatch z) (fun _ _ z => nomatch z) (fun _ z => nomatch z)
    · obtain ⟨xs, e1, _⟩ := q; exact lk e1 (fun _ z => nomatch z) (fun _ _ z => nomatch z) (fun _ z => nomatch z)
theorem RH.free {h : PH} (r : RH P w K H h) {p : Addr} (n : H p = none) : h p = none := by
  cases e : h p with
  | none => rfl
  | some o => obtain ⟨u, e1, _⟩ := r.mut e; rw [n] at e1; cases e1
theorem RH.noTup {h : PH} (r : RH P w K H h) {p : Addr} {xs : List V} (n : H p = some (.tup xs)) : h p = none := by
  cases e : h p with
  | none => rfl
  | some o => obtain ⟨u, e1, e2, _⟩ := r.mut e; rw [n] at e1; cases e1; exact absurd rfl (e2 _)
theorem RH.noFrz {h : PH} (r : RH P w K H h) {p : Addr} {ob : Obj} {xs : List V} (n : H p = some (.frz ob (.tup xs))) : h p = none := by
  cases e : h p with
  | none => rfl
  | some o => obtain ⟨u, e1, _, e2⟩ := r.mut e; rw [n] at e1; cases e1; exact absurd rfl (e2 _ _).1
theorem RH.noFrzL {h : PH} (r : RH P w K H h) {p : Addr} {ob : Obj} {xs : List V} (n : H p = some (.frz ob (.lst xs))) : h p = none := by
  cases e : h p with
  | none => rfl
  | some o => obtain ⟨u, e1, _, e2⟩ := r.mut e; rw [n] at e1; cases e1; exact absurd rfl (e2 _ _).2
theorem RH.sub {h g : PH} (r : RH P w K H h) (s : Sub g h) : RH P w K H g := fun a o e => r a o (s a o e)
theorem SqT.stp {h h' : PH} (r : RH P w K H h) (s : Stp h H h' H') {a : Addr} {xs : List V} (q : SqT K H a xs) : SqT K H' a xs := by
  rcases q with (q | ⟨o, q⟩) | q
  · exact .inl (.inl (s a _ q (r.noTup q)).1)
  · exact .inl (.inr ⟨o, (s a _ q (r.noFrz q)).1⟩)
  · exact .inr q
mutual
theorem RV.stp {h h' : PH} (r : RH P w K H h) (s : Stp h H h' H') : ∀ {v : V} {p : PV}, RV K H v p → RV K H' v p
  | _, _, .non => .non
  | _, _, .bl b => .bl b
  | _, _, .int i => .int i
  | _, _, .str x => .str x
  | _, _, .tup q hl rs => .tup (SqT.stp r s q) hl (RVs.stp r s rs)
  | _, _, .ref a => .ref a
  | _, _, .scr q hl => by
    rcases q with ⟨o, q⟩ | q
    · exact .scr (.inl ⟨o, (s _ _ q (r.noFrzL q)).1⟩) hl
    · exact .scr (.inr q) hl
theorem RVs.stp {h h' : PH} (r : RH P w K H h) (s : Stp h H h' H') : ∀ {vs : List V} {ps : List PV}, RVs K H vs ps → RVs K H' vs ps
  | _, _, .nil => .nil
  | _, _, .cons q t => .cons (RV.stp r s q) (RVs.stp r s t)
end
/-- an object that stays -/
theorem RO.keep {h h' : PH} (r : RH P w K H h) (s : Stp h H h' H') {a : Addr} {o : PO} (e : H' a = H a) (x : RO P w K H a o) : RO P w K H' a o := by
  cases o with
  | lst ps => obtain ⟨xs, e1, l, q⟩ := x; exact ⟨xs, e.trans e1, l, q.stp r s⟩
  | dic t lk kvs =>
    cases t
    · obtain ⟨ds, e1, l, q⟩ := x
      exact ⟨ds, e1.keep e, l, Paired.mapP q fun _ _ z => ⟨z.1, z.2.stp r s⟩⟩
    · obtain ⟨xs, e1, l, q⟩ := x
      exact ⟨xs, e1.keep e, l, Paired.mapP q fun _ _ ⟨z1, z2, z3, v, z4, z5⟩ => ⟨z1, z2, z3.stp r s, v, z4, z5.stp r s⟩⟩
/-- a new object -/
theorem stp_new {h : PH} {p : Addr} {o : HO} {u : PO} (r : RH P w K H h) (n : H p = none) : Stp h H (up h p u) (upd H p o) := fun b x e nb => by
  have hb : b ≠ p := fun z => by rw [z, n] at e; cases e
  exact ⟨by rw [upd_ne hb]; exact e, by rw [up_ne hb]; exact nb⟩
theorem stp_new0 {h : PH} {p : Addr} {o : HO} (n : H p = none) : Stp h H h (upd H p o) := fun b x e nb => by
  have hb : b ≠ p := fun z => by rw [z, n] at e; cases e
  exact ⟨by rw [upd_ne hb]; exact e, nb⟩
/-- an object written -/
theorem stp_set {h : PH} {p : Addr} {o : HO} {u u0 : PO} (e0 : h p = some u0) : Stp h H (up h p u) (upd H p o) := fun b x e nb => by
  have hb : b ≠ p := fun z => by rw [z, e0] at nb; cases nb
  exact ⟨by rw [upd_ne hb]; exact e, by rw [up_ne hb]; exact nb⟩
theorem RH.put {h : PH} {p : Addr} {o : HO} {u : PO} (r : RH P w K H h) (s : Stp h H (up h p u) (upd H p o)) (x : RO P w K (upd H p o) p u) : RH P w K (upd H p o) (up h p u) := fun a v e => by
  by_cases ha : a = p
  · subst ha; rw [up_same] at e; cases e; exact x
  · rw [up_ne ha] at e
    exact (r a v e).keep r s (upd_ne ha)
theorem RH.new0 {h : PH} {p : Addr} {o : HO} (r : RH P w K H h) (n : H p = none) : RH P w K (upd H p o) h := fun a v e => by
  have ha : a ≠ p := fun z => by
    subst z
    rw [r.free n] at e; cases e
  exact (r a v e).keep r (stp_new0 n) (upd_ne ha)
end
end G

namespace G
open PySem PySem.Spec PyProof.Rows L2

/-! ### readings over trees -/
abbrev Ev := List (Option PV)
abbrev QV := PV → PH → Prop
abbrev ZE := Ev → PH → QV → Prop
abbrev ZA := Ev → PH → (List PV → PH → Prop) → Prop
abbrev ZT := Ev → PH → (Bool → PH → Prop) → Prop
abbrev Z2 := PV → PV → PH → QV → Prop
abbrev ZC := List PV → PH → QV → Prop

def RS (K : PySem.W.Frag) (H : Hp) (σ : L2.St) (ρ : Ev) : Prop := σ.length = ρ.length ∧ ∀ (i : Nat) (p : PV), ρ[i]? = some (some p) → ∃ v, σ[i]? = some (some v) ∧ RV K H v p

section
variable (P : Program) (w : World) (K : PySem.W.Frag)
/-- from a tree's continuation to the values' -/
def Thn (h : PH) (H : Hp) (Qp : QV) (Q : VK) : Prop := ∀ p h', Qp p h' → ∀ v H', Stp h H h' H' → RV K H' v p → RH P w K H' h' → Q v H'
def LE (t : ZE) : TE := fun σ H Q => ∃ ρ h Qp, RS K H σ ρ ∧ RH P w K H h ∧ t ρ h Qp ∧ Thn P w K h H Qp Q
def LA (t : ZA) : TA := fun σ H Q => ∃ ρ h Qp, RS K H σ ρ ∧ RH P w K H h ∧ t ρ h Qp ∧ ∀ ps h', Qp ps h' → ∀ vs H', Stp h H h' H' → RVs K H' vs ps → RH P w K H' h' → Q vs H'
def LT (t : ZT) : TT := fun σ H Q => ∃ ρ h Qp, RS K H σ ρ ∧ RH P w K H h ∧ t ρ h Qp ∧ ∀ b h', Qp b h' → ∀ H', Stp h H h' H' → RH P w K H' h' → Q b H'
def L2r (r : Z2) : R2 := fun x y H Q => ∃ a b h Qp, RV K H x a ∧ RV K H y b ∧ RH P w K H h ∧ r a b h Qp ∧ Thn P w K h H Qp Q
def LC (r : ZC) : List V → Hp → VK → Prop := fun xs H Q => ∃ ps h Qp, RVs K H xs ps ∧ RH P w K H h ∧ r ps h Qp ∧ Thn P w K h H Qp Q
def LU (r : PV → PH → QV → Prop) : V → Hp → VK → Prop := fun x H Q => ∃ a h Qp, RV K H x a ∧ RH P w K H h ∧ r a h Qp ∧ Thn P w K h H Qp Q
end
abbrev QE (X : Cx) (e : Expr) (t : ZE) : Prop := PE X e (LE X.prog X.w X.K t)
abbrev QA (X : Cx) (es : List Expr) (t : ZA) : Prop := PA X es (LA X.prog X.w X.K t)
abbrev QT (X : Cx) (e : Expr) (t : ZT) : Prop := PT X e (LT X.prog X.w X.K t)
abbrev QO (X : Cx) (f : Value → Value → Sem Value) (r : Z2) : Prop := OpR X f (L2r X.prog X.w X.K r)
abbrev QC (X : Cx) (f : Value) (r : ZC) : Prop := CallR X f (LC X.prog X.w X.K r)

theorem peI {X : Cx} {e : Expr} {t t' : TE} (h : PE X e t) (i : ∀ σ H Q, t' σ H Q → t σ H Q) : PE X e t' := ⟨fun pins s σ H Q I q => h.run pins s σ H Q I (i σ H Q q)⟩
theorem ptI {X : Cx} {e : Expr} {t t' : TT} (h : PT X e t) (i : ∀ σ H Q, t' σ H Q → t σ H Q) : PT X e t' := ⟨fun pins s σ H Q I q => h.run pins s σ H Q I (i σ H Q q)⟩
theorem paI {X : Cx} {e : List Expr} {t t' : TA} (h : PA X e t) (i : ∀ σ H Q, t' σ H Q → t σ H Q) : PA X e t' := ⟨fun pos pins s σ H Q I q => h.run pos pins s σ H Q I (i σ H Q q)⟩
theorem opI {X : Cx} {f : Value → Value → Sem Value} {r r' : R2} (h : OpR X f r) (i : ∀ x y H Q, r' x y H Q → r x y H Q) : OpR X f r' := fun pins s σ H x y v u Q I rx ry q => h pins s σ H x y v u Q I rx ry (i x y H Q q)

section
variable {P : Program} {w : World} {K : PySem.W.Frag} {H H' : Hp} {h h' : PH} {σ : L2.St} {ρ : Ev}
theorem RS.stp (rs : RS K H σ ρ) (rh : RH P w K H h) (s : Stp h H h' H') : RS K H' σ ρ := ⟨rs.1, fun i p e => let ⟨v, a, b⟩ := rs.2 i p e; ⟨v, a, b.stp rh s⟩⟩
theorem RS.set (rs : RS K H σ ρ) {v : V} {p : PV} (r : RV K H v p) (i : Nat) : RS K H (σ.set i (some v)) (ρ.set i (some p)) := by
  refine ⟨by rw [List.length_set, List.length_set]; exact rs.1, fun j q e => ?_⟩
  by_cases hj : i = j
  · subst hj
    by_cases hi : i < ρ.length
    · rw [List.getElem?_set_self hi] at e
      have e' : p = q := by simpa using e
      subst e'
      exact ⟨v, by rw [List.getElem?_set_self (by rw [rs.1]; exact hi)], r⟩
    · rw [List.getElem?_eq_none (by simpa using hi)] at e; cases e
  · rw [List.getElem?_set_ne hj] at e
    obtain ⟨v', a, b⟩ := rs.2 j q e
    exact ⟨v', by rw [List.getElem?_set_ne hj]; exact a, b⟩
theorem Thn.now {Qp : QV} {Q : VK} (k : Thn P w K h H Qp Q) (rh : RH P w K H h) {v : V} {p : PV} (r : RV K H v p) (q : Qp p h) : Q v H := k p h q v H (Stp.refl h H) r rh
theorem Thn.later {h1 : PH} {H1 : Hp} {Qp : QV} {Q : VK} (k : Thn P w K h H Qp Q) (s : Stp h H h1 H1) : Thn P w K h1 H1 Qp Q := fun p h' q v H' s' r rh => k p h' q v H' (s.trans s') r rh
/-- a new tuple -/
theorem Thn.tup {Qp : QV} {Q : VK} (k : Thn P w K h H Qp Q) (rh : RH P w K H h) {vs : List V} {ps : List PV} (r : RVs K H vs ps) (hl : vs.length ≤ sizeLine) (q : Qp (.tup ps) h) : ∀ p, H p = none → Q (.ref p) (upd H p (.tup vs)) := fun p n =>
  k _ h q _ _ (stp_new0 n) (.tup (SqT.of upd_same) hl (r.stp rh (stp_new0 n))) (rh.new0 n)
/-- a new list -/
theorem Thn.lst {Qp : QV} {Q : VK} (k : Thn P w K h H Qp Q) (rh : RH P w K H h) {vs : List V} {ps : List PV} (r : RVs K H vs ps) (hl : vs.length ≤ sizeLine) (q : ∀ p, h p = none → Qp (.ref p) (up h p (.lst ps))) : ∀ p, H p = none → Q (.ref p) (upd H p (.lst vs)) := fun p n =>
  have s : Stp h H (up h p (.lst ps)) (upd H p (.lst vs)) := stp_new rh n
  k _ _ (q p (rh.free n)) _ _ s (.ref p) (rh.put s ⟨vs, upd_same, hl, r.stp rh s⟩)
/-- a list written -/
theorem Thn.put {Qp : QV} {Q : VK} (k : Thn P w K h H Qp Q) (rh : RH P w K H h) {a : Addr} {u0 : PO} (e0 : h a = some u0) {vs : List V} {ps : List PV} (r : RVs K H vs ps) (hl : vs.length ≤ sizeLine) {v : V} {p : PV} (rv : RV K H v p) (q : Qp p (up h a (.lst ps))) : Q v (upd H a (.lst vs)) :=
  have s : Stp h H (up h a (.lst ps)) (upd H a (.lst vs)) := stp_set e0
  k _ _ q _ _ s (rv.stp rh s) (rh.put s ⟨vs, upd_same, hl, r.stp rh s⟩)
end

section
variable {X : Cx} {e a b c : Expr} {es : List Expr} {t ta tb tc : ZE} {pos : Pos}
theorem LE.mono {P : Program} {w : World} {K : PySem.W.Frag} {σ : L2.St} {H : Hp} {Q : VK} {t : ZE} {ρ : Ev} {h : PH} {Qp : QV} (rs : RS K H σ ρ) (rh : RH P w K H h) (x : t ρ h Qp) (k : Thn P w K h H Qp Q) : LE P w K t σ H Q := ⟨ρ, h, Qp, rs, rh, x, k⟩

/-! ### names and constants -/
def zVar (i : Nat) : ZE := fun ρ h Q => ∃ p, ρ[i]? = some (some p) ∧ Q p h
def zC (p : PV) : ZE := fun _ h Q => Q p h
theorem qe_var {X : Cx} {pos : Pos} {i : Nat} {x : Str} (hN : X.N[i]? = some x) (hv : Vis X.env.scope x) (hd : (x == ("__debug__" : Str)) = false) (hcd : (x == ("__classdict__" : Str)) = false) : QE X (.Name x pos) (zVar i) :=
  peI (pe_var hN hv hd hcd) fun σ H Q ⟨ρ, h, Qp, rs, rh, ⟨p, e, q⟩, k⟩ =>
    let ⟨v, e1, r⟩ := rs.2 i p e
    ⟨v, e1, k.now rh r q⟩
theorem qe_int {i j} : QE X (.Constant (.int i) j pos) (zC (.int i)) := peI pe_int fun σ H Q ⟨ρ, h, Qp, rs, rh, q, k⟩ => k.now rh (.int i) q
theorem qe_bl {i j} : QE X (.Constant (.bool i) j pos) (zC (.bl i)) := peI pe_bl fun σ H Q ⟨ρ, h, Qp, rs, rh, q, k⟩ => k.now rh (.bl i) q
theorem qe_non {j} : QE X (.Constant .none j pos) (zC .non) := peI pe_non fun σ H Q ⟨ρ, h, Qp, rs, rh, q, k⟩ => k.now rh .non q
theorem qe_str {x : List Nat} {j} : QE X (.Constant (.str (tS x)) j pos) (zC (.str x)) := peI pe_str fun σ H Q ⟨ρ, h, Qp, rs, rh, q, k⟩ => k.now rh (.str x) q

/-! ### two places -/
def z2 (r : Z2) (ta tb : ZE) : ZE := fun ρ h Q => ta ρ h fun p h1 => tb ρ h1 fun q h2 => r p q h2 Q
theorem le_op {P : Program} {w : World} {K : PySem.W.Frag} {ta tb : ZE} {r : Z2} {σ : L2.St} {H : Hp} {Q : VK} (x : LE P w K (z2 r ta tb) σ H Q) : tOp (L2r P w K r) (LE P w K ta) (LE P w K tb) σ H Q := by
  obtain ⟨ρ, h, Qp, rs, rh, t, k⟩ := x
  refine ⟨ρ, h, _, rs, rh, t, fun p h1 t1 v H1 s1 r1 rh1 => ⟨ρ, h1, _, rs.stp rh s1, rh1, t1, fun q h2 t2 u H2 s2 r2 rh2 => ?_⟩⟩
  exact ⟨p, q, h2, Qp, r1.stp rh1 s2, r2, rh2, t2, (k.later s1).later s2⟩
theorem qe_op {op : Operator} {r : Z2} (ho : QO X (binaryOp op) r) (ha : QE X a ta) (hb : QE X b tb) : QE X (.BinOp a op b pos) (z2 r ta tb) := peI (pe_op ho ha hb) fun _ _ _ x => le_op x
theorem qe_cmp {op : CmpOp} {r : Z2} (ho : QO X (compareOp op) r) (ha : QE X a ta) (hb : QE X b tb) (hm : behindInMarks op b = false) : QE X (.Compare a [op] [b] pos) (z2 r ta tb) := peI (pe_cmpR ho ha hb hm) fun _ _ _ x => le_op x

/-! ### + -/
def zAdd : Z2
  | .int i, .int j, h, Q => Q (.int (i + j)) h
  | .str x, .str y, h, Q => x.length + y.length ≤ sizeLine ∧ Q (.str (x ++ y)) h
  | .tup x, .tup y, h, Q => x.length + y.length ≤ sizeLine ∧ Q (.tup (x ++ y)) h
  | .ref a, .ref b, h, Q => ∃ xs ys, h a = some (.lst xs) ∧ h b = some (.lst ys) ∧ xs.length + ys.length ≤ sizeLine ∧ ∀ p, h p = none → Q (.ref p) (up h p (.lst (xs ++ ys)))
  | _, _, _, _ => False
theorem tS_append (x y : List Nat) : (tS x ++ tS y : Str) = tS (x ++ y) := by
  show Str.append (tS x) (tS y) = _
  simp [Str.append, tS]
theorem qo_add : QO X (binaryOp .Add) zAdd := by
  intro pins s σ H x y v u Q I rx ry ⟨p, q, h, Qp, r1, r2, rh, z, k⟩
  cases p <;> cases q <;> try (exact False.elim z)
  case int.int i j =>
    cases r1; cases r2
    exact op_add pins s σ H _ _ v u Q I rx ry ⟨i, j, rfl, rfl, k.now rh (.int _) z⟩
  case str.str i j =>
    cases r1; cases r2
    refine op_add_str pins s σ H _ _ v u Q I rx ry ⟨tS i, tS j, rfl, rfl, by simpa [Str.length] using z.1, ?_⟩
    rw [tS_append]
    exact k.now rh (.str _) z.2
  case tup.tup i j =>
    cases r1 with
    | tup s1 l1 q1 =>
      cases r2 with
      | tup s2 l2 q2 =>
        have hl := q1.length
        have hl2 := q2.length
        refine op_catA pins s σ H _ _ v u Q I rx ry ⟨_, _, _, _, rfl, rfl, s1, s2, by rw [hl, hl2]; exact z.1, fun e => ?_, fun n e => ?_, fun _ _ => k.tup rh (q1.append q2) (by rw [List.length_append, hl, hl2]; exact z.1) z.2⟩
        · subst e
          cases q1
          exact k.now rh (.tup s2 l2 q2) z.2
        · subst e
          cases q2
          have z2 := z.2
          rw [List.append_nil] at z2
          exact k.now rh (.tup s1 l1 q1) z2
  case ref.ref i j =>
    cases r1; cases r2
    obtain ⟨xs, ys, e1, e2, hl, z⟩ := z
    obtain ⟨us, f1, l1, q1⟩ := rh i _ e1
    obtain ⟨ws, f2, l2, q2⟩ := rh j _ e2
    have hl1 := q1.length
    have hl2 := q2.length
    exact op_cat pins s σ H _ _ v u Q I rx ry ⟨i, j, us, ws, rfl, rfl, f1, f2, by omega, k.lst rh (q1.append q2) (by simp; omega) z⟩
end
end G

namespace G
open PySem PySem.Spec PyProof.Rows L2

/-! ### plain data: no truth values, no addresses -/
def PV.flat : PV → Bool
  | .non => true | .int _ => true | .str _ => true | .bl _ => true | _ => false
mutual
def PV.pl : PV → Bool
  | .non => true
  | .int _ => true
  | .str x => x.all fun c => decide (c < 1114112)
  | .tup xs => PV.pls xs
  | _ => false
def PV.pls : List PV → Bool
  | [] => true
  | x :: xs => PV.pl x && PV.pls xs
end
mutual
def PV.dp : PV → Nat
  | .tup xs => PV.dps xs + 1
  | _ => 0
def PV.dps : List PV → Nat
  | [] => 0
  | x :: xs => max (PV.dp x) (PV.dps xs)
end
mutual
def PV.D : PV → PyData
  | .int i => .int i
  | .str x => .str (tS x)
  | .tup xs => .tuple (PV.Ds xs)
  | _ => .none
def PV.Ds : List PV → List PyData
  | [] => []
  | x :: xs => PV.D x :: PV.Ds xs
end
mutual
theorem PV.D_lay : ∀ a : PV, a.pl = true → a.D.canLay0 = true
  | .non, _ => by simp [PV.D, PyData.canLay0]
  | .int _, _ => by simp [PV.D, PyData.canLay0]
  | .str x, h => by
    simp only [PV.pl] at h
    simp only [PV.D, PyData.canLay0, PyData.strOk, tS]
    simpa using h
  | .tup xs, h => by simpa [PV.D, PyData.canLay0] using PV.Ds_lay xs (by simpa [PV.pl] using h)
  | .bl _, h => by simp [PV.pl] at h
  | .ref _, h => by simp [PV.pl] at h
  | .scr _, h => by simp [PV.pl] at h
theorem PV.Ds_lay : ∀ a : List PV, PV.pls a = true → PyData.canLayAll0 (PV.Ds a) = true
  | [], _ => by simp [PV.Ds, PyData.canLayAll0]
  | x :: xs, h => by
    simp only [PV.pls, Bool.and_eq_true] at h
    simp only [PV.Ds, PyData.canLayAll0, PV.D_lay x h.1, PV.Ds_lay xs h.2, Bool.and_self]
end
mutual
theorem PV.D_depth : ∀ a : PV, a.D.depth = a.dp
  | .non => by simp [PV.D, PyData.depth, PV.dp]
  | .int _ => by simp [PV.D, PyData.depth, PV.dp]
  | .str x => by simp [PV.D, PyData.depth, PV.dp]
  | .tup xs => by simp [PV.D, PyData.depth, PV.dp, PV.Ds_depth xs]
  | .bl _ => by simp [PV.D, PyData.depth, PV.dp]
  | .ref _ => by simp [PV.D, PyData.depth, PV.dp]
  | .scr _ => by simp [PV.D, PyData.depth, PV.dp]
theorem PV.Ds_depth : ∀ a : List PV, PyData.depthAll (PV.Ds a) = PV.dps a
  | [] => by simp [PV.Ds, PyData.depthAll, PV.dps]
  | x :: xs => by simp [PV.Ds, PyData.depthAll, PV.dps, PV.D_depth x, PV.Ds_depth xs]
end
mutual
theorem PV.D_eqv : ∀ a b : PV, a.pl = true → b.pl = true → PyData.eqv a.D b.D = PV.beq a b
  | .non, b, _, hb => by cases b <;> simp [PV.D, PyData.eqv, PV.beq, PV.pl] at hb ⊢
  | .int i, b, _, hb => by cases b <;> simp [PV.D, PyData.eqv, PV.beq, PV.pl] at hb ⊢
  | .str x, b, _, hb => by
    cases b <;> simp [PV.D, PyData.eqv, PV.beq, PV.pl] at hb ⊢
    rename_i y
    by_cases e : x = y
    · subst e; simp
    · have e' : ¬ tS x = tS y := fun z => e (tS_inj.mp z)
      rw [beq_eq_false_iff_ne.mpr e, beq_eq_false_iff_ne.mpr e']
  | .tup xs, b, ha, hb => by
    cases b with
    | tup ys => simp only [PV.D, PyData.eqv, PV.beq]; exact PV.Ds_eqv xs ys (by simpa [PV.pl] using ha) (by simpa [PV.pl] using hb)
    | _ => simp [PV.D, PyData.eqv, PV.beq, PV.pl] at hb ⊢
  | .bl _, _, h, _ => by simp [PV.pl] at h
  | .ref _, _, h, _ => by simp [PV.pl] at h
  | .scr _, _, h, _ => by simp [PV.pl] at h
theorem PV.Ds_eqv : ∀ a b : List PV, PV.pls a = true → PV.pls b = true → PyData.eqvAll (PV.Ds a) (PV.Ds b) = PV.beqs a b
  | [], b, _, _ => by cases b <;> simp [PV.Ds, PyData.eqvAll, PV.beqs]
  | x :: xs, b, ha, hb => by
    cases b with
    | nil => simp [PV.Ds, PyData.eqvAll, PV.beqs]
    | cons y ys =>
      simp only [PV.pls, Bool.and_eq_true] at ha hb
      simp only [PV.Ds, PyData.eqvAll, PV.beqs]
      rw [PV.D_eqv x y ha.1 hb.1, PV.Ds_eqv xs ys ha.2 hb.2]
end
theorem PV.beq_dec (a b : PV) : PV.beq a b = decide (a = b) := by
  rw [Bool.eq_iff_iff, PV.beq_iff, decide_eq_true_eq]
theorem PV.beqs_dec (a b : List PV) : PV.beqs a b = decide (a = b) := by
  rw [Bool.eq_iff_iff, PV.beqs_iff, decide_eq_true_eq]
theorem PV.shaped {a : PV} (h : a.pl = true) (d : a.dp ≤ 64) : SeqAt.shaped a.D = true := by
  unfold SeqAt.shaped
  rw [PV.D_lay a h, PV.D_depth]
  simp [d]
theorem PV.shapedL {a : List PV} (h : PV.pls a = true) (d : PV.dps a ≤ 63) : SeqAt.shaped (.list (PV.Ds a)) = true := by
  unfold SeqAt.shaped
  simp only [PyData.canLay0, PyData.depth, PV.Ds_lay a h, PV.Ds_depth, Bool.true_and, decide_eq_true_eq]
  omega
section
variable {K : PySem.W.Frag} {H : Hp}
mutual
theorem RV.dp : ∀ (p : PV) (v : V), p.pl = true → RV K H v p → Dp K H v p.D
  | .non, _, _, h => by cases h; exact .non
  | .int i, _, _, h => by cases h; exact .int i
  | .str x, _, _, h => by cases h; exact .str _
  | .tup xs, _, hp, h => by
    cases h with
    | tup s l r => exact .tup s (RVs.dp xs _ (by simpa [PV.pl] using hp) r)
  | .bl _, _, h, _ => by simp [PV.pl] at h
  | .ref _, _, h, _ => by simp [PV.pl] at h
  | .scr _, _, h, _ => by simp [PV.pl] at h
theorem RVs.dp : ∀ (ps : List PV) (vs : List V), PV.pls ps = true → RVs K H vs ps → DpAll K H vs (PV.Ds ps)
  | [], _, _, h => by cases h; exact .nil
  | p :: ps, _, hp, h => by
    simp only [PV.pls, Bool.and_eq_true] at hp
    cases h with
    | cons r t => exact .cons (RV.dp p _ hp.1 r) (RVs.dp ps _ hp.2 t)
end
/-- the value itself, where it is flat -/
def PV.v : PV → V
  | .non => .non | .int i => .int i | .str x => .str (tS x) | .bl b => .bl b | _ => .non
theorem RV.v_of {v : V} {p : PV} (f : p.flat = true) (h : RV K H v p) : v = p.v := by
  cases h <;> first | rfl | (simp [PV.flat] at f)
end

/-- a == b -/
def zEq : Z2
  | .ref a, .ref b, h, Q => ∃ xs ys, h a = some (.lst xs) ∧ h b = some (.lst ys) ∧ PV.pls xs = true ∧ PV.pls ys = true ∧ PV.dps xs ≤ 63 ∧ PV.dps ys ≤ 63 ∧ Q (.bl (decide (xs = ys))) h
  | .tup a, b, h, Q => PV.pls a = true ∧ b.pl = true ∧ PV.dps a ≤ 63 ∧ b.dp ≤ 64 ∧ Q (.bl (decide (PV.tup a = b))) h
  | a, .tup b, h, Q => a.pl = true ∧ PV.pls b = true ∧ PV.dps b ≤ 63 ∧ Q (.bl (decide (a = PV.tup b))) h
  | a, b, h, Q => a.flat = true ∧ b.flat = true ∧ scal a.v b.v = true ∧ Q (.bl (decide (a = b))) h
def zNot (r : Z2) : Z2 := fun a b h Q => r a b h fun p h' => match p with | .bl k => Q (.bl (!k)) h' | _ => False
section
variable {X : Cx}
theorem pv_v_inj {a b : PV} (fa : a.flat = true) (fb : b.flat = true) : decide (a.v = b.v) = decide (a = b) := by
  cases a <;> cases b <;> simp [PV.flat, PV.v] at fa fb ⊢
/-- both, by what HandS has for == and for != -/
theorem eq_any {P : Program} {w : World} {K : PySem.W.Frag} {x y : V} {H : Hp} {a b : PV} {h : PH} {Qp : QV} (r1 : RV K H x a) (r2 : RV K H y b) (rh : RH P w K H h) (z : zEq a b h Qp) :
    (∃ d e, Dp K H x d ∧ Dp K H y e ∧ SeqAt.shaped d = true ∧ SeqAt.shaped e = true ∧ Qp (.bl (PyData.eqv d e)) h) ∨ (scal x y = true ∧ Qp (.bl (decide (x = y))) h) := by
  have deep : ∀ {a b : PV}, RV K H x a → RV K H y b → a.pl = true → b.pl = true → a.dp ≤ 64 → b.dp ≤ 64 → Qp (.bl (decide (a = b))) h →
      (∃ d e, Dp K H x d ∧ Dp K H y e ∧ SeqAt.shaped d = true ∧ SeqAt.shaped e = true ∧ Qp (.bl (PyData.eqv d e)) h) := fun {a b} r1 r2 pa pb da db q =>
    ⟨_, _, r1.dp _ _ pa, r2.dp _ _ pb, PV.shaped pa da, PV.shaped pb db, by rw [PV.D_eqv a b pa pb, PV.beq_dec]; exact q⟩
  have flat : a.flat = true → b.flat = true → scal a.v b.v = true → Qp (.bl (decide (a = b))) h → (scal x y = true ∧ Qp (.bl (decide (x = y))) h) := fun fa fb s q => by
    rw [r1.v_of fa, r2.v_of fb, pv_v_inj fa fb]
    exact ⟨s, q⟩
  have dt : ∀ xs, (PV.tup xs).dp = PV.dps xs + 1 := fun xs => by simp [PV.dp]
  cases a
  case tup a =>
    obtain ⟨p1, p2, d1, d2, q⟩ := z
    exact .inl (deep r1 r2 (by simpa [PV.pl] using p1) p2 (by rw [dt]; omega) d2 q)
  case ref a =>
    cases b
    case ref b =>
      obtain ⟨xs, ys, e1, e2, p1, p2, d1, d2, q⟩ := z
      obtain ⟨us, f1, _, q1⟩ := rh _ _ e1
      obtain ⟨ws, f2, _, q2⟩ := rh _ _ e2
      cases r1; cases r2
      refine .inl ⟨_, _, .lst (SqL.of f1) (q1.dp _ _ p1), .lst (SqL.of f2) (q2.dp _ _ p2), PV.shapedL p1 d1, PV.shapedL p2 d2, ?_⟩
      rw [show PyData.eqv (.list (PV.Ds xs)) (.list (PV.Ds ys)) = PyData.eqvAll (PV.Ds xs) (PV.Ds ys) by simp [PyData.eqv], PV.Ds_eqv xs ys p1 p2, PV.beqs_dec]
      exact q
    all_goals (obtain ⟨p1, _⟩ := z; simp [PV.pl, PV.flat] at p1)
  all_goals
    cases b
    case tup b =>
      obtain ⟨p1, p2, d2, q⟩ := z
      exact .inl (deep r1 r2 p1 (by simpa [PV.pl] using p2) (by simp [PV.dp]) (by rw [dt]; omega) q)
    all_goals
      obtain ⟨p1, p2, d2, q⟩ := z
      exact .inr (flat p1 p2 d2 q)
theorem qo_eq (hu : X.A.units + 64 < cLine) : QO X (compareOp .Eq) zEq := by
  intro pins s σ H x y v u Q I rx ry ⟨p, q, h, Qp, r1, r2, rh, z, k⟩
  rcases eq_any r1 r2 rh z with ⟨d, e, d1, d2, s1, s2, z⟩ | ⟨s1, z⟩
  · exact op_eqD hu pins s σ H x y v u Q I rx ry ⟨d, e, d1, d2, s1, s2, k.now rh (.bl _) z⟩
  · exact op_eq pins s σ H x y v u Q I rx ry ⟨s1, k.now rh (.bl _) z⟩
theorem qo_ne (hu : X.A.units + 64 < cLine) : QO X (compareOp .NotEq) (zNot zEq) := by
  intro pins s σ H x y v u Q I rx ry ⟨p, q, h, Qp, r1, r2, rh, z, k⟩
  rcases eq_any r1 r2 rh z with ⟨d, e, d1, d2, s1, s2, z⟩ | ⟨s1, z⟩
  · exact op_neD hu pins s σ H x y v u Q I rx ry ⟨d, e, d1, d2, s1, s2, k.now rh (.bl _) z⟩
  · exact op_ne pins s σ H x y v u Q I rx ry ⟨s1, k.now rh (.bl _) z⟩

/-! ### ints -/
def zI (C : Int → Int → Prop) (g : Int → Int → PV) : Z2
  | .int i, .int j, h, Q => C i j ∧ Q (g i j) h
  | _, _, _, _ => False
theorem qo_i {f : Value → Value → Sem Value} {C : Int → Int → Prop} {g : Int → Int → Int} (o : OpR X f (rI C fun i j => .int (g i j))) : QO X f (zI C fun i j => .int (g i j)) := by
  intro pins s σ H x y v u Q I rx ry ⟨p, q, h, Qp, r1, r2, rh, z, k⟩
  cases p <;> cases q <;> try (exact False.elim z)
  cases r1; cases r2
  exact o pins s σ H _ _ v u Q I rx ry ⟨_, _, rfl, rfl, z.1, k.now rh (.int _) z.2⟩
theorem qo_b {f : Value → Value → Sem Value} {g : Int → Int → Bool} (o : OpR X f (rI0 fun i j => .bl (g i j))) : QO X f (zI (fun _ _ => True) fun i j => .bl (g i j)) := by
  intro pins s σ H x y v u Q I rx ry ⟨p, q, h, Qp, r1, r2, rh, z, k⟩
  cases p <;> cases q <;> try (exact False.elim z)
  cases r1; cases r2
  exact o pins s σ H _ _ v u Q I rx ry ⟨_, _, rfl, rfl, k.now rh (.bl _) z.2⟩
def zSub : Z2 := zI (fun _ _ => True) fun i j => .int (i - j)
theorem qo_sub : QO X (binaryOp .Sub) zSub := by
  intro pins s σ H x y v u Q I rx ry ⟨p, q, h, Qp, r1, r2, rh, z, k⟩
  cases p <;> cases q <;> try (exact False.elim z)
  cases r1; cases r2
  exact op_sub pins s σ H _ _ v u Q I rx ry ⟨_, _, rfl, rfl, k.now rh (.int _) z.2⟩
def zDiv : Z2 := zI CDiv fun i j => .int (i / j)
theorem qo_div : QO X (binaryOp .FloorDiv) zDiv := qo_i op_fdiv
def zMod : Z2 := zI (fun _ j => 0 < j) fun i j => .int (i % j)
theorem qo_mod : QO X (binaryOp .Mod) zMod := qo_i op_mod
def zPow : Z2 := zI CPow fun i j => .int (i ^ j.toNat)
theorem qo_pow : QO X (binaryOp .Pow) zPow := qo_i op_pow
def zLt : Z2 := zI (fun _ _ => True) fun i j => .bl (decide (i < j))
theorem qo_lt : QO X (compareOp .Lt) zLt := qo_b op_lt
def zLe : Z2 := zI (fun _ _ => True) fun i j => .bl (decide (i ≤ j))
theorem qo_le : QO X (compareOp .LtE) zLe := qo_b op_le
def zGt : Z2 := zI (fun _ _ => True) fun i j => .bl (decide (j < i))
theorem qo_gt : QO X (compareOp .Gt) zGt := qo_b op_gt
def zGe : Z2 := zI (fun _ _ => True) fun i j => .bl (decide (j ≤ i))
theorem qo_ge : QO X (compareOp .GtE) zGe := qo_b op_ge
/-- * : the factors, or their size, small -/
def CMulA (i j : Int) : Prop := CMul i j ∨ CMulW i j
theorem op_mulA : OpR X (binaryOp .Mult) (rI CMulA fun i j => .int (i * j)) := by
  intro pins s σ H x y v u Q I rx ry ⟨i, j, e1, e2, c, q⟩
  rcases c with c | c
  · exact op_mul pins s σ H x y v u Q I rx ry ⟨i, j, e1, e2, c, q⟩
  · exact op_mulW pins s σ H x y v u Q I rx ry ⟨i, j, e1, e2, c, q⟩
def zMul : Z2
  | .int i, .int j, h, Q => CMulA i j ∧ Q (.int (i * j)) h
  | .tup xs, .int j, h, Q => xs ≠ [] ∧ 2 ≤ j ∧ j ≤ 1000 ∧ xs.length ≤ 1000 ∧ Q (.tup (List.replicate j.toNat xs).flatten) h
  | _, _, _, _ => False
theorem RVs.rep {K : PySem.W.Frag} {H : Hp} {xs : List V} {ps : List PV} (r : RVs K H xs ps) : ∀ k : Nat, RVs K H (List.replicate k xs).flatten (List.replicate k ps).flatten
  | 0 => .nil
  | k + 1 => by
    rw [List.replicate_succ, List.replicate_succ, List.flatten_cons, List.flatten_cons]
    exact r.append (RVs.rep r k)
theorem qo_mul : QO X (binaryOp .Mult) zMul := by
  intro pins s σ H x y v u Q I rx ry ⟨p, q, h, Qp, r1, r2, rh, z, k⟩
  cases p <;> cases q <;> try (exact False.elim z)
  case int.int =>
    cases r1; cases r2
    exact op_mulA pins s σ H _ _ v u Q I rx ry ⟨_, _, rfl, rfl, z.1, k.now rh (.int _) z.2⟩
  case tup.int xs j =>
    cases r2
    cases r1 with
    | tup s1 l1 q1 =>
      obtain ⟨hn, h1, h2, h3, z⟩ := z
      have hl := q1.length
      refine op_repT pins s σ H _ _ v u Q I rx ry ⟨_, _, _, rfl, rfl, s1, fun e => ?_, h1, h2, by omega, k.tup rh (q1.rep _) ?_ z⟩
      · subst e; cases q1; exact hn rfl
      · rw [PyProof.Rows.lm_len_rep_flat, sizeLine_eq]
        rw [hl]
        have a1 : j.toNat * xs.length ≤ 1000 * 1000 := Nat.mul_le_mul (show j.toNat ≤ 1000 by omega) h3
        omega
end
end G

namespace G
open PySem PySem.Spec PyProof.Rows L2

/-! ### dicts over trees -/
def dget (kvs : List (PV × PV)) (k : PV) : Option PV := (kvs.find? fun kv => decide (kv.1 = k)).map (·.2)
def dput (kvs : List (PV × PV)) (k v : PV) : List (PV × PV) :=
  if (kvs.any fun kv => decide (kv.1 = k)) = true then kvs.map (fun kv => if kv.1 = k then (kv.1, v) else kv) else kvs ++ [(k, v)]
def PV.leaf : PV → Bool
  | .int _ => true | .str _ => true | _ => false
/-- what may be a key of a dict of the kind t -/
def keyOk : Bool → PV → Bool
  | false, p => p.leaf
  | true, .tup xs => match nks xs with
    | some ks => decide (NestedKey.depthAll ks ≤ 7)
    | none => false
  | true, _ => false
def keyOf : PV → Key
  | .int i => .inl i
  | .str x => .inr (tS x)
  | _ => .inl 0
theorem kP_keyOf {p : PV} (h : p.leaf = true) : kP (keyOf p) = p := by
  cases p <;> simp [PV.leaf] at h <;> simp [kP, keyOf]
theorem kP_inj {a b : Key} (h : kP a = kP b) : a = b := by
  cases a <;> cases b <;> simp [kP] at h ⊢
  · exact h
  · rename_i x y
    cases x; cases y
    simp at h
    simp [h]
mutual
theorem nk_inj : ∀ (a b : PV) (k : NestedKey), nk a = some k → nk b = some k → a = b
  | .non, b, k, h1, h2 => by
    simp [nk] at h1; subst h1
    cases b <;> simp [nk] at h2 ⊢
  | .int i, b, k, h1, h2 => by
    simp [nk] at h1; subst h1
    cases b <;> simp [nk] at h2 ⊢
    exact h2.symm
  | .str x, b, k, h1, h2 => by
    simp [nk] at h1; subst h1
    cases b <;> simp [nk] at h2 ⊢
    exact h2.symm
  | .tup xs, b, k, h1, h2 => by
    simp only [nk, Option.map_eq_some_iff] at h1
    obtain ⟨ks, e1, e2⟩ := h1
    subst e2
    cases b <;> simp [nk] at h2
    rename_i ys
    rw [nks_inj xs ys ks e1 h2]
  | .bl _, _, _, h, _ => by simp [nk] at h
  | .ref _, _, _, h, _ => by simp [nk] at h
  | .scr _, _, _, h, _ => by simp [nk] at h
theorem nks_inj : ∀ (a b : List PV) (k : List NestedKey), nks a = some k → nks b = some k → a = b
  | [], b, k, h1, h2 => by
    simp [nks] at h1; subst h1
    cases b with
    | nil => rfl
    | cons y ys =>
      simp only [nks] at h2
      split at h2 <;> cases h2
  | x :: xs, b, k, h1, h2 => by
    simp only [nks] at h1
    split at h1 <;> cases h1
    rename_i k1 ks1 e1 e2
    cases b with
    | nil => simp [nks] at h2
    | cons y ys =>
      simp only [nks] at h2
      split at h2 <;> cases h2
      rename_i e3 e4
      rw [nk_inj x y _ e1 e3, nks_inj xs ys _ e2 e4]
end
section
variable {X : Cx} {pins : List (Addr × Obj)} {σ : L2.St} {H : Hp} {s : Shared}
mutual
theorem RV.nested (I : L2.Inv X pins σ H s) : ∀ (p : PV) (v : V) (u : Value) (k : NestedKey), RV X.K H v p → nk p = some k → RelV v u → NestedIs s.heap k u
  | .non, _, _, _, h, e, r => by simp [nk] at e; subst e; cases h; cases r; exact .none
  | .int i, _, _, _, h, e, r => by simp [nk] at e; subst e; cases h; obtain ⟨t, rfl⟩ := r; exact .int i t
  | .str x, _, _, _, h, e, r => by simp [nk] at e; subst e; cases h; obtain ⟨t, rfl⟩ := r; exact .text _ t
  | .tup xs, _, _, _, h, e, r => by
    simp only [nk, Option.map_eq_some_iff] at e
    obtain ⟨ks, e1, e2⟩ := e
    subst e2
    cases h with
    | tup hs hl hr =>
      cases r
      obtain ⟨its, rv, ⟨o, ho, hc, n, hd⟩, _⟩ := I.tuple hs
      exact .tup ho hc hd (RVs.nested I xs _ _ _ hr e1 rv)
  | .bl _, _, _, _, _, e, _ => by simp [nk] at e
  | .ref _, _, _, _, _, e, _ => by simp [nk] at e
  | .scr _, _, _, _, _, e, _ => by simp [nk] at e
theorem RVs.nested (I : L2.Inv X pins σ H s) : ∀ (ps : List PV) (vs : List V) (us : List Value) (ks : List NestedKey), RVs X.K H vs ps → nks ps = some ks → Vals vs us → NestedAll s.heap ks us
  | [], _, _, _, h, e, r => by simp [nks] at e; subst e; cases h; cases r; exact .nil
  | p :: ps, _, _, _, h, e, r => by
    simp only [nks] at e
    split at e <;> cases e
    rename_i k1 ks1 e1 e2
    cases h with
    | cons h1 h2 =>
      cases r with
      | cons r1 r2 => exact .cons (RV.nested I p _ _ _ h1 e1 r1) (RVs.nested I ps _ _ _ h2 e2 r2)
end
theorem keyT {p : PV} (h : keyOk true p = true) : ∃ k, nk p = some k ∧ k.depth ≤ 8 := by
  cases p with
  | tup xs =>
    simp only [keyOk] at h
    split at h
    · rename_i ks e
      refine ⟨.tup ks, by simp [nk, e], ?_⟩
      have := of_decide_eq_true h
      simp only [NestedKey.depth]; omega
    · cases h
  | _ => cases h
theorem keyT_ref {p : PV} {v : V} (h : keyOk true p = true) (r : RV X.K H v p) : ∃ b, v = .ref b := by
  cases p <;> first | (cases h; done) | skip
  cases r
  exact ⟨_, rfl⟩
/-- the dict in the heap -/
theorem dic_of (I : L2.Inv X pins σ H s) {a : Addr} {kvs : List (PV × PV)} {xs : List (NestedKey × Addr × Value)} (e : Rd H a (.ext (dphi X.prog X.w a xs))) (r : Paired (EntT X.K H) kvs xs) :
    (a == sysModules) = false ∧ xs.length ≤ sizeLine ∧ s.heap.DictOfH (nestedKind X.prog X.w) a xs := by
  obtain ⟨⟨h1, h2, o, es, ep, ho, hx, hd, he, hn⟩, _⟩ := e.ok I.hok
  refine ⟨h1, h2, o, es, ep, ho, hx, hd, he, ?_, hn⟩
  have all : ∀ {kvs : List (PV × PV)} {xs : List (NestedKey × Addr × Value)}, Paired (EntT X.K H) kvs xs → ∀ x ∈ xs, (nestedKind X.prog X.w).is s.heap x.1 x.2.1 := by
    intro kvs xs r
    induction r with
    | nil => intro x hx; cases hx
    | cons q t ih =>
      intro x hx
      rcases List.mem_cons.mp hx with rfl | hx
      · obtain ⟨q1, q2, q3, _⟩ := q
        exact ⟨q3.nested I _ _ _ _ q1 rfl, q2⟩
      · exact ih x hx
  exact all r
theorem ent_at {K : PySem.W.Frag} {k : NestedKey} {p : PV} (hk : nk p = some k) : ∀ {kvs : List (PV × PV)} {xs : List (NestedKey × Addr × Value)}, Paired (EntT K H) kvs xs →
    (dget kvs p = none ∧ atKey xs k = none) ∨ ∃ q b u v, dget kvs p = some q ∧ atKey xs k = some (b, u) ∧ RelV v u ∧ RV K H v q := by
  intro kvs xs r
  induction r with
  | nil => exact .inl ⟨rfl, rfl⟩
  | cons q t ih =>
    rename_i kv x _ _
    obtain ⟨q1, q2, q3, v, q4, q5⟩ := q
    by_cases e : kv.1 = p
    · have e' : x.1 = k := by rw [e, hk] at q1; exact (Option.some.inj q1).symm
      exact .inr ⟨kv.2, x.2.1, x.2.2, v, by simp [dget, List.find?_cons, e], by simp [atKey, List.find?_cons, e'], q4, q5⟩
    · have e' : ¬ x.1 = k := fun z => e (nk_inj _ _ _ q1 (by rw [hk, z]))
      have d1 : ∀ l, dget (kv :: l) p = dget l p := fun l => by simp [dget, List.find?_cons, e]
      have d2 : ∀ l, atKey (x :: l) k = atKey l k := fun l => by simp [atKey, List.find?_cons, e']
      rw [d1, d2]
      exact ih
theorem ent_atK {K : PySem.W.Frag} {p : PV} (hk : p.leaf = true) : ∀ {kvs : List (PV × PV)} {ds : List (Key × V)}, Paired (EntK K H) kvs ds →
    (dget kvs p = none ∧ valV ds (keyOf p) = none) ∨ ∃ q v, dget kvs p = some q ∧ valV ds (keyOf p) = some v ∧ RV K H v q := by
  intro kvs ds r
  induction r with
  | nil => exact .inl ⟨rfl, rfl⟩
  | cons q t ih =>
    rename_i kv x _ _
    obtain ⟨q1, q2⟩ := q
    by_cases e : kv.1 = p
    · have e' : x.1 = keyOf p := kP_inj (by rw [kP_keyOf hk, ← q1, e])
      exact .inr ⟨kv.2, x.2, by simp [dget, List.find?_cons, e], valV_pos e', q2⟩
    · have e' : ¬ x.1 = keyOf p := fun z => e (by rw [q1, z, kP_keyOf hk])
      have d1 : ∀ l, dget (kv :: l) p = dget l p := fun l => by simp [dget, List.find?_cons, e]
      rw [d1, valV_neg e']
      exact ih
theorem kV_of {K : PySem.W.Frag} {p : PV} {v : V} (hk : p.leaf = true) (r : RV K H v p) : v = kV (keyOf p) := by
  cases r <;> simp [PV.leaf] at hk <;> rfl

/-- d[k] = v over trees -/
theorem paired_put {α β : Type} {F : α → β → Prop} {f : α → α} {g : β → β} : ∀ {l : List α} {m : List β}, Paired F l m → (∀ a b, F a b → F (f a) (g b)) → Paired F (l.map f) (m.map g)
  | _, _, .nil, _ => .nil
  | _, _, .cons q t, h => .cons (h _ _ q) (paired_put t h)
theorem any_dget (kvs : List (PV × PV)) (p : PV) : (kvs.any fun kv => decide (kv.1 = p)) = (dget kvs p).isSome := by
  induction kvs with
  | nil => rfl
  | cons kv l ih =>
    by_cases e : kv.1 = p
    · simp [dget, List.find?_cons, e]
    · rw [List.any_cons, decide_eq_false e, Bool.false_or, ih]
      simp [dget, List.find?_cons, e]
theorem ent_put {K : PySem.W.Frag} {k : NestedKey} {p pv : PV} {b : Addr} {u : Value} {v : V} (hk : nk p = some k) (hd : k.depth ≤ 8) (rb : RV K H (.ref b) p) (ru : RelV v u) (rv : RV K H v pv) {kvs : List (PV × PV)} {xs : List (NestedKey × Addr × Value)} (r : Paired (EntT K H) kvs xs) :
    Paired (EntT K H) (dput kvs p pv) (storedH xs k b u) := by
  unfold dput
  rw [any_dget]
  rcases ent_at hk r with ⟨e1, e2⟩ | ⟨q, b', u', v', e1, e2, r1, r2⟩
  · rw [e1, storedH_new e2]
    simp only [Option.isSome_none, Bool.false_eq_true, if_false]
    exact Paired.snoc r ⟨hk, hd, rb, v, ru, rv⟩
  · rw [e1, storedH_old e2]
    simp only [Option.isSome_some, if_true]
    refine paired_put r fun kv x ⟨q1, q2, q3, w', q4, q5⟩ => ?_
    by_cases e : kv.1 = p
    · have e' : x.1 = k := by rw [e, hk] at q1; exact (Option.some.inj q1).symm
      simp only [if_pos e, putAt, if_pos e']
      exact ⟨q1, q2, q3, v, ru, rv⟩
    · have e' : ¬ x.1 = k := fun z => e (nk_inj _ _ _ q1 (by rw [hk, z]))
      simp only [if_neg e, putAt, if_neg e']
      exact ⟨q1, q2, q3, w', q4, q5⟩
theorem ent_putK {K : PySem.W.Frag} {p pv : PV} {v : V} (hk : p.leaf = true) (rv : RV K H v pv) {kvs : List (PV × PV)} {ds : List (Key × V)} (r : Paired (EntK K H) kvs ds) :
    Paired (EntK K H) (dput kvs p pv) (putK ds (keyOf p) v) := by
  unfold dput putK
  rw [any_dget, valV_any]
  rcases ent_atK hk r with ⟨e1, e2⟩ | ⟨q, v', e1, e2, r2⟩
  · rw [e1, e2]
    simp only [Option.isSome_none, Bool.false_eq_true, if_false]
    exact Paired.snoc r ⟨(kP_keyOf hk).symm, rv⟩
  · rw [e1, e2]
    simp only [Option.isSome_some, if_true]
    refine paired_put r fun kv x ⟨q1, q2⟩ => ?_
    by_cases e : kv.1 = p
    · have e' : x.1 = keyOf p := kP_inj (by rw [kP_keyOf hk, ← q1, e])
      simp only [if_pos e, if_pos e']
      exact ⟨q1, rv⟩
    · have e' : ¬ x.1 = keyOf p := fun z => e (by rw [q1, z, kP_keyOf hk])
      simp only [if_neg e, if_neg e']
      exact ⟨q1, q2⟩
theorem len_storedH (xs : List (NestedKey × Addr × Value)) (k : NestedKey) (b : Addr) (u : Value) : (storedH xs k b u).length ≤ xs.length + 1 := by
  unfold storedH
  split <;> simp
theorem len_dput (kvs : List (PV × PV)) (p v : PV) : (dput kvs p v).length ≤ kvs.length + 1 := by
  unfold dput
  split <;> simp
end

/-- o[k] -/
def zIx : Z2
  | .tup xs, .int i, h, Q => ∃ v, atI xs i = some v ∧ Q v h
  | .str x, .int i, h, Q => ∃ c, x.length ≤ sizeLine ∧ atI x i = some c ∧ Q (.str [c]) h
  | .ref a, k, h, Q => match h a, k with
    | some (.lst xs), .int i => ∃ v, atI xs i = some v ∧ Q v h
    | some (.dic t _ kvs), k => keyOk t k = true ∧ ∃ v, dget kvs k = some v ∧ Q v h
    | _, _ => False
  | _, _, _, _ => False
/-- x in c -/
def zIn : Z2
  | x, .tup ys, h, Q => x.flat = true ∧ ys.all PV.flat = true ∧ x.pl = true ∧ PV.pls ys = true ∧ Q (.bl (decide (x ∈ ys))) h
  | x, .ref a, h, Q => match h a with
    | some (.lst ys) => x.pl = true ∧ x.dp ≤ 64 ∧ PV.pls ys = true ∧ PV.dps ys ≤ 63 ∧ Q (.bl (decide (x ∈ ys))) h
    | some (.dic t _ kvs) => keyOk t x = true ∧ Q (.bl (dget kvs x).isSome) h
    | none => False
  | _, _, _, _ => False
section
variable {X : Cx}
theorem atI_rv {K : PySem.W.Frag} {H : Hp} {vs : List V} {ps : List PV} {i : Int} {p : PV} (r : RVs K H vs ps) (e : atI ps i = some p) : ∃ v, atI vs i = some v ∧ RV K H v p := by
  unfold atI at e ⊢
  rw [r.length]
  obtain ⟨j, e1, e2⟩ := Option.bind_eq_some_iff.mp e
  obtain ⟨v, f1, f2⟩ := r.get e2
  exact ⟨v, by rw [e1]; exact f1, f2⟩
/-- a subscript of a dict, by values -/
theorem ix_dic {T id : String} (hl : typeLookup (.type T) "__getitem__" = pure (some (.builtin id))) {value slice : Expr} {A : Around} {E : Value → Shared → Prop} {s : Shared} {o i : Value} {Q : Value → Shared → Prop} (hT : s.TypeIs o T)
    (hs : subscripted slice false o i = operate [o, i] (getItem o i)) (h : wpAny (model X.prog X.w) A (getItem o i) Q E s) : wpAny (model X.prog X.w) A (subscriptTail value slice o i) Q E s := by
  unfold subscriptTail
  refine wpAny_bind ?_
  rw [getitemInPython_of_ne hT.not_modules]
  refine wpAny_bind (wpAny_specialOf hT hl ?_)
  have fin : wpAny (model X.prog X.w) A (subscripted slice false o i) (fun r s₃ => wpAny (model X.prog X.w) A (letTemporaryGo value o r >>= fun _ => pure r) Q E s₃) E s := by
    rw [hs]
    exact wpAny_operating (wpAny_mono h (fun r s₃ h₃ => wpAny_bind (wpAny_letTemporaryGo (wpAny_pure h₃))) fun _ _ x => x)
  first
    | exact wpAny_pure (wpAny_bind fin)
    | exact wpAny_bind (wpAny_pure (wpAny_bind fin))
    | exact wpAny_bind fin
theorem qx_ix (hu : X.A.units + 64 < cLine) : IxR X (L2r X.prog X.w X.K zIx) := by
  intro value slice pins s σ H x y v u Q I rx ry ⟨p, q, h, Qp, r1, r2, rh, z, k⟩ hs
  cases p
  case tup xs =>
    cases q <;> first | (exact False.elim z) | skip
    cases r2
    obtain ⟨pv, e, z⟩ := z
    cases r1 with
    | tup s1 l1 q1 =>
      obtain ⟨w, e2, rw'⟩ := atI_rv q1 e
      exact ix_tup value slice pins s σ H _ _ v u Q I rx ry ⟨_, _, _, w, rfl, rfl, s1, e2, k.now rh rw' z⟩ hs
  case str x =>
    cases q <;> first | (exact False.elim z) | skip
    cases r2; cases r1
    obtain ⟨c, hl, e, z⟩ := z
    exact ix_str value slice pins s σ H _ _ v u Q I rx ry ⟨_, _, c, rfl, rfl, by simpa [Str.length] using hl, by simpa using e, k.now rh (.str [c]) z⟩ hs
  case ref a =>
    simp only [zIx] at z
    cases r1
    cases ea : h a with
    | none => rw [ea] at z; exact False.elim z
    | some o =>
      cases o with
      | lst xs =>
        rw [ea] at z
        cases q <;> first | (exact False.elim z) | skip
        cases r2
        obtain ⟨pv, e, z⟩ := z
        obtain ⟨us, f1, l1, q1⟩ := rh a _ ea
        obtain ⟨w, e2, rw'⟩ := atI_rv q1 e
        exact ix_list value slice pins s σ H _ _ v u Q I rx ry ⟨_, _, _, w, rfl, rfl, SqL.of f1, e2, k.now rh rw' z⟩ hs
      | dic t lk kvs =>
        rw [ea] at z
        obtain ⟨hk, pv, e, z'⟩ := (show keyOk t q = true ∧ ∃ v, dget kvs q = some v ∧ Qp v h by cases q <;> exact z)
        clear z
        cases rx
        cases t with
        | false =>
          obtain ⟨ds, f1, l1, r⟩ := rh a _ ea
          have hk' : q.leaf = true := hk
          rcases ent_atK hk' r with ⟨e1, _⟩ | ⟨q', v', e1, e2, r'⟩
          · rw [e] at e1; cases e1
          · rw [e] at e1; cases e1
            have g : DGet H a y (some v') := .inl ⟨ds, keyOf q, f1.rd, kV_of hk' r2, e2.symm⟩
            exact ix_dic PySem.F.slot_dict_getitem.lookup (dict_typeIs I g) hs (d_getItem (by omega) I g ry fun w' s3 I3 rw' => ⟨v', H, I3, rw', k.now rh r' z'⟩)
        | true =>
          obtain ⟨xs, f1, l1, r⟩ := rh a _ ea
          obtain ⟨k', hk1, hk2⟩ := keyT hk
          obtain ⟨b, eb⟩ := keyT_ref hk r2
          subst eb
          cases ry
          obtain ⟨g1, g2, g3⟩ := dic_of I f1.rd r
          rcases ent_at hk1 r with ⟨e1, _⟩ | ⟨q', b', u', v', e1, e2, r1', r2'⟩
          · rw [e] at e1; cases e1
          · rw [e] at e1; cases e1
            refine ix_dic PySem.F.slot_dict_getitem.lookup g3.typeIs hs (wpAny_getItem_heap (knd := nestedKind X.prog X.w) (by show X.A.units + 1 + 8 < cLine; omega) ⟨r2.nested I _ _ _ _ hk1 rfl, hk2⟩ g3 e2 ?_)
            exact ⟨v', H, I.tok _, r1', k.now rh r2' z'⟩
  all_goals (cases q <;> exact False.elim z)
end
end G

namespace G
open PySem PySem.Spec PyProof.Rows L2

/-- x in c -/
def zHas : PV → PV → PH → (Bool → Prop) → Prop
  | x, .tup ys, h, Q => x.pl = true ∧ x.dp ≤ 64 ∧ PV.pls ys = true ∧ PV.dps ys ≤ 63 ∧ Q (decide (x ∈ ys))
  | x, .ref a, h, Q => match h a with
    | some (.lst ys) => x.pl = true ∧ x.dp ≤ 64 ∧ PV.pls ys = true ∧ PV.dps ys ≤ 63 ∧ Q (decide (x ∈ ys))
    | some (.dic t _ kvs) => keyOk t x = true ∧ Q (dget kvs x).isSome
    | none => False
  | _, _, _, _ => False
def zInn (neg : Bool) : Z2 := fun x c h Q => zHas x c h fun b => Q (.bl (if neg then !b else b)) h
theorem any_eqv {x : PV} (hx : x.pl = true) : ∀ {ys : List PV}, PV.pls ys = true → ((PV.Ds ys).any fun z => PyData.eqv z x.D) = decide (x ∈ ys)
  | [], _ => by simp [PV.Ds]
  | y :: ys, h => by
    simp only [PV.pls, Bool.and_eq_true] at h
    rw [PV.Ds, List.any_cons, PV.D_eqv y x h.1 hx, any_eqv hx h.2, PV.beq_dec, Bool.eq_iff_iff, Bool.or_eq_true, decide_eq_true_eq, decide_eq_true_eq, decide_eq_true_eq, List.mem_cons]
    exact ⟨fun z => z.imp Eq.symm id, fun z => z.imp Eq.symm id⟩
section
variable {X : Cx}
theorem qo_in (hu : X.A.units + 70 < cLine) : QO X (compareOp .In) (zInn false) := by
  intro pins s σ H x y v u Q I rx ry ⟨p, q, h, Qp, r1, r2, rh, z, k⟩
  cases q
  case tup ys =>
    cases r2 with
    | tup s2 l2 q2 =>
      cases ry
      obtain ⟨z1, z2, z3, z4, z⟩ := z
      obtain ⟨as, d1⟩ := Dp.reads I p.D x v (r1.dp _ _ z1) rx
      obtain ⟨bs, d2⟩ := Dp.reads I (.tuple (PV.Ds ys)) _ _ (.tup s2 (q2.dp _ _ z3)) rfl
      refine SeqAt.in_tuple_reads d2 d1 (PV.Ds_lay _ z3) (PV.D_lay _ z1) ?_ ⟨.bl _, H, I, rfl, ?_⟩
      · rw [PV.Ds_depth, PV.D_depth]; show X.A.units + 1 + _ < _; omega
      · rw [any_eqv z1 z3]
        exact k.now rh (.bl _) z
  case ref a =>
    simp only [zInn, zHas] at z
    cases r2
    cases ry
    cases ea : h a with
    | none => rw [ea] at z; exact False.elim z
    | some o =>
      cases o with
      | lst ys =>
        rw [ea] at z
        obtain ⟨z1, z2, z3, z4, z⟩ := z
        obtain ⟨us, f1, l1, q1⟩ := rh a _ ea
        refine op_inD (by omega) pins s σ H x (.ref a) v _ Q I rx rfl ⟨_, _, r1.dp _ _ z1, .lst (SqL.of f1) (q1.dp _ _ z3), PV.shaped z1 z2, PV.shapedL z3 z4, ?_⟩
        rw [any_eqv z1 z3]
        exact k.now rh (.bl _) z
      | dic t lk kvs =>
        rw [ea] at z
        obtain ⟨hk, z⟩ := z
        cases t with
        | false =>
          obtain ⟨ds, f1, l1, r⟩ := rh a _ ea
          have hk' : p.leaf = true := hk
          have e2 : (dget kvs p).isSome = (valV ds (keyOf p)).isSome := by
            rcases ent_atK hk' r with ⟨e1, e2⟩ | ⟨q', v', e1, e2, r'⟩ <;> rw [e1, e2] <;> rfl
          have g : DGet H a x (valV ds (keyOf p)) := .inl ⟨ds, keyOf p, f1.rd, kV_of hk' r1, rfl⟩
          refine d_in (by omega) I g rx fun s3 I3 => ⟨.bl (valV ds (keyOf p)).isSome, H, I3, rfl, ?_⟩
          rw [← e2]
          exact k.now rh (.bl _) z
        | true =>
          obtain ⟨xs, f1, l1, r⟩ := rh a _ ea
          obtain ⟨k', hk1, hk2⟩ := keyT hk
          obtain ⟨b, eb⟩ := keyT_ref hk r1
          subst eb
          cases rx
          obtain ⟨g1, g2, g3⟩ := dic_of I f1.rd r
          have e2 : (dget kvs p).isSome = (atKey xs k').isSome := by
            rcases ent_at hk1 r with ⟨e1, e2⟩ | ⟨q', b', u', v', e1, e2, _⟩ <;> rw [e1, e2] <;> rfl
          refine wpAny_in_heap (knd := nestedKind X.prog X.w) (by show X.A.units + 1 + 8 < cLine; omega) ⟨r1.nested I _ _ _ _ hk1 rfl, hk2⟩ g1 g3 ?_
          exact ⟨.bl (atKey xs k').isSome, H, I.tok _, rfl, by rw [← e2]; exact k.now rh (.bl _) z⟩
  all_goals (cases p <;> exact False.elim z)
theorem qo_notIn (hu : X.A.units + 70 < cLine) : QO X (compareOp .NotIn) (zInn true) := by
  intro pins s σ H x y v u Q I rx ry ⟨p, q, h, Qp, r1, r2, rh, z, k⟩
  cases q
  case tup ys =>
    cases r2 with
    | tup s2 l2 q2 =>
      cases ry
      obtain ⟨z1, z2, z3, z4, z⟩ := z
      obtain ⟨as, d1⟩ := Dp.reads I p.D x v (r1.dp _ _ z1) rx
      obtain ⟨bs, d2⟩ := Dp.reads I (.tuple (PV.Ds ys)) _ _ (.tup s2 (q2.dp _ _ z3)) rfl
      refine SeqAt.notIn_tuple_reads d2 d1 (PV.Ds_lay _ z3) (PV.D_lay _ z1) ?_ ⟨.bl _, H, I, rfl, ?_⟩
      · rw [PV.Ds_depth, PV.D_depth]; show X.A.units + 1 + _ < _; omega
      · rw [any_eqv z1 z3]
        exact k.now rh (.bl _) z
  case ref a =>
    simp only [zInn, zHas] at z
    cases r2
    cases ry
    cases ea : h a with
    | none => rw [ea] at z; exact False.elim z
    | some o =>
      cases o with
      | lst ys =>
        rw [ea] at z
        obtain ⟨z1, z2, z3, z4, z⟩ := z
        obtain ⟨us, f1, l1, q1⟩ := rh a _ ea
        refine op_notInD (by omega) pins s σ H x (.ref a) v _ Q I rx rfl ⟨_, _, r1.dp _ _ z1, .lst (SqL.of f1) (q1.dp _ _ z3), PV.shaped z1 z2, PV.shapedL z3 z4, ?_⟩
        rw [any_eqv z1 z3]
        exact k.now rh (.bl _) z
      | dic t lk kvs =>
        rw [ea] at z
        obtain ⟨hk, z⟩ := z
        cases t with
        | false =>
          obtain ⟨ds, f1, l1, r⟩ := rh a _ ea
          have hk' : p.leaf = true := hk
          have e2 : (dget kvs p).isSome = (valV ds (keyOf p)).isSome := by
            rcases ent_atK hk' r with ⟨e1, e2⟩ | ⟨q', v', e1, e2, r'⟩ <;> rw [e1, e2] <;> rfl
          have g : DGet H a x (valV ds (keyOf p)) := .inl ⟨ds, keyOf p, f1.rd, kV_of hk' r1, rfl⟩
          refine d_notIn (by omega) I g rx fun s3 I3 => ⟨.bl (!(valV ds (keyOf p)).isSome), H, I3, rfl, ?_⟩
          rw [← e2]
          exact k.now rh (.bl _) z
        | true =>
          obtain ⟨xs, f1, l1, r⟩ := rh a _ ea
          obtain ⟨k', hk1, hk2⟩ := keyT hk
          obtain ⟨b, eb⟩ := keyT_ref hk r1
          subst eb
          cases rx
          obtain ⟨g1, g2, g3⟩ := dic_of I f1.rd r
          have e2 : (dget kvs p).isSome = (valueAt (pairsH xs) k').isSome := by
            rw [valueAt_pairsH, Option.isSome_map]
            rcases ent_at hk1 r with ⟨e1, e2⟩ | ⟨q', b', u', v', e1, e2, _⟩ <;> rw [e1, e2] <;> rfl
          refine notIn_keyed (knd := nestedKind X.prog X.w) (by show X.A.units + 1 + 8 < cLine; omega) ⟨r1.nested I _ _ _ _ hk1 rfl, hk2⟩ g1 ⟨xs, g3, rfl⟩ ?_
          exact ⟨.bl (!(valueAt (pairsH xs) k').isSome), H, I.tok _, rfl, by rw [← e2]; exact k.now rh (.bl _) z⟩
  all_goals (cases p <;> exact False.elim z)

/-! ### is -/
def zIs (neg : Bool) : Z2
  | a, .non, h, Q => Q (.bl (if neg then !decide (a = .non) else decide (a = .non))) h
  | .bl a, .bl b, h, Q => Q (.bl (if neg then !decide (a = b) else decide (a = b))) h
  | _, _, _, _ => False
theorem rv_non {K : PySem.W.Frag} {H : Hp} {x : V} {p : PV} (r : RV K H x p) : decide (x = .non) = decide (p = .non) := by
  cases r <;> simp
theorem qo_is : QO X (compareOp .Is) (zIs false) := by
  intro pins s σ H x y v u Q I rx ry ⟨p, q, h, Qp, r1, r2, rh, z, k⟩
  cases q
  case non =>
    cases r2
    refine op_isN pins s σ H x _ v u Q I rx ry ⟨rfl, ?_⟩
    rw [rv_non r1]
    cases p <;> exact k.now rh (.bl _) z
  case bl b =>
    cases p <;> first | (exact False.elim z) | skip
    cases r1; cases r2
    exact op_isBl pins s σ H _ _ v u Q I rx ry ⟨_, _, rfl, rfl, k.now rh (.bl _) z⟩
  all_goals (cases p <;> exact False.elim z)
theorem qo_isNot : QO X (compareOp .IsNot) (zIs true) := by
  intro pins s σ H x y v u Q I rx ry ⟨p, q, h, Qp, r1, r2, rh, z, k⟩
  cases q
  case non =>
    cases r2
    refine op_notN pins s σ H x _ v u Q I rx ry ⟨rfl, ?_⟩
    rw [rv_non r1]
    cases p <;> exact k.now rh (.bl _) z
  case bl b =>
    cases p <;> first | (exact False.elim z) | skip
    cases r1; cases r2
    exact op_notBl pins s σ H _ _ v u Q I rx ry ⟨_, _, rfl, rfl, k.now rh (.bl _) z⟩
  all_goals (cases p <;> exact False.elim z)

/-! ### truth -/
def zTr : PV → PH → (Bool → Prop) → Prop
  | .non, _, Q => Q false
  | .bl b, _, Q => Q b
  | .int i, _, Q => Q (i != 0)
  | .str x, _, Q => x.length ≤ sizeLine ∧ Q (!x.isEmpty)
  | .tup xs, _, Q => Q (!xs.isEmpty)
  | .ref a, h, Q => match h a with
    | some (.lst xs) => Q (!xs.isEmpty)
    | some (.dic false none kvs) => Q (!kvs.isEmpty)
    | _ => False
  | .scr _, _, _ => False
theorem rvs_empty {K : PySem.W.Frag} {H : Hp} {vs : List V} {ps : List PV} (r : RVs K H vs ps) : (!vs.isEmpty) = !ps.isEmpty := by cases r <;> rfl
theorem tru_z {P : Program} {w : World} {K : PySem.W.Frag} {H : Hp} {h : PH} {v : V} {p : PV} {Q : Bool → Prop} (rh : RH P w K H h) (r : RV K H v p) (z : zTr p h Q) : ∃ k, TruV K v H k ∧ Q k := by
  cases p
  case non => cases r; exact ⟨_, rfl, z⟩
  case bl => cases r; exact ⟨_, rfl, z⟩
  case int => cases r; exact ⟨_, rfl, z⟩
  case str x =>
    cases r
    refine ⟨_, ⟨by simpa [Str.length] using z.1, rfl⟩, ?_⟩
    have e : ((((tS x).length : Nat) : Int) != 0) = !x.isEmpty := by cases x <;> simp [Str.length, tS] <;> omega
    rw [e]
    exact z.2
  case tup xs =>
    cases r with
    | tup s l q => exact ⟨_, .inr (.inl ⟨_, s, rfl⟩), by rw [rvs_empty q]; exact z⟩
  case ref a =>
    cases r
    simp only [zTr] at z
    cases ea : h a with
    | none => rw [ea] at z; exact False.elim z
    | some o =>
      rw [ea] at z
      cases o with
      | lst xs =>
        obtain ⟨us, f1, l1, q1⟩ := rh a _ ea
        exact ⟨_, .inl ⟨_, SqL.of f1, rfl⟩, by rw [rvs_empty q1]; exact z⟩
      | dic t lk kvs =>
        cases t <;> cases lk <;> first | (exact False.elim z) | skip
        · obtain ⟨ds, f1, l1, q1⟩ := rh a _ ea
          refine ⟨_, .inr (.inr ⟨_, f1, rfl⟩), ?_⟩
          have e : (!ds.isEmpty) = !kvs.isEmpty := by cases q1 <;> rfl
          rw [e]; exact z
  case scr => exact False.elim z
end
/-- a value as a test -/
def ztOf (t : ZE) : ZT := fun ρ h Q => t ρ h fun p h1 => zTr p h1 fun b => Q b h1
def ztB (t : ZE) : ZT := fun ρ h Q => t ρ h fun p h1 => match p with | .bl k => Q k h1 | _ => False
def ztAnd (a b : ZT) : ZT := fun ρ h Q => a ρ h fun k h1 => if k = true then b ρ h1 Q else Q false h1
def ztOr (a b : ZT) : ZT := fun ρ h Q => a ρ h fun k h1 => if k = true then Q true h1 else b ρ h1 Q
def ztNot (a : ZT) : ZT := fun ρ h Q => a ρ h fun k h1 => Q (!k) h1
def zAnd (a b : ZE) : ZE := fun ρ h Q => a ρ h fun p h1 => zTr p h1 fun k => if k = true then b ρ h1 Q else Q p h1
def zOr (a b : ZE) : ZE := fun ρ h Q => a ρ h fun p h1 => zTr p h1 fun k => if k = true then Q p h1 else b ρ h1 Q
def zNt (a : ZE) : ZE := fun ρ h Q => a ρ h fun p h1 => zTr p h1 fun k => Q (.bl (!k)) h1
def zIf (c : ZT) (a b : ZE) : ZE := fun ρ h Q => c ρ h fun k h1 => if k = true then a ρ h1 Q else b ρ h1 Q
section
variable {X : Cx} {e a b c : Expr} {es rest : List Expr} {t ta tb tc : ZE} {ca cb : ZT} {pos : Pos}
abbrev QW (X : Cx) (e : Expr) (t : ZT) : Prop := PW X e (LT X.prog X.w X.K t)
theorem pwI {X : Cx} {e : Expr} {t t' : TT} (h : PW X e t) (i : ∀ σ H Q, t' σ H Q → t σ H Q) : PW X e t' := ⟨fun wh pins s σ H Q I q => h.run wh pins s σ H Q I (i σ H Q q)⟩
/-- the plain test: its value's truth -/
theorem qt_of (ha : QE X a ta) (he : ∀ whole, isTrue a X.env whole = (do let v ← whole; standAt a.pos; holding [v] (truthy v))) : QT X a (ztOf ta) :=
  ptI (pt_truth ha he) fun σ H Q ⟨ρ, h, Qp, rs, rh, t, k⟩ => ⟨ρ, h, _, rs, rh, t, fun p h1 t1 v H1 s1 r1 rh1 => by
    obtain ⟨b, b1, b2⟩ := tru_z rh1 r1 t1
    exact ⟨b, b1, k b h1 b2 H1 s1 rh1⟩⟩
theorem qt_cmp {op : CmpOp} {r : Z2} (ho : QO X (compareOp op) r) (ha : QE X a ta) (hb : QE X b tb) (hm : behindInMarks op b = false) : QT X (.Compare a [op] [b] pos) (ztB (z2 r ta tb)) :=
  ptI (pt_cmpR ho ha hb hm) fun σ H Q ⟨ρ, h, Qp, rs, rh, t, k⟩ => le_op ⟨ρ, h, _, rs, rh, t, fun p h1 t1 v H1 s1 r1 rh1 => by
    cases p <;> first | (exact False.elim t1) | skip
    cases r1
    exact ⟨_, rfl, k _ _ t1 H1 s1 rh1⟩⟩
theorem qt_not (ha : QT X a ca) : QT X (.UnaryOp .Not a pos) (ztNot ca) :=
  ptI (pt_not ha) fun σ H Q ⟨ρ, h, Qp, rs, rh, t, k⟩ => ⟨ρ, h, _, rs, rh, t, fun b h1 t1 H1 s1 rh1 => k _ _ t1 H1 s1 rh1⟩
theorem qw_and1 (ha : QT X a ca) : QW X (.BoolOp .And [a] pos) ca := pw_and1 ha
theorem qw_or1 (ha : QT X a ca) : QW X (.BoolOp .Or [a] pos) ca := pw_or1 ha
theorem qw_and (ha : QT X a ca) (hb : QW X (.BoolOp .And (b :: rest) pos) cb) : QW X (.BoolOp .And (a :: b :: rest) pos) (ztAnd ca cb) :=
  pwI (pw_and ha hb) fun σ H Q ⟨ρ, h, Qp, rs, rh, t, k⟩ => ⟨ρ, h, _, rs, rh, t, fun b h1 t1 H1 s1 rh1 => by
    cases b with
    | true =>
      rw [if_pos rfl] at t1 ⊢
      exact ⟨ρ, h1, Qp, rs.stp rh s1, rh1, t1, fun b' h2 t2 H2 s2 rh2 => k b' h2 t2 H2 (s1.trans s2) rh2⟩
    | false =>
      rw [if_neg Bool.false_ne_true] at t1 ⊢
      exact k _ _ t1 H1 s1 rh1⟩
theorem qw_or (ha : QT X a ca) (hb : QW X (.BoolOp .Or (b :: rest) pos) cb) : QW X (.BoolOp .Or (a :: b :: rest) pos) (ztOr ca cb) :=
  pwI (pw_or ha hb) fun σ H Q ⟨ρ, h, Qp, rs, rh, t, k⟩ => ⟨ρ, h, _, rs, rh, t, fun b h1 t1 H1 s1 rh1 => by
    cases b with
    | false =>
      rw [if_neg Bool.false_ne_true] at t1 ⊢
      exact ⟨ρ, h1, Qp, rs.stp rh s1, rh1, t1, fun b' h2 t2 H2 s2 rh2 => k b' h2 t2 H2 (s1.trans s2) rh2⟩
    | true =>
      rw [if_pos rfl] at t1 ⊢
      exact k _ _ t1 H1 s1 rh1⟩
theorem qe_one {op} (h : QE X a t) : QE X (.BoolOp op [a] pos) t := pe_one h
theorem qe_and (ha : QE X a ta) (hb : QE X (.BoolOp .And (b :: rest) pos) tb) : QE X (.BoolOp .And (a :: b :: rest) pos) (zAnd ta tb) :=
  peI (pe_andT ha hb) fun σ H Q ⟨ρ, h, Qp, rs, rh, t, k⟩ => ⟨ρ, h, _, rs, rh, t, fun p h1 t1 v H1 s1 r1 rh1 => by
    obtain ⟨b, b1, b2⟩ := tru_z rh1 r1 t1
    refine ⟨b, b1, ?_⟩
    cases b with
    | true =>
      rw [if_pos rfl] at b2 ⊢
      exact ⟨ρ, h1, Qp, rs.stp rh s1, rh1, b2, k.later s1⟩
    | false =>
      rw [if_neg Bool.false_ne_true] at b2 ⊢
      exact (k.later s1).now rh1 r1 b2⟩
theorem qe_or (ha : QE X a ta) (hb : QE X (.BoolOp .Or (b :: rest) pos) tb) : QE X (.BoolOp .Or (a :: b :: rest) pos) (zOr ta tb) :=
  peI (pe_orT ha hb) fun σ H Q ⟨ρ, h, Qp, rs, rh, t, k⟩ => ⟨ρ, h, _, rs, rh, t, fun p h1 t1 v H1 s1 r1 rh1 => by
    obtain ⟨b, b1, b2⟩ := tru_z rh1 r1 t1
    refine ⟨b, b1, ?_⟩
    cases b with
    | false =>
      rw [if_neg Bool.false_ne_true] at b2 ⊢
      exact ⟨ρ, h1, Qp, rs.stp rh s1, rh1, b2, k.later s1⟩
    | true =>
      rw [if_pos rfl] at b2 ⊢
      exact (k.later s1).now rh1 r1 b2⟩
theorem qe_not (ha : QE X a ta) : QE X (.UnaryOp .Not a pos) (zNt ta) :=
  peI (pe_notT ha) fun σ H Q ⟨ρ, h, Qp, rs, rh, t, k⟩ => ⟨ρ, h, _, rs, rh, t, fun p h1 t1 v H1 s1 r1 rh1 => by
    obtain ⟨b, b1, b2⟩ := tru_z rh1 r1 t1
    exact ⟨b, b1, (k.later s1).now rh1 (.bl _) b2⟩⟩
theorem qe_if (hc : QT X c ca) (ha : QE X a ta) (hb : QE X b tb) : QE X (.IfExp c a b pos) (zIf ca ta tb) :=
  peI (pe_ifExp hc ha hb) fun σ H Q ⟨ρ, h, Qp, rs, rh, t, k⟩ => ⟨ρ, h, _, rs, rh, t, fun b h1 t1 H1 s1 rh1 => by
    cases b with
    | true => rw [if_pos rfl] at t1 ⊢; exact ⟨ρ, h1, Qp, rs.stp rh s1, rh1, t1, k.later s1⟩
    | false => rw [if_neg Bool.false_ne_true] at t1 ⊢; exact ⟨ρ, h1, Qp, rs.stp rh s1, rh1, t1, k.later s1⟩⟩
def zNeg (a : ZE) : ZE := fun ρ h Q => a ρ h fun p h1 => match p with | .int i => Q (.int (-i)) h1 | _ => False
theorem qe_neg (ha : QE X a ta) : QE X (.UnaryOp .USub a pos) (zNeg ta) :=
  peI (pe_un un_neg ha) fun σ H Q ⟨ρ, h, Qp, rs, rh, t, k⟩ => ⟨ρ, h, _, rs, rh, t, fun p h1 t1 v H1 s1 r1 rh1 => by
    cases p <;> first | (exact False.elim t1) | skip
    cases r1
    exact ⟨_, rfl, (k.later s1).now rh1 (.int _) t1⟩⟩
/-! ### arguments, displays -/
def zaNil : ZA := fun _ h Q => Q [] h
def zaCons (t : ZE) (r : ZA) : ZA := fun ρ h Q => t ρ h fun p h1 => r ρ h1 fun ps h2 => Q (p :: ps) h2
theorem qa_nil : QA X [] zaNil := paI pa_nil fun σ H Q ⟨ρ, h, Qp, rs, rh, t, k⟩ => k [] h t [] H (Stp.refl h H) .nil rh
theorem qa_cons {r : ZA} (ha : QE X e t) (hr : QA X es r) (hs : starEach (e :: es) X.env = (false, eval e X.env) :: starEach es X.env) : QA X (e :: es) (zaCons t r) :=
  paI (pa_cons ha hr hs) fun σ H Q ⟨ρ, h, Qp, rs, rh, t, k⟩ => ⟨ρ, h, _, rs, rh, t, fun p h1 t1 v H1 s1 r1 rh1 =>
    ⟨ρ, h1, _, rs.stp rh s1, rh1, t1, fun ps h2 t2 vs H2 s2 r2 rh2 => k _ _ t2 _ _ (s1.trans s2) (.cons (r1.stp rh1 s2) r2) rh2⟩⟩
def zTup (t : ZA) : ZE := fun ρ h Q => t ρ h fun ps h1 => ps.length ≤ sizeLine ∧ Q (.tup ps) h1
def zLst (t : ZA) : ZE := fun ρ h Q => t ρ h fun ps h1 => ps.length ≤ sizeLine ∧ ∀ p, h1 p = none → Q (.ref p) (up h1 p (.lst ps))
theorem qe_tup {x1} {r : ZA} (h : QA X es r) : QE X (.Tuple es x1 pos) (zTup r) :=
  peI (pe_tup h) fun σ H Q ⟨ρ, h, Qp, rs, rh, t, k⟩ => ⟨ρ, h, _, rs, rh, t, fun ps h1 t1 vs H1 s1 r1 rh1 =>
    ⟨by rw [r1.length]; exact t1.1, (k.later s1).tup rh1 r1 (by rw [r1.length]; exact t1.1) t1.2⟩⟩
theorem qe_lst {r : ZA} (h : QA X es r) : QE X (.List es pos) (zLst r) :=
  peI (pe_lst h) fun σ H Q ⟨ρ, h, Qp, rs, rh, t, k⟩ => ⟨ρ, h, _, rs, rh, t, fun ps h1 t1 vs H1 s1 r1 rh1 =>
    ⟨by rw [r1.length]; exact t1.1, (k.later s1).lst rh1 r1 (by rw [r1.length]; exact t1.1) t1.2⟩⟩
end
end G

namespace G
open PySem PySem.Spec PyProof.Rows L2

/-! ### slices -/
def cut {α : Type} (xs : List α) (lo hi : Option Int) : List α := (xs.drop (HT.sIx xs.length 0 lo)).take (HT.sIx xs.length xs.length hi - HT.sIx xs.length 0 lo)
theorem cut_length {α : Type} (xs : List α) (lo hi : Option Int) : (cut xs lo hi).length ≤ xs.length := by
  unfold cut
  rw [List.length_take, List.length_drop]
  omega
theorem cut_rvs {K : PySem.W.Frag} {H : Hp} {vs : List V} {ps : List PV} (r : RVs K H vs ps) (lo hi : Option Int) : RVs K H (cutV vs lo hi) (cut ps lo hi) := by
  unfold cutV cut
  rw [r.length]
  exact (r.drop _).take _
abbrev ZO := Ev → PH → (Option Int → PH → Prop) → Prop
def LO (P : Program) (w : World) (K : PySem.W.Frag) (t : ZO) : TO := fun σ H Q => ∃ ρ h Qp, RS K H σ ρ ∧ RH P w K H h ∧ t ρ h Qp ∧ ∀ o h', Qp o h' → ∀ H', Stp h H h' H' → RH P w K H' h' → Q o H'
abbrev QOp (X : Cx) (e : Option Expr) (t : ZO) : Prop := L2.PO X e (LO X.prog X.w X.K t)
def zoNone : ZO := fun _ h Q => Q none h
def zoSome (t : ZE) : ZO := fun ρ h Q => t ρ h fun p h1 => match p with | .int i => Q (some i) h1 | _ => False
theorem poI {X : Cx} {e : Option Expr} {t t' : TO} (h : L2.PO X e t) (i : ∀ σ H Q, t' σ H Q → t σ H Q) : L2.PO X e t' := ⟨fun pins s σ H Q I q => h.run pins s σ H Q I (i σ H Q q)⟩
def zSlV : PV → Option Int → Option Int → PH → QV → Prop
  | .tup xs, lo, hi, h, Q => Q (.tup (cut xs lo hi)) h
  | .str x, lo, hi, h, Q => x.length ≤ sizeLine ∧ Q (.str (cut x lo hi)) h
  | .ref a, lo, hi, h, Q => match h a with
    | some (.lst xs) => ∀ p, h p = none → Q (.ref p) (up h p (.lst (cut xs lo hi)))
    | _ => False
  | _, _, _, _, _ => False
def zSl (t : ZE) (lo hi : ZO) : ZE := fun ρ h Q => t ρ h fun p h1 => lo ρ h1 fun l h2 => hi ρ h2 fun u h3 => zSlV p l u h3 Q
section
variable {X : Cx} {e a b c : Expr} {es rest : List Expr} {t ta tb tc : ZE} {lo hi : Option Expr} {tl th : ZO} {pos p2 : Pos}
theorem qp_none : QOp X none zoNone := poI po_none fun σ H Q ⟨ρ, h, Qp, rs, rh, t, k⟩ => k _ h t H (Stp.refl h H) rh
theorem qp_some (he : QE X e t) : QOp X (some e) (zoSome t) := poI (po_some he) fun σ H Q ⟨ρ, h, Qp, rs, rh, t, k⟩ => ⟨ρ, h, _, rs, rh, t, fun p h1 t1 v H1 s1 r1 rh1 => by
    cases p <;> first | (exact False.elim t1) | skip
    cases r1
    exact ⟨_, rfl, k _ h1 t1 H1 s1 rh1⟩⟩
theorem qs_sl : SlR X (fun x lo hi H Q => ∃ a h Qp, RV X.K H x a ∧ RH X.prog X.w X.K H h ∧ zSlV a lo hi h Qp ∧ Thn X.prog X.w X.K h H Qp Q) := by
  intro pins s σ H x v vl vu lo hi sl Q I rx hs pl pu ⟨a, h, Qp, r, rh, z, k⟩
  cases a <;> first | (exact False.elim z) | skip
  case str y =>
    cases r
    refine sl_str pins s σ H _ v vl vu lo hi sl Q I rx hs pl pu ⟨tS y, rfl, by simpa [Str.length] using z.1, ?_⟩
    have e : cutS (tS y) lo hi = tS (cut y lo hi) := by simp [cutS, cut, tS, Str.length]
    rw [e]
    exact k.now rh (.str _) z.2
  case tup ys =>
    cases r with
    | tup s1 l1 q1 =>
      refine sl_tupA pins s σ H _ v vl vu lo hi sl Q I rx hs pl pu ⟨_, _, rfl, s1, fun hw => ?_, fun hw => k.tup rh (cut_rvs q1 lo hi) (Nat.le_trans (cutV_length _ _ _) l1) z⟩
      have e : cut ys lo hi = ys := by
        have hl := q1.length
        rw [hl] at hw
        unfold cut
        rw [hw.1, hw.2]
        simp
      simp only [zSlV] at z
      rw [e] at z
      exact k.now rh (.tup s1 l1 q1) z
  case ref b =>
    simp only [zSlV] at z
    cases r
    cases ea : h b with
    | none => rw [ea] at z; exact False.elim z
    | some o =>
      cases o with
      | dic t lk kvs => rw [ea] at z; exact False.elim z
      | lst xs =>
        rw [ea] at z
        obtain ⟨us, f1, l1, q1⟩ := rh b _ ea
        exact sl_list pins s σ H _ v vl vu lo hi sl Q I rx hs pl pu ⟨b, us, rfl, SqL.of f1, k.lst rh (cut_rvs q1 lo hi) (Nat.le_trans (cutV_length _ _ _) l1) z⟩
theorem qe_sl (he : QE X e t) (hl : QOp X lo tl) (hu : QOp X hi th) : QE X (.Subscript e (.Slice lo hi none p2) pos) (zSl t tl th) :=
  peI (pe_slice qs_sl he hl hu) fun σ H Q ⟨ρ, h, Qp, rs, rh, t, k⟩ => ⟨ρ, h, _, rs, rh, t, fun p h1 t1 v H1 s1 r1 rh1 => ⟨ρ, h1, _, rs.stp rh s1, rh1, t1, fun l h2 t2 H2 s2 rh2 =>
    ⟨ρ, h2, _, (rs.stp rh s1).stp rh1 s2, rh2, t2, fun u h3 t3 H3 s3 rh3 => ⟨p, h3, Qp, (r1.stp rh1 s2).stp rh2 s3, rh3, t3, ((k.later s1).later s2).later s3⟩⟩⟩⟩
/-- xs[::-1] of a list -/
def zRev (t : ZE) : ZE := fun ρ h Q => t ρ h fun p h1 => match p with
  | .ref a => (match h1 a with | some (.lst xs) => ∀ q, h1 q = none → Q (.ref q) (up h1 q (.lst xs.reverse)) | _ => False)
  | _ => False
theorem qe_rev {k p1 p2 p3} (he : QE X e t) : QE X (.Subscript e (.Slice none none (some (.UnaryOp .USub (.Constant (.int 1) k p1) p2)) p3) pos) (zRev t) :=
  peI (pe_revL he) fun σ H Q ⟨ρ, h, Qp, rs, rh, t, k⟩ => ⟨ρ, h, _, rs, rh, t, fun p h1 t1 v H1 s1 r1 rh1 => by
    cases p <;> first | (exact False.elim t1) | skip
    cases r1
    rename_i a
    simp only at t1
    cases ea : h1 a with
    | none => rw [ea] at t1; exact False.elim t1
    | some o =>
      cases o with
      | dic t lk kvs => rw [ea] at t1; exact False.elim t1
      | lst xs =>
        rw [ea] at t1
        obtain ⟨us, f1, l1, q1⟩ := rh1 a _ ea
        exact ⟨a, us, rfl, SqL.of f1, (k.later s1).lst rh1 q1.reverse (by rw [List.length_reverse]; exact l1) t1⟩⟩
theorem qe_ix (hu : X.A.units + 64 < cLine) (ha : QE X a ta) (hb : QE X b tb) (hs : PlainIx b) : QE X (.Subscript a b pos) (z2 zIx ta tb) := peI (pe_ix (qx_ix hu) ha hb hs) fun _ _ _ x => le_op x

/-! ### chains of comparisons -/
def zCh (r r' : Z2) (ta tb tc : ZE) : ZE := fun ρ h Q => ta ρ h fun p h1 => tb ρ h1 fun q h2 => r p q h2 fun z h3 => match z with
  | .bl k => if k = true then tc ρ h3 fun u h4 => r' q u h4 Q else Q (.bl false) h3
  | _ => False
theorem le_ch {P : Program} {w : World} {K : PySem.W.Frag} {ta tb tc : ZE} {r r' : Z2} {σ : L2.St} {H : Hp} {Q : VK} (x : LE P w K (zCh r r' ta tb tc) σ H Q) : tChain (L2r P w K r) (L2r P w K r') (LE P w K ta) (LE P w K tb) (LE P w K tc) σ H Q := by
  obtain ⟨ρ, h, Qp, rs, rh, t, k⟩ := x
  refine ⟨ρ, h, _, rs, rh, t, fun p h1 t1 v H1 s1 r1 rh1 => ⟨ρ, h1, _, rs.stp rh s1, rh1, t1, fun q h2 t2 u H2 s2 r2 rh2 => ?_⟩⟩
  refine ⟨p, q, h2, _, r1.stp rh1 s2, r2, rh2, t2, fun z h3 t3 zv H3 s3 r3 rh3 => ?_⟩
  cases z <;> first | (exact False.elim t3) | skip
  rename_i b
  cases r3
  refine ⟨b, rfl, ?_⟩
  cases b with
  | false =>
    rw [if_neg Bool.false_ne_true]
    exact (((k.later s1).later s2).later s3).now rh3 (.bl false) t3
  | true =>
    rw [if_pos rfl]
    exact ⟨ρ, h3, _, ((rs.stp rh s1).stp rh1 s2).stp rh2 s3, rh3, t3, fun c h4 t4 cv H4 s4 r4 rh4 => ⟨q, c, h4, Qp, (r2.stp rh2 s3).stp rh3 s4, r4, rh4, t4, (((k.later s1).later s2).later s3).later s4⟩⟩
theorem qe_ch {op op' : CmpOp} {r r' : Z2} (ho : QO X (compareOp op) r) (ho' : QO X (compareOp op') r') (ha : QE X a ta) (hb : QE X b tb) (hc : QE X c tc) (hm : lastMarks [op, op'] [b, c] = false) :
    QE X (.Compare a [op, op'] [b, c] pos) (zCh r r' ta tb tc) := peI (pe_chain ho ho' ha hb hc hm) fun _ _ _ x => le_ch x
theorem qt_ch {op op' : CmpOp} {r r' : Z2} (ho : QO X (compareOp op) r) (ho' : QO X (compareOp op') r') (ha : QE X a ta) (hb : QE X b tb) (hc : QE X c tc) (hm : lastMarks [op, op'] [b, c] = false) :
    QT X (.Compare a [op, op'] [b, c] pos) (ztB (zCh r r' ta tb tc)) := ptI (pt_chain ho ho' ha hb hc hm) fun σ H Q ⟨ρ, h, Qp, rs, rh, t, k⟩ => le_ch ⟨ρ, h, _, rs, rh, t, fun p h1 t1 v H1 s1 r1 rh1 => by
    cases p <;> first | (exact False.elim t1) | skip
    cases r1
    exact ⟨_, rfl, k _ _ t1 H1 s1 rh1⟩⟩

/-! ### calls of built-ins -/
def zCall (r : ZC) (t : ZA) : ZE := fun ρ h Q => t ρ h fun ps h1 => r ps h1 Q
theorem le_cb {P : Program} {w : World} {K : PySem.W.Frag} {t : ZA} {r : ZC} {σ : L2.St} {H : Hp} {Q : VK} (x : LE P w K (zCall r t) σ H Q) : tCB (LC P w K r) (LA P w K t) σ H Q := by
  obtain ⟨ρ, h, Qp, rs, rh, t, k⟩ := x
  exact ⟨ρ, h, _, rs, rh, t, fun ps h1 t1 vs H1 s1 r1 rh1 => ⟨ps, h1, Qp, r1, rh1, t1, k.later s1⟩⟩
theorem qe_callB {id : String} {x : Str} {p : Pos} {r : ZC} {t : ZA} (hc : QC X (.builtin id) r) (hg : Gl X x) (hm : X.mg x = none) (hv : bootBuiltins x = some (.builtin id)) (ha : QA X (e :: es) t) (hn : x ≠ "__name__") (hdb : (x == ("__debug__" : Str)) = false)
    (he : starEach (e :: es) X.env = (false, eval e X.env) :: starEach es X.env) (hpl : (backTo pos (starEach es X.env)).any (·.1) = false) : QE X (.Call (.Name x p) (e :: es) [] pos) (zCall r t) :=
  peI (pe_callB hc hg hm hv ha hn hdb he hpl) fun _ _ _ x => le_cb x
theorem qe_callTy {T : String} {x : Str} {p : Pos} {r : ZC} {t : ZA} (hc : QC X (.type T) r) (hg : Gl X x) (hm : X.mg x = none) (hv : bootBuiltins x = some (.type T)) (ha : QA X (e :: es) t) (hn : x ≠ "__name__") (hdb : (x == ("__debug__" : Str)) = false)
    (he : starEach (e :: es) X.env = (false, eval e X.env) :: starEach es X.env) (hpl : (backTo pos (starEach es X.env)).any (·.1) = false) : QE X (.Call (.Name x p) (e :: es) [] pos) (zCall r t) :=
  peI (pe_callTy hc hg hm hv ha hn hdb he hpl) fun _ _ _ x => le_cb x

def zLen : ZC
  | [.str x], h, Q => x.length ≤ sizeLine ∧ Q (.int x.length) h
  | [.tup xs], h, Q => Q (.int xs.length) h
  | [.ref a], h, Q => match h a with
    | some (.lst xs) => Q (.int xs.length) h
    | some (.dic _ _ kvs) => Q (.int kvs.length) h
    | none => False
  | _, _, _ => False
theorem paired_len {α β : Type} {F : α → β → Prop} : ∀ {l : List α} {m : List β}, Paired F l m → l.length = m.length
  | _, _, .nil => rfl
  | _, _, .cons _ t => congrArg (· + 1) (paired_len t)
theorem rvs_one {K : PySem.W.Frag} {H : Hp} {vs : List V} {p : PV} (r : RVs K H vs [p]) : ∃ v, vs = [v] ∧ RV K H v p := by
  cases r with
  | cons a b => cases b; exact ⟨_, rfl, a⟩
theorem rvs_two {K : PySem.W.Frag} {H : Hp} {vs : List V} {p q : PV} (r : RVs K H vs [p, q]) : ∃ v u, vs = [v, u] ∧ RV K H v p ∧ RV K H u q := by
  cases r with
  | cons a b =>
    obtain ⟨u, rfl, c⟩ := rvs_one b
    exact ⟨_, _, rfl, a, c⟩
theorem qc_len : QC X (.builtin "len") zLen := by
  intro pins s σ H xs us Q I r ⟨ps, h, Qp, rp, rh, z, k⟩
  unfold zLen at z
  split at z
  · obtain ⟨v, rfl, r1⟩ := rvs_one rp
    cases r1
    rename_i x
    exact call_len_str pins s σ H _ us Q I r ⟨_, rfl, by simpa [Str.length] using z.1, by simpa [Str.length] using k.now rh (.int _) z.2⟩
  · obtain ⟨v, rfl, r1⟩ := rvs_one rp
    cases r1 with
    | tup s1 l1 q1 =>
      refine call_len_seq pins s σ H _ us Q I r ⟨_, _, rfl, .inr s1, ?_⟩
      rw [q1.length]
      exact k.now rh (.int _) z
  · rename_i a
    obtain ⟨v, rfl, r1⟩ := rvs_one rp
    cases r1
    split at z
    · rename_i xs ea
      obtain ⟨us', f1, l1, q1⟩ := rh a _ ea
      refine call_len_seq pins s σ H _ us Q I r ⟨_, _, rfl, .inl (SqL.of f1), ?_⟩
      rw [q1.length]
      exact k.now rh (.int _) z
    · rename_i t lk kvs ea
      cases t with
      | false =>
        obtain ⟨ds, f1, l1, q1⟩ := rh a _ ea
        obtain ⟨u, rfl, ru⟩ := vals1 r
        cases ru
        have hl := paired_len q1
        exact d_len I f1.rd fun t s' I' => ⟨.int kvs.length, H, I', ⟨t, by rw [hl]⟩, k.now rh (.int _) z⟩
      | true =>
        obtain ⟨ys, f1, l1, q1⟩ := rh a _ ea
        obtain ⟨g1, g2, g3⟩ := dic_of I f1.rd q1
        obtain ⟨u, rfl, ru⟩ := vals1 r
        cases ru
        have hl : (pairsH ys).length = kvs.length := by rw [pairsH_length, ← paired_len q1]
        have hn : (pairsH ys).length ≤ 16777216 := by rw [pairsH_length]; exact g2
        refine PyProof.Rows.call_len_slot (n := (pairsH ys).length) g3.typeIs PySem.F.slot_dict_len (fun Q' hq => len_keyed g1 ⟨ys, g3, rfl⟩ hq) (by omega) (by omega) ?_
        exact ⟨.int kvs.length, H, I.tok _, ⟨_, by rw [hl]⟩, k.now rh (.int _) z⟩
    · exact False.elim z
  · exact False.elim z
def zAbs : ZC
  | [.int i], h, Q => Q (.int (if i < 0 then -i else i)) h
  | _, _, _ => False
theorem qc_abs : QC X (.builtin "abs") zAbs := by
  intro pins s σ H xs us Q I r ⟨ps, h, Qp, rp, rh, z, k⟩
  unfold zAbs at z
  split at z
  · obtain ⟨v, rfl, r1⟩ := rvs_one rp
    cases r1
    exact call_abs pins s σ H _ us Q I r ⟨_, rfl, k.now rh (.int _) z⟩
  · exact False.elim z
def zInt : ZC
  | [.int i], h, Q => Q (.int i) h
  | [.bl b], h, Q => Q (.int (if b then 1 else 0)) h
  | _, _, _ => False
theorem qc_int : QC X (.type "int") zInt := by
  intro pins s σ H xs us Q I r ⟨ps, h, Qp, rp, rh, z, k⟩
  unfold zInt at z
  split at z
  · obtain ⟨v, rfl, r1⟩ := rvs_one rp
    cases r1
    exact call_int1 pins s σ H _ us Q I r (.inl ⟨_, rfl, k.now rh (.int _) z⟩)
  · obtain ⟨v, rfl, r1⟩ := rvs_one rp
    cases r1
    exact call_int1 pins s σ H _ us Q I r (.inr ⟨_, rfl, k.now rh (.int _) z⟩)
  · exact False.elim z
def zMax2 : ZC
  | [.int i, .int j], h, Q => Q (.int (if j > i then j else i)) h
  | _, _, _ => False
theorem qc_max2 (hc : X.calm = true) : QC X (.builtin "max") zMax2 := by
  intro pins s σ H xs us Q I r ⟨ps, h, Qp, rp, rh, z, k⟩
  unfold zMax2 at z
  split at z
  · obtain ⟨v, u, rfl, r1, r2⟩ := rvs_two rp
    cases r1; cases r2
    exact call_max2 hc pins s σ H _ us Q I r ⟨_, _, rfl, k.now rh (.int _) z⟩
  · exact False.elim z
def zMin2 : ZC
  | [.int i, .int j], h, Q => Q (.int (if j < i then j else i)) h
  | _, _, _ => False
theorem qc_min2 (hc : X.calm = true) : QC X (.builtin "min") zMin2 := by
  intro pins s σ H xs us Q I r ⟨ps, h, Qp, rp, rh, z, k⟩
  unfold zMin2 at z
  split at z
  · obtain ⟨v, u, rfl, r1, r2⟩ := rvs_two rp
    cases r1; cases r2
    exact call_min2 hc pins s σ H _ us Q I r ⟨_, _, rfl, k.now rh (.int _) z⟩
  · exact False.elim z
/-- tuple(x) -/
def zTupC : ZC
  | [.tup xs], h, Q => Q (.tup xs) h
  | [.ref a], h, Q => match h a with
    | some (.lst xs) => Q (.tup xs) h
    | _ => False
  | _, _, _ => False
theorem qc_tup : QC X (.type "tuple") zTupC := by
  intro pins s σ H xs us Q I r ⟨ps, h, Qp, rp, rh, z, k⟩
  unfold zTupC at z
  split at z
  · obtain ⟨v, rfl, r1⟩ := rvs_one rp
    cases r1 with
    | tup s1 l1 q1 => exact call_tuple_of pins s σ H _ us Q I r ⟨_, _, rfl, .inr ⟨s1, k.now rh (.tup s1 l1 q1) z⟩⟩
  · rename_i a
    obtain ⟨v, rfl, r1⟩ := rvs_one rp
    cases r1
    split at z
    · rename_i ys ea
      obtain ⟨us', f1, l1, q1⟩ := rh a _ ea
      exact call_tuple_of pins s σ H _ us Q I r ⟨_, _, rfl, .inl ⟨SqL.of f1, k.tup rh q1 l1 z⟩⟩
    · exact False.elim z
  · exact False.elim z
/-- list(x) -/
def zListC : ZC
  | [.tup xs], h, Q => ∀ p, h p = none → Q (.ref p) (up h p (.lst xs))
  | [.scr ns], h, Q => ns.length ≤ 63 → ∀ p, h p = none → Q (.ref p) (up h p (.lst (ns.map PV.int)))
  | [.ref a], h, Q => match h a with
    | some (.lst xs) => ∀ p, h p = none → Q (.ref p) (up h p (.lst xs))
    | some (.dic false none kvs) => ∀ p, h p = none → Q (.ref p) (up h p (.lst (kvs.map (·.1))))
    | _ => False
  | _, _, _ => False
theorem ents_keys {K : PySem.W.Frag} {H : Hp} : ∀ {kvs : List (PV × PV)} {ds : List (Key × V)}, Paired (EntK K H) kvs ds → RVs K H (ds.map fun kv => kV kv.1) (kvs.map (·.1))
  | _, _, .nil => .nil
  | _, _, .cons (a := kv) (b := x) q t => by
    refine .cons ?_ (ents_keys t)
    show RV K H (kV x.1) kv.1
    rw [q.1]
    cases e : x.1 with
    | inl i => exact .int i
    | inr z => have := RV.str (K := K) (H := H) z.cps.toList; rw [tS_of] at this; exact this
theorem qc_list (hc : X.calm = true) : QC X (.type "list") zListC := by
  intro pins s σ H xs us Q I r ⟨ps, h, Qp, rp, rh, z, k⟩
  unfold zListC at z
  split at z
  · obtain ⟨v, rfl, r1⟩ := rvs_one rp
    cases r1 with
    | tup s1 l1 q1 => exact call_list_of pins s σ H _ us Q I r ⟨_, _, rfl, .inr s1, k.lst rh q1 l1 z⟩
  · obtain ⟨v, rfl, r1⟩ := rvs_one rp
    cases r1 with
    | scr s1 l1 =>
      have hs : sizeLine = 16777216 := sizeLine_eq
      exact call_list_of pins s σ H _ us Q I r ⟨_, _, rfl, .inl s1.sq, k.lst rh RVs.ints (by rw [List.length_map]; omega) (z l1)⟩
  · rename_i a
    obtain ⟨v, rfl, r1⟩ := rvs_one rp
    cases r1
    split at z
    · rename_i ys ea
      obtain ⟨us', f1, l1, q1⟩ := rh a _ ea
      exact call_list_of pins s σ H _ us Q I r ⟨_, _, rfl, .inl (SqL.of f1), k.lst rh q1 l1 z⟩
    · rename_i kvs ea
      obtain ⟨ds, f1, l1, q1⟩ := rh a _ ea
      exact call_list_dK hc pins s σ H _ us Q I r ⟨a, ds, rfl, f1, k.lst rh (ents_keys q1) (by rw [List.length_map, ← paired_len q1]; exact l1) z⟩
    · exact False.elim z
  · exact False.elim z
/-- sum of intsP, all, any of truth values -/
def intsP : List PV → Option (List Int)
  | [] => some []
  | .int i :: r => (intsP r).map (i :: ·)
  | _ => none
def blsP : List PV → Option (List Bool)
  | [] => some []
  | .bl i :: r => (blsP r).map (i :: ·)
  | _ => none
theorem ints_rvs {K : PySem.W.Frag} {H : Hp} : ∀ {ps : List PV} {vs : List V} {ns : List Int}, RVs K H vs ps → intsP ps = some ns → vs = ns.map V.int
  | [], _, _, r, e => by simp [intsP] at e; subst e; cases r; rfl
  | p :: ps, _, _, r, e => by
    cases p <;> simp [intsP] at e
    obtain ⟨ns', e1, e2⟩ := e
    subst e2
    cases r with
    | cons a b => cases a; rw [ints_rvs b e1]; rfl
theorem bls_rvs {K : PySem.W.Frag} {H : Hp} : ∀ {ps : List PV} {vs : List V} {ns : List Bool}, RVs K H vs ps → blsP ps = some ns → vs = ns.map V.bl
  | [], _, _, r, e => by simp [blsP] at e; subst e; cases r; rfl
  | p :: ps, _, _, r, e => by
    cases p <;> simp [blsP] at e
    obtain ⟨ns', e1, e2⟩ := e
    subst e2
    cases r with
    | cons a b => cases a; rw [bls_rvs b e1]; rfl
def zSum : ZC
  | [.ref a], h, Q => match h a with
    | some (.lst xs) => ∃ ns, intsP xs = some ns ∧ Q (.int ns.sum) h
    | _ => False
  | _, _, _ => False
theorem qc_sum (hc : X.calm = true) : QC X (.builtin "sum") zSum := by
  intro pins s σ H xs us Q I r ⟨ps, h, Qp, rp, rh, z, k⟩
  unfold zSum at z
  split at z
  · rename_i a
    obtain ⟨v, rfl, r1⟩ := rvs_one rp
    cases r1
    split at z
    · rename_i ys ea
      obtain ⟨us', f1, l1, q1⟩ := rh a _ ea
      obtain ⟨ns, e, z⟩ := z
      have e2 := ints_rvs q1 e
      subst e2
      exact cr_sum hc pins s σ H _ us Q I r ⟨a, ns, rfl, SqL.of f1, k.now rh (.int _) z⟩
    · exact False.elim z
  · exact False.elim z
def zAll : ZC
  | [.ref a], h, Q => match h a with
    | some (.lst xs) => ∃ ns, blsP xs = some ns ∧ Q (.bl (ns.all id)) h
    | _ => False
  | _, _, _ => False
theorem qc_all (hc : X.calm = true) : QC X (.builtin "all") zAll := by
  intro pins s σ H xs us Q I r ⟨ps, h, Qp, rp, rh, z, k⟩
  unfold zAll at z
  split at z
  · rename_i a
    obtain ⟨v, rfl, r1⟩ := rvs_one rp
    cases r1
    split at z
    · rename_i ys ea
      obtain ⟨us', f1, l1, q1⟩ := rh a _ ea
      obtain ⟨ns, e, z⟩ := z
      have e2 := bls_rvs q1 e
      subst e2
      exact cr_all hc pins s σ H _ us Q I r ⟨a, ns, rfl, SqL.of f1, k.now rh (.bl _) z⟩
    · exact False.elim z
  · exact False.elim z
def zAny : ZC
  | [.ref a], h, Q => match h a with
    | some (.lst xs) => ∃ ns, blsP xs = some ns ∧ Q (.bl (ns.any id)) h
    | _ => False
  | _, _, _ => False
theorem qc_any (hc : X.calm = true) : QC X (.builtin "any") zAny := by
  intro pins s σ H xs us Q I r ⟨ps, h, Qp, rp, rh, z, k⟩
  unfold zAny at z
  split at z
  · rename_i a
    obtain ⟨v, rfl, r1⟩ := rvs_one rp
    cases r1
    split at z
    · rename_i ys ea
      obtain ⟨us', f1, l1, q1⟩ := rh a _ ea
      obtain ⟨ns, e, z⟩ := z
      have e2 := bls_rvs q1 e
      subst e2
      exact cr_any hc pins s σ H _ us Q I r ⟨a, ns, rfl, SqL.of f1, k.now rh (.bl _) z⟩
    · exact False.elim z
  · exact False.elim z
end
end G

namespace G
open PySem PySem.Spec PyProof.Rows L2

/-! ### isinstance(x, T) -/
inductive Ty | int | tuple | str | bool | list | dict
  deriving DecidableEq, Repr
def Ty.name : Ty → String
  | .int => "int" | .tuple => "tuple" | .str => "str" | .bool => "bool" | .list => "list" | .dict => "dict"
def Ty.nm : Ty → Str
  | .int => Str.ofString "int" | .tuple => Str.ofString "tuple" | .str => Str.ofString "str" | .bool => Str.ofString "bool" | .list => Str.ofString "list" | .dict => Str.ofString "dict"
def zIsaV (T : Ty) : PV → PH → (Bool → Prop) → Prop
  | .non, _, Q => Q false
  | .bl _, _, Q => Q (decide (T = .bool) || decide (T = .int))
  | .int _, _, Q => Q (decide (T = .int))
  | .str _, _, Q => Q (decide (T = .str))
  | .tup _, _, Q => Q (decide (T = .tuple))
  | .ref a, h, Q => match h a with
    | some (.lst _) => Q (decide (T = .list))
    | some (.dic false none _) => Q (decide (T = .dict))
    | _ => False
  | .scr _, _, _ => False
def zIsa (T : Ty) (t : ZE) : ZE := fun ρ h Q => t ρ h fun p h1 => zIsaV T p h1 fun b => Q (.bl b) h1
theorem ty_boot (T : Ty) : bootBuiltins T.nm = some (.type T.name) := by cases T <;> decide +kernel
theorem kit_a (a : String) (T : Ty) : a ∈ ["NoneType", "bool", "int", "str", "tuple", "list", "dict"] → kitB a T.name = some (decide (a = T.name) || (decide (a = "bool") && decide (T = .int))) := by
  intro h
  simp only [List.mem_cons, List.not_mem_nil, or_false] at h
  rcases h with rfl | rfl | rfl | rfl | rfl | rfl | rfl <;> cases T <;> decide +kernel
section
variable {X : Cx} {e a b c : Expr} {es rest : List Expr} {t ta tb tc : ZE} {pos p1 p2 : Pos}
theorem rv_ty {P : Program} {w : World} {K : PySem.W.Frag} {H : Hp} {h : PH} {v : V} {p : PV} {T : Ty} {Q : Bool → Prop} (rh : RH P w K H h) (r : RV K H v p) (z : zIsaV T p h Q) :
    ∃ (n : String) (b : Bool), TyX K H v (.type n) ∧ PySem.W.kitOne K (.type n) (.type T.name) = some b ∧ Q b := by
  have k : ∀ n, n ∈ ["NoneType", "bool", "int", "str", "tuple", "list", "dict"] → ∀ b, (decide (n = T.name) || (decide (n = "bool") && decide (T = .int))) = b → PySem.W.kitOne K (.type n) (.type T.name) = some b := fun n hn b e => by
    rw [← e]; exact kit_ty (kit_a n T hn)
  cases p
  case non => cases r; exact ⟨_, _, .base .non, k _ (by simp) false (by cases T <;> decide), z⟩
  case bl => cases r; exact ⟨_, _, .base (.bl _), k _ (by simp) _ (by cases T <;> decide), z⟩
  case int => cases r; exact ⟨_, _, .base (.int _), k _ (by simp) _ (by cases T <;> decide), z⟩
  case str => cases r; exact ⟨_, _, .base (.str _), k _ (by simp) _ (by cases T <;> decide), z⟩
  case tup =>
    cases r with
    | tup s l q =>
      rcases s with (s | ⟨o, s⟩) | ⟨o, its, n, s, c, _⟩
      · exact ⟨_, _, .base (.tup s), k _ (by simp) _ (by cases T <;> decide), z⟩
      · exact ⟨_, _, .fTuple s, k _ (by simp) _ (by cases T <;> decide), z⟩
      · exact ⟨_, _, .kTuple s c, k _ (by simp) _ (by cases T <;> decide), z⟩
  case ref a =>
    cases r
    simp only [zIsaV] at z
    cases ea : h a with
    | none => rw [ea] at z; exact False.elim z
    | some o =>
      rw [ea] at z
      cases o with
      | lst xs =>
        obtain ⟨us, f1, _⟩ := rh a _ ea
        exact ⟨_, _, .base (.lst f1), k _ (by simp) _ (by cases T <;> decide), z⟩
      | dic t lk kvs =>
        cases t <;> cases lk <;> first | (exact False.elim z) | skip
        · obtain ⟨us, f1, _⟩ := rh a _ ea
          exact ⟨_, _, .base (.dK f1), k _ (by simp) _ (by cases T <;> decide), z⟩
  case scr => exact False.elim z
theorem qe_isa {T : Ty} (hg : Gl X "isinstance") (hm : X.mg "isinstance" = none) (hgT : Gl X T.nm) (hmT : X.mg T.nm = none) (hn : T.nm ≠ "__name__") (hdT : (T.nm == ("__debug__" : Str)) = false) (ha : QE X a ta)
    (h1 : starEach [a, .Name T.nm p2] X.env = (false, eval a X.env) :: starEach [.Name T.nm p2] X.env) (h2 : starEach [.Name T.nm p2] X.env = (false, eval (.Name T.nm p2) X.env) :: starEach [] X.env)
    (hpl : (backTo pos (starEach [.Name T.nm p2] X.env)).any (·.1) = false) : QE X (.Call (.Name "isinstance" p1) [a, .Name T.nm p2] [] pos) (zIsa T ta) := by
  have hT : PE X (.Name T.nm p2) (tC (.ty T.name)) := pe_bltn hgT hmT (ty_boot T) rfl hn hdT
  refine peI (pe_callB call_isi hg hm (by decide +kernel) (pa_cons ha (pa_cons hT pa_nil h2) h1) (by decide) (by decide) h1 hpl) fun σ H Q ⟨ρ, h, Qp, rs, rh, t, k⟩ => ⟨ρ, h, _, rs, rh, t, fun p h1 t1 v H1 s1 r1 rh1 => ?_⟩
  obtain ⟨n, b, g1, g2, g3⟩ := rv_ty rh1 r1 t1
  exact ⟨v, .ty T.name, _, _, b, rfl, .ty _, g1, g2, (k.later s1).now rh1 (.bl b) g3⟩

/-! ### methods of built-in types -/
def tyP (T : String) : PV → PH → Prop
  | .str _, _ => T = "str"
  | .ref a, h => match h a with
    | some (.lst _) => T = "list"
    | some (.dic _ _ _) => T = "dict"
    | none => False
  | _, _ => False
theorem tyP_is {pins : List (Addr × Obj)} {σ : L2.St} {H : Hp} {s : Shared} {T : String} {x : V} {v : Value} {p : PV} {h : PH} (I : L2.Inv X pins σ H s) (rh : RH X.prog X.w X.K H h) (r : RelV x v) (rp : RV X.K H x p) (ty : tyP T p h) :
    s.TypeIs v T ∧ ∀ a, v = .ref a → ∃ ob, s.heap.get? a = some ob ∧ ob.dict = none := by
  cases p <;> first | (exact False.elim ty) | skip
  case str z =>
    cases rp
    exact tyV_is I r (show tyV X.K T (.str (tS z)) H from ty)
  case ref a =>
    cases rp
    simp only [tyP] at ty
    cases ea : h a with
    | none => rw [ea] at ty; exact False.elim ty
    | some o =>
      rw [ea] at ty
      cases o with
      | lst xs =>
        obtain ⟨us, f1, _⟩ := rh a _ ea
        exact tyV_is I r (show tyV X.K T (.ref a) H from .inl ⟨ty, us, SqL.of f1⟩)
      | dic t lk kvs =>
        cases t
        · obtain ⟨us, f1, _⟩ := rh a _ ea
          cases r
          cases ty
          obtain ⟨_, hd, vs, _, dd⟩ := dk_rd I.hok f1.rd
          refine ⟨dd.typeIs, fun b eb => ?_⟩
          cases eb
          obtain ⟨o, es, ep, ho, hx, _⟩ := dd
          exact ⟨o, ho, hx.2.1⟩
        · obtain ⟨us, f1, _, q⟩ := rh a _ ea
          cases r
          cases ty
          obtain ⟨g1, g2, g3⟩ := dic_of I f1.rd q
          refine ⟨g3.typeIs, fun b eb => ?_⟩
          cases eb
          obtain ⟨o, es, ep, ho, hx, _⟩ := g3
          exact ⟨o, ho, hx.2.1⟩
abbrev ZM := PV → List PV → PH → QV → Prop
abbrev QM (X : Cx) (id : String) (r : ZM) : Prop := MtR X id (fun x xs H Q => ∃ p ps h Qp, RV X.K H x p ∧ RVs X.K H xs ps ∧ RH X.prog X.w X.K H h ∧ r p ps h Qp ∧ Thn X.prog X.w X.K h H Qp Q)
def zMt (T : String) (r : ZM) (to : ZE) (t : ZA) : ZE := fun ρ h Q => to ρ h fun p h1 => tyP T p h1 ∧ t ρ h1 fun ps h2 => r p ps h2 Q
variable {o : Expr} {to : ZE} {ta' : ZA} {name : Str} {apos cpos : Pos} {T id : String} {r : ZM}
theorem qe_bm (pa : PlainAttrs T) (slot : Slot T name id) (hty : typeOf (.builtin id) = pure (.type "method_descriptor")) (hm : QM X id r) (ho : QE X o to) (ha : QA X (e :: es) ta')
    (hbase : attributeBase o name X.env (eval o X.env) = eval o X.env)
    (hfew : ((backTo cpos (starEach (e :: es) X.env)).all (fun x => !x.1) && (backToKw cpos (keywordEach [] X.env)).all (fun x => x.1.isSome)
      && decide ((e :: es).length + ([] : List Keyword).length + (if ([] : List Keyword).isEmpty then 0 else 1) < 30)) = true)
    (hline : (apos.endLine == cpos.line) = true) (hs : starEach (e :: es) X.env = (false, eval e X.env) :: starEach es X.env) (hplain : (backTo cpos (starEach es X.env)).any (·.1) = false) :
    QE X (.Call (.Attribute o name apos) (e :: es) [] cpos) (zMt T r to ta') := by
  refine ⟨fun pins s σ H Q I hh => ?_⟩
  obtain ⟨ρ, h, Qp, rs, rh, t, k⟩ := hh
  refine wpAny_Call_method_late hbase hfew hline rfl (thn (ho.run pins s σ H (fun x H1 => ∃ p h1, Stp h H h1 H1 ∧ RV X.K H1 x p ∧ RH X.prog X.w X.K H1 h1 ∧ tyP T p h1 ∧ ta' ρ h1 fun ps h2 => r p ps h2 Qp) I ⟨ρ, h, _, rs, rh, t, fun p h1 t1 v H1 s1 r1 rh1 => ⟨p, h1, s1, r1, rh1, t1.1, t1.2⟩⟩)
    fun v s1 ⟨x, H1, I1, r1, p, h1, st1, rp, rh1, ty, q1⟩ => ?_)
  obtain ⟨g1, g2⟩ := tyP_is I1 rh1 r1 rp ty
  refine ⟨T, id, pa, slot, hty, g1, g2, ?_⟩
  have hA := ha.run cpos pins s1 σ H1 (fun vs H2 => ∃ ps h2, Stp h1 H1 h2 H2 ∧ RVs X.K H2 vs ps ∧ RH X.prog X.w X.K H2 h2 ∧ r p ps h2 Qp) I1 ⟨ρ, h1, _, rs.stp rh st1, rh1, q1, fun ps h2 t2 vs H2 s2 r2 rh2 => ⟨ps, h2, s2, r2, rh2, t2⟩⟩
  rw [hs] at hA ⊢
  refine Calls.callWith_builtin (by show (false || (backTo cpos (starEach es X.env)).any (·.1)) = false; rw [hplain] <;> rfl) (Calls.evalArgs_plain ?_)
  exact thn hA fun us s2 ⟨vs, H2, I2, r2, ps, h2, st2, rps, rh2, q2⟩ => hm pins s2 σ H2 x vs v us Q I2 r1 r2 ⟨p, ps, h2, Qp, rp.stp rh1 st2, rps, rh2, q2, (k.later st1).later st2⟩
theorem qe_bm0 (pa : PlainAttrs T) (slot : Slot T name id) (hty : typeOf (.builtin id) = pure (.type "method_descriptor")) (hm : QM X id r) (ho : QE X o to)
    (hbase : attributeBase o name X.env (eval o X.env) = eval o X.env) (hline : (apos.endLine == cpos.line) = true) : QE X (.Call (.Attribute o name apos) [] [] cpos) (zMt T r to zaNil) := by
  refine ⟨fun pins s σ H Q I hh => ?_⟩
  obtain ⟨ρ, h, Qp, rs, rh, t, k⟩ := hh
  refine wpAny_Call_method0_late hbase hline (thn (ho.run pins s σ H (fun x H1 => ∃ p h1, Stp h H h1 H1 ∧ RV X.K H1 x p ∧ RH X.prog X.w X.K H1 h1 ∧ tyP T p h1 ∧ r p [] h1 Qp) I ⟨ρ, h, _, rs, rh, t, fun p h1 t1 v H1 s1 r1 rh1 => ⟨p, h1, s1, r1, rh1, t1.1, t1.2⟩⟩)
    fun v s1 ⟨x, H1, I1, r1, p, h1, st1, rp, rh1, ty, q1⟩ => ?_)
  obtain ⟨g1, g2⟩ := tyP_is I1 rh1 r1 rp ty
  exact ⟨T, id, pa, slot, hty, g1, g2, Calls.callWith_builtin rfl (PySem.evalArgs_none (hm pins s1 σ H1 x [] v [] Q I1 r1 .nil ⟨p, [], h1, Qp, rp, .nil, rh1, q1, k.later st1⟩))⟩

def zAppend : ZM
  | .ref l, [y], h, Q => match h l with
    | some (.lst xs) => xs.length < sizeLine ∧ Q .non (up h l (.lst (xs ++ [y])))
    | _ => False
  | _, _, _, _ => False
theorem qm_append : QM X "list.append" zAppend := by
  intro pins s σ H x xs v us Q I rx rv ⟨p, ps, h, Qp, rp, rps, rh, z, k⟩
  unfold zAppend at z
  split at z
  · rename_i l y
    cases rp
    obtain ⟨u, rfl, ru⟩ := rvs_one rps
    split at z
    · rename_i ys ea
      obtain ⟨us', f1, l1, q1⟩ := rh l _ ea
      refine mt_append pins s σ H _ _ v us Q I rx rv ⟨l, us', u, rfl, rfl, f1, by rw [q1.length]; exact z.1, ?_⟩
      exact k.put rh ea (q1.append (.cons ru .nil)) (by rw [List.length_append, List.length_singleton, q1.length]; exact z.1) .non z.2
    · exact False.elim z
  · exact False.elim z
/-- list.extend of a tuple, whatever else the tuple's object bears -/
theorem ext_tup (l : Addr) (xs : Array Value) (n : Nat) (b : Addr) (ys : Array Value) (m : Nat) (dd : Option Addr) (sl : Array (Option Value)) (c1 : ¬(!xs.isEmpty && Builtin.List.listTooLong (xs.size + ys.size)) = true) (c2 : xs.size ≤ sizeLine) (c3 : xs.size + ys.size ≤ sizeLine + 1) :
    Meets (Builtin.«list.extend» ⟨[.ref l, .ref b], []⟩) (fun _ R s => s.heap.get? l = some { cls := .type "list", data := .seq xs n } ∧
      s.heap.get? b = some { cls := .type "tuple", dict := dd, data := .seq ys m, slots := sl } ∧ R (.ok (.ret Value.none)) { s with heap := s.heap.update l (Obj.mapSeq fun x => x ++ ys), toks := s.toks }) :=
  .of_wp fun prog w A R s hx => by
    obtain ⟨hp, gg, dr, tk, os⟩ := s
    obtain ⟨hl, hb, hx⟩ := hx
    have e1 := AutoSeq1.idx_int
    have e2 := AutoSeq1.sub_tuple_tuple
    have e3 := AutoSeq1.sub_list_list
    have e4 := AutoSeq1.sub_tuple_list
    have e5 := AutoSeq1.sub_list_tuple
    have ez : (xs ++ ys).size ≤ sizeLine + 1 := by simpa using c3
    wp_walk using (wpAny_updateSeq hl rfl (hz := c2) (_hz' := ez)), wpAny_loadPart' hl, wpAny_loadPart' hb
    exact ⟨_, rfl, hx⟩
def zExtend : ZM
  | .ref l, [.ref b], h, Q => match h l, h b with
    | some (.lst xs), some (.lst ys) => xs.length + ys.length ≤ sizeLine ∧ Q .non (up h l (.lst (xs ++ ys)))
    | _, _ => False
  | .ref l, [.tup ys], h, Q => match h l with
    | some (.lst xs) => xs.length + ys.length ≤ sizeLine ∧ Q .non (up h l (.lst (xs ++ ys)))
    | _ => False
  | _, _, _, _ => False
theorem qm_extend : QM X "list.extend" zExtend := by
  intro pins s σ H x xs v us Q I rx rv ⟨p, ps, h, Qp, rp, rps, rh, z, k⟩
  unfold zExtend at z
  split at z
  · rename_i l b
    cases rp
    obtain ⟨u, rfl, ru⟩ := rvs_one rps
    cases ru
    split at z
    · rename_i ys zs ea eb
      obtain ⟨us', f1, l1, q1⟩ := rh l _ ea
      obtain ⟨ws', f2, l2, q2⟩ := rh b _ eb
      refine mt_extend pins s σ H _ _ v us Q I rx rv ⟨l, b, us', ws', rfl, rfl, f1, f2, by rw [q1.length, q2.length]; exact z.1, ?_⟩
      exact k.put rh ea (q1.append q2) (by rw [List.length_append, q1.length, q2.length]; exact z.1) .non z.2
    · exact False.elim z
  · rename_i l ys
    cases rp
    obtain ⟨u, rfl, ru⟩ := rvs_one rps
    cases ru with
    | tup s1 l2 q2 =>
    split at z
    · rename_i zs ea
      obtain ⟨us', f1, l1, q1⟩ := rh l _ ea
      cases rx
      obtain ⟨w', rfl, rw'⟩ := rv.one
      cases rw'
      obtain ⟨zz, its, n, r, hl, e⟩ := I.lstM f1
      obtain ⟨its2, r2, ⟨⟨c2, d2, dt2, sl2⟩, e2, hc2, n2, hd2⟩, hz2⟩ := I.tuple s1
      simp only at hc2 hd2
      subst hc2 hd2
      have hl2 := r2.length
      have hlq := q2.length
      have hlq1 := q1.length
      have hsz : its.toArray.size + its2.toArray.size ≤ sizeLine := by rw [List.size_toArray, List.size_toArray]; omega
      have hlong : ¬ (!its.toArray.isEmpty && Builtin.List.listTooLong (its.toArray.size + its2.toArray.size)) = true := by
        rw [notLongL hsz, Bool.and_false]
        exact Bool.false_ne_true
      refine call_meets F.slot_list_extend ⟨_, e, rfl⟩ F.entry_list_extend (F.args_list_extend_2 _ _) (ext_tup l its.toArray n _ its2.toArray n2 d2 sl2 hlong (by rw [List.size_toArray]; omega) (by omega)) ⟨e, e2, ?_⟩
      refine ⟨.non, _, I.lset (its' := its ++ its2) f1 e (by simp) (r.append r2) ?_, rfl, ?_⟩
      · rw [List.length_append]
        simp only [List.size_toArray] at hsz
        omega
      · exact k.put rh ea (q1.append q2) (by rw [List.length_append, hlq, hlq1]; exact z.1) .non z.2
    · exact False.elim z
  · exact False.elim z
def zInsert : ZM
  | .ref l, [.int i, y], h, Q => match h l with
    | some (.lst xs) => xs.length < sizeLine ∧ 0 ≤ i ∧ i < 2 ^ 63 ∧ Q .non (up h l (.lst (xs.take i.toNat ++ [y] ++ xs.drop i.toNat)))
    | _ => False
  | _, _, _, _ => False
theorem qm_insert : QM X "list.insert" zInsert := by
  intro pins s σ H x xs v us Q I rx rv ⟨p, ps, h, Qp, rp, rps, rh, z, k⟩
  unfold zInsert at z
  split at z
  · rename_i l i y
    cases rp
    obtain ⟨u, u2, rfl, ru, ru2⟩ := rvs_two rps
    cases ru
    split at z
    · rename_i ys ea
      obtain ⟨us', f1, l1, q1⟩ := rh l _ ea
      refine mt_insert pins s σ H _ _ v us Q I rx rv ⟨l, us', i, u2, rfl, rfl, f1, by rw [q1.length]; exact z.1, z.2.1, z.2.2.1, ?_⟩
      refine k.put rh ea (((q1.take _).append (.cons ru2 .nil)).append (q1.drop _)) ?_ .non z.2.2.2
      have := q1.length
      have := z.1
      rw [List.length_append, List.length_append, List.length_take, List.length_drop, List.length_singleton]; omega
    · exact False.elim z
  · exact False.elim z
/-- xs.index(y), y is there -/
def zIndex : ZM
  | .ref l, [y], h, Q => match h l with
    | some (.lst xs) => y.pl = true ∧ y.dp ≤ 64 ∧ PV.pls xs = true ∧ PV.dps xs ≤ 63 ∧ y ∈ xs ∧ Q (.int (xs.findIdx (fun x => decide (x = y)) : Nat)) h
    | _ => False
  | _, _, _, _ => False
theorem pls_mem {xs : List PV} (h : PV.pls xs = true) {x : PV} (m : x ∈ xs) : x.pl = true := by
  induction xs with
  | nil => cases m
  | cons y ys ih =>
    simp only [PV.pls, Bool.and_eq_true] at h
    rcases List.mem_cons.mp m with rfl | m
    · exact h.1
    · exact ih h.2 m
theorem Ds_get {xs : List PV} {i : Nat} : (PV.Ds xs)[i]? = (xs[i]?).map PV.D := by
  induction xs generalizing i with
  | nil => simp [PV.Ds]
  | cons x xs ih => cases i <;> simp [PV.Ds, ih]
theorem qm_index (hu : X.A.units + 65 < cLine) : QM X "list.index" zIndex := by
  intro pins s σ H x xs v us Q I rx rv ⟨p, ps, h, Qp, rp, rps, rh, z, k⟩
  unfold zIndex at z
  split at z
  · rename_i l y
    cases rp
    obtain ⟨u, rfl, ru⟩ := rvs_one rps
    split at z
    · rename_i ys ea
      obtain ⟨us', f1, l1, q1⟩ := rh l _ ea
      obtain ⟨z1, z2, z3, z4, z5, z⟩ := z
      have hlt : ys.findIdx (fun x => decide (x = y)) < ys.length := List.findIdx_lt_length_of_exists ⟨y, z5, by simp⟩
      have hat := List.findIdx_getElem (xs := ys) (p := fun x => decide (x = y)) (w := hlt)
      have hat' : ys[ys.findIdx (fun x => decide (x = y))] = y := of_decide_eq_true hat
      refine mt_indexD hu pins s σ H _ _ v us Q I rx rv ⟨l, u, y.D, PV.Ds ys, _, y.D, rfl, rfl, .lst (SqL.of f1) (q1.dp _ _ z3), ru.dp _ _ z1, PV.shapedL z3 z4, PV.shaped z1 z2, ?_, ?_, ?_, k.now rh (.int _) z⟩
      · rw [Ds_get, List.getElem?_eq_getElem hlt, hat']; rfl
      · rw [PV.D_eqv _ _ z1 z1, PV.beq_dec]; simp
      · intro m z' hm hz
        rw [Ds_get, List.getElem?_eq_getElem (Nat.lt_trans hm hlt)] at hz
        cases hz
        have hmem := List.getElem_mem (Nat.lt_trans hm hlt)
        rw [PV.D_eqv _ _ (pls_mem z3 hmem) z1, PV.beq_dec]
        have := List.not_of_lt_findIdx (p := fun x => decide (x = y)) hm
        simpa using this
    · exact False.elim z
  · exact False.elim z
/-- d.get(k), d.get(k, x) -/
def zDget : ZM
  | .ref a, [k], h, Q => match h a with
    | some (.dic t _ kvs) => keyOk t k = true ∧ Q ((dget kvs k).getD .non) h
    | _ => False
  | .ref a, [k, x], h, Q => match h a with
    | some (.dic t _ kvs) => keyOk t k = true ∧ Q ((dget kvs k).getD x) h
    | _ => False
  | _, _, _, _ => False
theorem qm_dget (hu : X.A.units + 64 < cLine) : QM X "dict.get" zDget := by
  intro pins s σ H x xs v us Q I rx rv ⟨p, ps, h, Qp, rp, rps, rh, z, k⟩
  unfold zDget at z
  split at z
  · rename_i a q
    cases rp
    obtain ⟨y, rfl, ry⟩ := rvs_one rps
    split at z
    · rename_i t lk kvs ea
      obtain ⟨hk, z⟩ := z
      cases rx
      obtain ⟨u1, rfl, ru⟩ := rv.one
      cases t with
      | false =>
        obtain ⟨ds, f1, l1, r⟩ := rh a _ ea
        have hk' : q.leaf = true := hk
        have g : DGet H a y (valV ds (keyOf q)) := .inl ⟨ds, keyOf q, f1.rd, kV_of hk' ry, rfl⟩
        refine d_get1 (by omega) I g ru fun w' s3 I3 rw' => ⟨_, H, I3, rw', ?_⟩
        rcases ent_atK hk' r with ⟨e1, e2⟩ | ⟨q', v', e1, e2, r'⟩
        · rw [e1] at z; rw [e2]; exact k.now rh .non z
        · rw [e1] at z; rw [e2]; exact k.now rh r' z
      | true =>
        obtain ⟨ds, f1, l1, r⟩ := rh a _ ea
        obtain ⟨k', hk1, hk2⟩ := keyT hk
        obtain ⟨b, eb⟩ := keyT_ref hk ry
        subst eb
        cases ru
        obtain ⟨g1, g2, g3⟩ := dic_of I f1.rd r
        refine get_keyed (knd := nestedKind X.prog X.w) (by show X.A.units + 1 + 8 < cLine; omega) ⟨ry.nested I _ _ _ _ hk1 rfl, hk2⟩ g1 ⟨ds, g3, rfl⟩ ?_
        rw [valueAt_pairsH]
        rcases ent_at hk1 r with ⟨e1, e2⟩ | ⟨q', b', u', v', e1, e2, r1, r2⟩
        · rw [e1] at z; rw [e2]; exact ⟨.non, H, I.tok _, rfl, k.now rh .non z⟩
        · rw [e1] at z; rw [e2]; exact ⟨v', H, I.tok _, r1, k.now rh r2 z⟩
    · exact False.elim z
  · rename_i a q d
    cases rp
    obtain ⟨y, yd, rfl, ry, rd⟩ := rvs_two rps
    split at z
    · rename_i t lk kvs ea
      obtain ⟨hk, z⟩ := z
      cases rx
      obtain ⟨u1, u2, rfl, ru, ru2⟩ := rv.two
      cases t with
      | false =>
        obtain ⟨ds, f1, l1, r⟩ := rh a _ ea
        have hk' : q.leaf = true := hk
        have g : DGet H a y (valV ds (keyOf q)) := .inl ⟨ds, keyOf q, f1.rd, kV_of hk' ry, rfl⟩
        refine d_get2 (by omega) I g ru ru2 fun w' s3 I3 rw' => ⟨_, H, I3, rw', ?_⟩
        rcases ent_atK hk' r with ⟨e1, e2⟩ | ⟨q', v', e1, e2, r'⟩
        · rw [e1] at z; rw [e2]; exact k.now rh rd z
        · rw [e1] at z; rw [e2]; exact k.now rh r' z
      | true =>
        obtain ⟨ds, f1, l1, r⟩ := rh a _ ea
        obtain ⟨k', hk1, hk2⟩ := keyT hk
        obtain ⟨b, eb⟩ := keyT_ref hk ry
        subst eb
        cases ru
        obtain ⟨g1, g2, g3⟩ := dic_of I f1.rd r
        refine getOr_keyed (knd := nestedKind X.prog X.w) (by show X.A.units + 1 + 8 < cLine; omega) ⟨ry.nested I _ _ _ _ hk1 rfl, hk2⟩ g1 ⟨ds, g3, rfl⟩ ?_
        rw [valueAt_pairsH]
        rcases ent_at hk1 r with ⟨e1, e2⟩ | ⟨q', b', u', v', e1, e2, r1, r2⟩
        · rw [e1] at z; rw [e2]; exact ⟨yd, H, I.tok _, ru2, k.now rh rd z⟩
        · rw [e1] at z; rw [e2]; exact ⟨v', H, I.tok _, r1, k.now rh r2 z⟩
    · exact False.elim z
  · exact False.elim z
end
end G

namespace G
open PySem PySem.Spec PyProof.Rows L2

structure ZEnds where
  nx : Ev → PH → Prop
  rt : QV
  bk : Ev → PH → Prop := fun _ _ => False
  ct : Ev → PH → Prop := fun _ _ => False
abbrev ZS := ZEnds → Ev → PH → Prop
abbrev ZG := PV → Ev → PH → (Ev → PH → Prop) → Prop
abbrev ZGs := List PV → Ev → PH → (Ev → PH → Prop) → Prop
abbrev ZI := Ev → PH → (Nat → Nat → PH → Prop) → Prop
section
variable (P : Program) (w : World) (K : PySem.W.Frag)
def ThnS (h : PH) (H : Hp) (Q : Ev → PH → Prop) (R : L2.St → Hp → Prop) : Prop := ∀ ρ' h', Q ρ' h' → ∀ σ' H', Stp h H h' H' → RS K H' σ' ρ' → RH P w K H' h' → R σ' H'
structure EndsOk (h : PH) (H : Hp) (Z : ZEnds) (D : Ends) : Prop where
  nx : ThnS P w K h H Z.nx D.nx
  rt : Thn P w K h H Z.rt D.rt
  bk : ThnS P w K h H Z.bk D.bk
  ct : ThnS P w K h H Z.ct D.ct
def LS (t : ZS) : TS := fun D σ H => ∃ ρ h Z, RS K H σ ρ ∧ RH P w K H h ∧ t Z ρ h ∧ EndsOk P w K h H Z D
def LG (g : ZG) : TG := fun v σ H Q => ∃ p ρ h Qz, RV K H v p ∧ RS K H σ ρ ∧ RH P w K H h ∧ g p ρ h Qz ∧ ThnS P w K h H Qz Q
def LGs (g : ZGs) : TGs := fun vs σ H Q => ∃ ps ρ h Qz, RVs K H vs ps ∧ RS K H σ ρ ∧ RH P w K H h ∧ g ps ρ h Qz ∧ ThnS P w K h H Qz Q
end
abbrev QS (X : Cx) (s : Stmt) (t : ZS) : Prop := PS X s (LS X.prog X.w X.K t)
abbrev QSs (X : Cx) (s : List Stmt) (t : ZS) : Prop := PSs X s (LS X.prog X.w X.K t)
abbrev QG (X : Cx) (e : Expr) (g : ZG) : Prop := PG X e (LG X.prog X.w X.K g)
abbrev QGs (X : Cx) (e : List Expr) (g : ZGs) : Prop := PGs X e (LGs X.prog X.w X.K g)
theorem psI {X : Cx} {e : Stmt} {t t' : TS} (h : PS X e t) (i : ∀ D σ H, t' D σ H → t D σ H) : PS X e t' := ⟨fun pins s σ H D I q => h.run pins s σ H D I (i D σ H q)⟩
theorem pssI {X : Cx} {e : List Stmt} {t t' : TS} (h : PSs X e t) (i : ∀ D σ H, t' D σ H → t D σ H) : PSs X e t' := ⟨fun pins s σ H D I q => h.run pins s σ H D I (i D σ H q)⟩
theorem pgI {X : Cx} {e : Expr} {t t' : TG} (h : PG X e t) (i : ∀ v σ H Q, t' v σ H Q → t v σ H Q) : PG X e t' := ⟨fun pins s σ H v u Q I r q => h.run pins s σ H v u Q I r (i v σ H Q q)⟩
theorem pgsI {X : Cx} {e : List Expr} {t t' : TGs} (h : PGs X e t) (i : ∀ v σ H Q, t' v σ H Q → t v σ H Q) : PGs X e t' := ⟨fun pins s σ H v u Q I r q => h.run pins s σ H v u Q I r (i v σ H Q q)⟩
section
variable {P : Program} {w : World} {K : PySem.W.Frag} {h h1 : PH} {H H1 : Hp} {Z : ZEnds} {D : Ends}
theorem ThnS.later {Q : Ev → PH → Prop} {R : L2.St → Hp → Prop} (k : ThnS P w K h H Q R) (s : Stp h H h1 H1) : ThnS P w K h1 H1 Q R := fun ρ' h' q σ' H' s' rs rh => k ρ' h' q σ' H' (s.trans s') rs rh
theorem EndsOk.later (k : EndsOk P w K h H Z D) (s : Stp h H h1 H1) : EndsOk P w K h1 H1 Z D := ⟨k.nx.later s, k.rt.later s, k.bk.later s, k.ct.later s⟩
/-- another way on -/
theorem EndsOk.nxt (k : EndsOk P w K h H Z D) {N : Ev → PH → Prop} {M : L2.St → Hp → Prop} (n : ThnS P w K h H N M) : EndsOk P w K h H { Z with nx := N } { D with nx := M } := ⟨n, k.rt, k.bk, k.ct⟩
end
section
variable {X : Cx} {e a b c : Expr} {es : List Expr} {st : Stmt} {rest ss tt : List Stmt} {t u : ZS} {te ta tb : ZE} {tc : ZT} {g : ZG} {gs : ZGs} {pos : Pos}
/-! ### blocks -/
def zNext : ZS := fun D ρ h => D.nx ρ h
def zSeq (t u : ZS) : ZS := fun D ρ h => t { D with nx := u D } ρ h
theorem qss_nil : QSs X [] zNext := pssI pss_nil fun D σ H ⟨ρ, h, Z, rs, rh, t, k⟩ => k.nx _ _ t _ _ (Stp.refl _ _) rs rh
theorem qss_cons (h1 : QS X st t) (h2 : QSs X rest u) : QSs X (st :: rest) (zSeq t u) := pssI (pss_cons h1 h2) fun D σ H ⟨ρ, h, Z, rs, rh, t, k⟩ =>
  ⟨ρ, h, _, rs, rh, t, k.nxt fun ρ' h' q σ' H' s rs' rh' => ⟨ρ', h', Z, rs', rh', q, k.later s⟩⟩
theorem qss_one (h1 : QS X st t) : QSs X [st] t := pss_one h1
def zBrk : ZS := fun D ρ h => D.bk ρ h
def zCont : ZS := fun D ρ h => D.ct ρ h
theorem qs_pass : QS X (.Pass pos) zNext := psI ps_pass fun D σ H ⟨ρ, h, Z, rs, rh, t, k⟩ => k.nx _ _ t _ _ (Stp.refl _ _) rs rh
theorem qs_brk : QS X (.Break pos) zBrk := psI ps_break fun D σ H ⟨ρ, h, Z, rs, rh, t, k⟩ => k.bk _ _ t _ _ (Stp.refl _ _) rs rh
theorem qs_cont : QS X (.Continue pos) zCont := psI ps_continue fun D σ H ⟨ρ, h, Z, rs, rh, t, k⟩ => k.ct _ _ t _ _ (Stp.refl _ _) rs rh
def zDrop (te : ZE) : ZS := fun D ρ h => te ρ h fun _ h1 => D.nx ρ h1
theorem qs_expr (he : QE X e te) (hs : swapsWith e none pos.line X.env = pure false) : QS X (.Expr e pos) (zDrop te) := psI (ps_expr he hs) fun D σ H ⟨ρ, h, Z, rs, rh, t, k⟩ =>
  ⟨ρ, h, _, rs, rh, t, fun p h1 t1 v H1 s1 r1 rh1 => k.nx _ _ t1 _ _ s1 (rs.stp rh s1) rh1⟩
def zRet (te : ZE) : ZS := fun D ρ h => te ρ h D.rt
theorem qs_ret (he : QE X e te) : QS X (.Return (some e) pos) (zRet te) := psI (ps_ret he) fun D σ H ⟨ρ, h, Z, rs, rh, t, k⟩ => ⟨ρ, h, _, rs, rh, t, k.rt⟩
def zRetN : ZS := fun D _ h => D.rt .non h
theorem qs_retN : QS X (.Return none pos) zRetN := psI ps_retN fun D σ H ⟨ρ, h, Z, rs, rh, t, k⟩ => k.rt.now rh .non t
def zIfS (c : ZT) (t u : ZS) : ZS := fun D ρ h => c ρ h fun b h1 => if b = true then t D ρ h1 else u D ρ h1
theorem qs_if (hc : QT X c tc) (ha : QSs X ss t) (hb : QSs X tt u) : QS X (.If c ss tt pos) (zIfS tc t u) := psI (ps_if hc ha hb) fun D σ H ⟨ρ, h, Z, rs, rh, t, k⟩ =>
  ⟨ρ, h, _, rs, rh, t, fun b h1 t1 H1 s1 rh1 => by
    cases b with
    | true => rw [if_pos rfl] at t1 ⊢; exact ⟨ρ, h1, Z, rs.stp rh s1, rh1, t1, k.later s1⟩
    | false => rw [if_neg Bool.false_ne_true] at t1 ⊢; exact ⟨ρ, h1, Z, rs.stp rh s1, rh1, t1, k.later s1⟩⟩
/-! ### targets -/
def zgName (i : Nat) : ZG := fun p ρ h Q => Q (ρ.set i (some p)) h
theorem qg_name {i : Nat} {x : Str} (hN : X.N.Nodup) (hi : X.N[i]? = some x) (hx : Loc X.env.scope x) (hf : X.fn x = true ∨ X.env.scope.names.lookup x = some .local) : QG X (.Name x pos) (zgName i) :=
  pgI (pg_name hN hi hx hf) fun v σ H Q ⟨p, ρ, h, Qz, r, rs, rh, q, k⟩ => k _ _ q _ _ (Stp.refl _ _) (rs.set r i) rh
def zgNil : ZGs := fun ps ρ h Q => ps = [] ∧ Q ρ h
def zgCons (g : ZG) (gs : ZGs) : ZGs := fun ps ρ h Q => match ps with
  | p :: r => g p ρ h fun ρ' h' => gs r ρ' h' Q
  | [] => False
theorem qgs_nil : QGs X [] zgNil := pgsI pgs_nil fun vs σ H Q ⟨ps, ρ, h, Qz, r, rs, rh, ⟨e, q⟩, k⟩ => by
  subst e; cases r
  exact ⟨rfl, k _ _ q _ _ (Stp.refl _ _) rs rh⟩
theorem qgs_cons (h1 : QG X e g) (h2 : QGs X es gs) (hs : (assignEach (e :: es) X.env).map (·.2) = assign e X.env :: (assignEach es X.env).map (·.2)) : QGs X (e :: es) (zgCons g gs) :=
  pgsI (pgs_cons h1 h2 hs) fun vs σ H Q ⟨ps, ρ, h, Qz, r, rs, rh, q, k⟩ => by
    cases r with
    | nil => exact False.elim q
    | cons r1 r2 => exact ⟨_, _, rfl, _, ρ, h, _, r1, rs, rh, q, fun ρ' h' q' σ' H' s rs' rh' => ⟨_, ρ', h', Qz, r2.stp rh s, rs', rh', q', k.later s⟩⟩
def zgTup (n : Nat) (gs : ZGs) : ZG := fun p ρ h Q => match p with
  | .tup xs => xs.length = n ∧ gs xs ρ h Q
  | _ => False
theorem qg_tup {n k : Nat} (hc : X.calm = true) (hg : QGs X es gs) (hn : (assignEach es X.env).length = n) (hst : (assignEach es X.env).findIdx? (·.1) = none) : QG X (.Tuple es k pos) (zgTup n gs) :=
  pgI (pg_tup hc hg hn hst) fun v σ H Q ⟨p, ρ, h, Qz, r, rs, rh, q, k⟩ => by
    cases p <;> first | (exact False.elim q) | skip
    cases r with
    | tup s l qq => exact ⟨_, _, rfl, s, by rw [qq.length]; exact q.1, _, ρ, h, Qz, qq, rs, rh, q.2, k⟩
/-- o[i] = v by values -/
abbrev ZSet := PV → PV → PV → PH → (PH → Prop) → Prop
def zSet : ZSet
  | .ref a, k, v, h, Q => match h a, k with
    | some (.lst xs), .int i => ∃ j, ixN xs.length i = some j ∧ Q (up h a (.lst (xs.set j v)))
    | some (.dic t none kvs), k => keyOk t k = true ∧ kvs.length < sizeLine ∧ Q (up h a (.dic t none (dput kvs k v)))
    | _, _ => False
  | _, _, _, _, _ => False
theorem qset (hu : X.A.units + 64 < cLine) : PSet X (fun o i v H Q => ∃ po pi pv h Qz, RV X.K H o po ∧ RV X.K H i pi ∧ RV X.K H v pv ∧ RH X.prog X.w X.K H h ∧ zSet po pi pv h Qz ∧ ∀ h', Qz h' → ∀ H', Stp h H h' H' → RH X.prog X.w X.K H' h' → Q H') := by
  intro pins s σ H o i v ov iv u Q I ro ri rv ⟨po, pi, pv, h, Qz, qo, qi, qv, rh, z, k⟩
  cases po <;> first | (exact False.elim z) | skip
  rename_i a
  cases qo
  simp only [zSet] at z
  cases ea : h a with
  | none => rw [ea] at z; exact False.elim z
  | some ob =>
    rw [ea] at z
    cases ob with
    | lst xs =>
      cases pi <;> first | (exact False.elim z) | skip
      cases qi
      obtain ⟨j, e, z⟩ := z
      obtain ⟨us, f1, l1, q1⟩ := rh a _ ea
      refine set_list pins s σ H _ _ _ ov iv u Q I ro ri rv ⟨a, us, _, j, rfl, rfl, f1, by rw [q1.length]; exact e, ?_⟩
      have st : Stp h H (up h a (.lst (xs.set j pv))) (upd H a (.lst (us.set j v))) := stp_set ea
      exact k _ z _ st (rh.put st ⟨_, upd_same, by rw [List.length_set]; exact l1, (q1.set qv j).stp rh st⟩)
    | dic t lk kvs =>
      cases lk with
      | some l => cases pi <;> exact False.elim z
      | none =>
        obtain ⟨hk, hl, z'⟩ := (show keyOk t pi = true ∧ kvs.length < sizeLine ∧ Qz (up h a (.dic t none (dput kvs pi pv))) by cases pi <;> exact z)
        clear z
        cases ro
        have hl' := len_dput kvs pi pv
        cases t with
        | false =>
          obtain ⟨ds, f1, l1, r⟩ := rh a _ ea
          have hk' : pi.leaf = true := hk
          have f1' : H a = some (.dK ds) := f1
          have g : DPut H a i v (upd H a (.dK (putK ds (keyOf pi) v))) := .inl ⟨ds, keyOf pi, f1', kV_of hk' qi, by rw [← paired_len r]; exact hl, rfl⟩
          refine d_setItem (by omega) I g ri rv fun s4 I4 => ⟨_, I4, ?_⟩
          have st : Stp h H (up h a (.dic false none (dput kvs pi pv))) (upd H a (.dK (putK ds (keyOf pi) v))) := stp_set ea
          refine k _ z' _ st (rh.put st ⟨_, (show LkAt _ _ none _ from upd_same), by omega, ?_⟩)
          exact Paired.mapP (ent_putK hk' qv r) fun _ _ q => ⟨q.1, q.2.stp rh st⟩
        | true =>
          obtain ⟨xs, f1, l1, r⟩ := rh a _ ea
          obtain ⟨k', hk1, hk2⟩ := keyT hk
          obtain ⟨b, eb⟩ := keyT_ref hk qi
          subst eb
          cases ri
          obtain ⟨g1, g2, g3⟩ := dic_of I f1.rd r
          have f1' : H a = some (.ext (dphi X.prog X.w a xs)) := f1
          have st : Stp h H (up h a (.dic true none (dput kvs pi pv))) (upd H a (.ext (dphi X.prog X.w a (storedH xs k' b u)))) := stp_set ea
          refine wpAny_setItem_heap (knd := nestedKind X.prog X.w) (by show X.A.units + 1 + 8 < cLine; omega) ⟨qi.nested I _ _ _ _ hk1 rfl, hk2⟩ g3 (fun h' hm' hs => ?_) g2
          have hle := len_storedH xs k' b u
          have hxl : xs.length = kvs.length := (paired_len r).symm
          obtain ⟨o', es, ep, ho', hx', hd', he', hi', hn'⟩ := hm'
          have new : ObjOk X.prog X.w (upd H a (.ext (dphi X.prog X.w a (storedH xs k' b u)))) h' a (.ext (dphi X.prog X.w a (storedH xs k' b u))) := by
            refine ⟨⟨g1, by omega, o', es, ep, ho', hx', hd', he', hn'⟩, ⟨o', ho'⟩, fun h1 h2 ⟨c1, c2, o1, es1, ep1, c3, c4⟩ hk => ⟨c1, c2, o1, es1, ep1, hk o1 c3, c4⟩⟩
          have I4 := I.write (x := a) (e := a) (t' := s.toks + (nestedKind X.prog X.w).draws k') (by rw [f1']; trivial) (.inl rfl) (fun c v hc e => (hs.2 c hc).trans e) ⟨o', ho'⟩ new
          refine ⟨_, I4, k _ z' _ st (rh.put st ⟨_, (show LkAt _ _ none _ from upd_same), by omega, ?_⟩)⟩
          exact Paired.mapP (ent_put hk1 hk2 qi rv qv r) fun _ _ ⟨c1, c2, c3, v', c4, c5⟩ => ⟨c1, c2, c3.stp rh st, v', c4, c5.stp rh st⟩
def zgSub (to ti : ZE) : ZG := fun p ρ h Q => to ρ h fun o h1 => ti ρ h1 fun i h2 => zSet o i p h2 fun h3 => Q ρ h3
theorem qg_sub {o i : Expr} {to ti : ZE} (hu : X.A.units + 64 < cLine) (ho : QE X o to) (hi : QE X i ti)
    (ha : ∀ v, assign (.Subscript o i pos) X.env v = (do
      let ov ← holding [v] (eval o X.env)
      let iv ← holding [v, ov] (eval i X.env)
      standAt pos
      holding [v, ov, iv] (setItem ov iv v)
      release [v, ov, iv] [])) : QG X (.Subscript o i pos) (zgSub to ti) :=
  pgI (pg_sub ho hi (qset hu) ha) fun v σ H Q ⟨p, ρ, h, Qz, r, rs, rh, q, k⟩ => ⟨ρ, h, _, rs, rh, q, fun po h1 t1 ov H1 s1 r1 rh1 => ⟨ρ, h1, _, rs.stp rh s1, rh1, t1, fun pi h2 t2 iv H2 s2 r2 rh2 =>
    ⟨po, pi, p, h2, _, r1.stp rh1 s2, r2, (r.stp rh s1).stp rh1 s2, rh2, t2, fun h' q' H' s' rh' => k _ _ q' _ _ ((s1.trans s2).trans s') (((rs.stp rh s1).stp rh1 s2).stp rh2 s') rh'⟩⟩⟩
/-- target = value -/
def zAsg (te : ZE) (g : ZG) : ZS := fun D ρ h => te ρ h fun p h1 => g p ρ h1 D.nx
theorem qs_asg {tg : Expr} (he : QE X e te) (hg : QG X tg g) (hs : swapsWithSole [tg] e pos.line X.env = pure false) (hw : swappedStores [tg] e X.env = pure none) (h1 : (assignEach [tg] X.env).map (·.2) = [assign tg X.env]) :
    QS X (.Assign [tg] e pos) (zAsg te g) := psI (ps_asg he hg hs hw h1) fun D σ H ⟨ρ, h, Z, rs, rh, t, k⟩ => ⟨ρ, h, _, rs, rh, t, fun p h1 t1 v H1 s1 r1 rh1 => ⟨p, ρ, h1, Z.nx, r1, rs.stp rh s1, rh1, t1, k.nx.later s1⟩⟩
theorem qs_set {i : Nat} {x : Str} {pos' : Pos} (hN : X.N.Nodup) (hi : X.N[i]? = some x) (hx : Loc X.env.scope x) (he : QE X e te) (hs : swapsWith e (some (.Name x pos')) pos.line X.env = pure false) (hf : X.fn x = true ∨ X.env.scope.names.lookup x = some .local) :
    QS X (.Assign [.Name x pos'] e pos) (zAsg te (zgName i)) := psI (ps_set hN hi hx he hs hf) fun D σ H ⟨ρ, h, Z, rs, rh, t, k⟩ => ⟨ρ, h, _, rs, rh, t, fun p h1 t1 v H1 s1 r1 rh1 => k.nx _ _ t1 _ _ s1 ((rs.stp rh s1).set r1 i) rh1⟩
/-- a, b = x, y -/
def zPar (i j : Nat) (ta : ZA) : ZS := fun D ρ h => ta ρ h fun ps h1 => match ps with
  | [p, q] => D.nx ((ρ.set i (some p)).set j (some q)) h1
  | _ => False
theorem qs_par {i j : Nat} {x y : Str} {ta : ZA} {px py pt : Pos} {kt k2 pt2} (hc : X.calm = true) (hN : X.N.Nodup) (hi : X.N[i]? = some x) (hj : X.N[j]? = some y) (hij : i ≠ j)
    (hx : X.env.scope.names.lookup x = some .local) (hy : X.env.scope.names.lookup y = some .local) (ha : QA X [a, b] ta)
    (hw : swappedStores [.Tuple [.Name x px, .Name y py] kt pt] (.Tuple [a, b] k2 pt2) X.env = pure (some [x, y]))
    (hs : swapsWithSole [.Tuple [.Name x px, .Name y py] kt pt] (.Tuple [a, b] k2 pt2) pos.line X.env = pure false) :
    QS X (.Assign [.Tuple [.Name x px, .Name y py] kt pt] (.Tuple [a, b] k2 pt2) pos) (zPar i j ta) := psI (ps_par hc hN hi hj hij hx hy ha hw hs) fun D σ H ⟨ρ, h, Z, rs, rh, t, k⟩ =>
  ⟨ρ, h, _, rs, rh, t, fun ps h1 t1 vs H1 s1 r1 rh1 => by
    split at t1
    · obtain ⟨v, u, rfl, q1, q2⟩ := rvs_two r1
      exact ⟨v, u, rfl, k.nx _ _ t1 _ _ s1 (((rs.stp rh s1).set q1 i).set q2 j) rh1⟩
    · exact False.elim t1⟩
/-- name += e, of ints -/
def zAug (i : Nat) (te : ZE) (f : Int → Int → Int) : ZS := fun D ρ h => ∃ x, ρ[i]? = some (some (.int x)) ∧ te ρ h fun p h1 => match p with
  | .int y => D.nx (ρ.set i (some (.int (f x y)))) h1
  | _ => False
theorem qs_aug {i : Nat} {x : Str} {op : Operator} {f : Int → Int → Int} {pos' : Pos} (hN : X.N.Nodup) (hi : X.N[i]? = some x) (hx : Loc X.env.scope x) (he : QE X e te) (ho : PIp X op (ipI f)) (hf : X.fn x = true ∨ X.env.scope.names.lookup x = some .local) :
    QS X (.AugAssign (.Name x pos') op e pos) (zAug i te f) := psI (ps_aug hN hi hx he ho hf) fun D σ H ⟨ρ, h, Z, rs, rh, ⟨n, e1, t⟩, k⟩ => by
  obtain ⟨v, e2, r⟩ := rs.2 _ _ e1
  cases r
  refine ⟨_, e2, ρ, h, _, rs, rh, t, fun p h1 t1 v H1 s1 r1 rh1 => ?_⟩
  cases p <;> first | (exact False.elim t1) | skip
  cases r1
  exact ⟨_, _, rfl, rfl, k.nx _ _ t1 _ _ s1 ((rs.stp rh s1).set (.int _) i) rh1⟩
/-! ### while -/
def zWhile (c : ZT) (tb : ZS) : ZS := fun D ρ h => ∃ W : Nat → Ev → PH → Prop, (∃ m, W m ρ h) ∧ ∀ m ρ h, W m ρ h →
  c ρ h fun b h1 => if b = true then ∃ N : Ev → PH → Prop, (∀ ρ' h', N ρ' h' → ∃ m' h2, m' < m ∧ Sub h2 h' ∧ W m' ρ' h2) ∧ tb { D with nx := N, ct := N, bk := D.nx } ρ h1 else D.nx ρ h1
theorem stp_sub {h h' h2 : PH} {H H' : Hp} (s : Stp h H h' H') (u : Sub h2 h') : Stp h H h2 H' := fun b o e n => by
  obtain ⟨a1, a2⟩ := s b o e n
  refine ⟨a1, ?_⟩
  cases q : h2 b with
  | none => rfl
  | some v => rw [u b v q] at a2; cases a2
theorem qs_while {body : List Stmt} (hp : PassesOwn (model X.prog X.w) X.A X.env X.xe) (hc : QT X c tc) (hb : QSs X body t) : QS X (.While c body [] pos) (zWhile tc t) :=
  psI (ps_while hp hc hb) fun D σ H ⟨ρ, h, Z, rs, rh, ⟨W, ⟨m0, w0⟩, turn⟩, k⟩ => by
    refine ⟨fun m σ' H' => ∃ ρ' h', RS X.K H' σ' ρ' ∧ RH X.prog X.w X.K H' h' ∧ Stp h H h' H' ∧ W m ρ' h', ⟨m0, ρ, h, rs, rh, Stp.refl _ _, w0⟩, ?_⟩
    rintro m σ1 H1 ⟨ρ1, h1, rs1, rh1, s1, w1⟩
    refine ⟨ρ1, h1, _, rs1, rh1, turn m ρ1 h1 w1, fun b h2 t2 H2 s2 rh2 => ?_⟩
    cases b with
    | false =>
      rw [if_neg Bool.false_ne_true] at t2 ⊢
      exact k.nx _ _ t2 _ _ (s1.trans s2) (rs1.stp rh1 s2) rh2
    | true =>
      rw [if_pos rfl] at t2 ⊢
      obtain ⟨N, hN, t2⟩ := t2
      have s12 := s1.trans s2
      have nn : ThnS X.prog X.w X.K h2 H2 N (fun σ' H' => ∃ ρ' h', RS X.K H' σ' ρ' ∧ RH X.prog X.w X.K H' h' ∧ Stp h H h' H' ∧ N ρ' h') := fun ρ' h' q σ' H' s rs' rh' => ⟨ρ', h', rs', rh', s12.trans s, q⟩
      refine ⟨fun σ' H' => ∃ ρ' h', RS X.K H' σ' ρ' ∧ RH X.prog X.w X.K H' h' ∧ Stp h H h' H' ∧ N ρ' h', ?_, ρ1, h2, _, rs1.stp rh1 s2, rh2, t2, ⟨nn, k.rt.later s12, k.nx.later s12, nn⟩⟩
      rintro σ' H' ⟨ρ', h', rs', rh', s', n'⟩
      obtain ⟨m', h3, hm, u, w'⟩ := hN ρ' h' n'
      exact ⟨m', hm, ρ', h3, rs', rh'.sub u, stp_sub s' u, w'⟩
end
end G

namespace G
open PySem PySem.Spec PyProof.Rows L2

/-! ### what a loop walks -/
structure ZIt where
  go : Nat → PH → Prop
  yld : Nat → PH → PV → Prop
  stop : Nat → PH → Prop
/-- fixed values -/
def ZitV (ps : List PV) : ZIt := ⟨fun i _ => i < ps.length, fun i _ p => ps[i]? = some p, fun i _ => ps.length ≤ i⟩
/-- the list at a as it stands at each turn -/
def ZitL (a : Addr) : ZIt := ⟨fun i h => ∃ xs x, h a = some (.lst xs) ∧ xs[i]? = some x, fun i h p => ∀ xs, h a = some (.lst xs) → xs[i]? = some p, fun i h => ∃ xs, h a = some (.lst xs) ∧ xs.length ≤ i⟩
/-- lo, lo + 1, .. -/
def ZitR (lo : Int) (n : Nat) : ZIt := ⟨fun i _ => i < n, fun i _ p => p = .int (lo + i), fun i _ => n ≤ i⟩
/-- the keys of the locked dict at a -/
def ZitK (a : Addr) (t : Bool) (lk : Obj × HO) (kvs : List (PV × PV)) : ZIt :=
  ⟨fun i h => h a = some (.dic t (some lk) kvs) ∧ i < kvs.length, fun i _ p => ∃ kv, kvs[i]? = some kv ∧ p = kv.1, fun i h => h a = some (.dic t (some lk) kvs) ∧ kvs.length ≤ i⟩
def Cor (P : Program) (w : World) (K : PySem.W.Frag) (h0 : PH) (H0 : Hp) (J : It) (Z : ZIt) : Prop := ∀ i h H, Stp h0 H0 h H → RH P w K H h →
  (Z.go i h → J.go i H) ∧ (Z.stop i h → J.stop i H) ∧ (Z.go i h → ∀ x H', J.yld i H x H' → ∃ p, Z.yld i h p ∧ Stp h H h H' ∧ RV K H' x p ∧ RH P w K H' h)
abbrev ZSrc := Ev → PH → (ZIt → PH → Prop) → Prop
def LIs (P : Program) (w : World) (K : PySem.W.Frag) (wz : ZSrc) : TI := fun σ H R => ∃ ρ h Rz, RS K H σ ρ ∧ RH P w K H h ∧ wz ρ h Rz ∧ ∀ Z h', Rz Z h' → ∀ J H', Stp h H h' H' → RH P w K H' h' → Cor P w K h' H' J Z → R J H'
abbrev QI (X : Cx) (tg iter : Expr) (wz : ZSrc) : Prop := PI X tg iter (LIs X.prog X.w X.K wz)
theorem piI {X : Cx} {tg e : Expr} {t t' : TI} (h : PI X tg e t) (i : ∀ σ H Q, t' σ H Q → t σ H Q) : PI X tg e t' := ⟨fun pins s σ H Q I q => h.run pins s σ H Q I (i σ H Q q)⟩
section
variable {X : Cx} {tg e a b : Expr} {te : ZE} {ta : ZA} {pos : Pos}
/-- any of: a list, a tuple, a locked dict -/
def iAnyV (K : PySem.W.Frag) (tl : TE) : TI := fun σ H R => tl σ H fun x H1 => ∃ a, x = .ref a ∧ ((∃ xs, SqL K H1 a xs ∧ R (Itl K a) H1) ∨ (∃ xs, SqT K H1 a xs ∧ R (Itt K a) H1) ∨ ∃ o kvs, H1 a = some (.frz o (.dK kvs)) ∧ R (Itk a o kvs) H1)
theorem pi_anyV {l : Expr} {tl : TE} (hl : PE X l tl) : PI X tg l (iAnyV X.K tl) := by
  refine ⟨fun pins s σ H R I h => ?_⟩
  refine thn (hl.run pins s σ H _ I h) fun v s1 ⟨x, H1, I1, r1, q1⟩ => ?_
  obtain ⟨a, e, q⟩ := q1
  subst e
  cases r1
  rcases q with ⟨xs, hq, q⟩ | ⟨xs, hq, q⟩ | ⟨o, kvs, hd, q⟩
  · obtain ⟨its, rv, p, hz⟩ := I1.list hq
    exact wpAny_pyIter_list p.isList (pi_one (tk := s1.toks) I1 _ (turn_list a _) ⟨_, Heap.get?_push_size _ rfl, rfl, rfl⟩ q)
  · obtain ⟨its, rv, p, hz⟩ := I1.tuple hq
    exact wpAny_pyIter_tuple (show s1.heap.IsTuple a its.toArray from p) (pi_one (tk := s1.toks) I1 _ (turn_tuple a _) ⟨_, Heap.get?_push_size _ rfl, rfl, rfl⟩ q)
  · obtain ⟨hs, hgd, hx, es, ep, vs, hdt, hsz, kv, hm⟩ := I1.frzK hd
    refine iter_keys hs hgd hx hdt (pi_one (tk := s1.toks) I1 _ (turn_keys _ hdt) ⟨_, Heap.get?_push_size _ rfl, rfl, ?_⟩ q)
    rw [hsz] <;> rfl
def zsAny (te : ZE) : ZSrc := fun ρ h R => te ρ h fun p h1 => match p with
  | .tup ps => R (ZitV ps) h1
  | .ref a => (match h1 a with
    | some (.lst _) => R (ZitL a) h1
    | some (.dic false (some lk) kvs) => R (ZitK a false lk kvs) h1
    | _ => False)
  | _ => False
theorem cor_tup {P : Program} {w : World} {K : PySem.W.Frag} {h0 : PH} {H0 : Hp} {a : Addr} {xs : List V} {ps : List PV} (rh0 : RH P w K H0 h0) (s : SqT K H0 a xs) (inj : ∀ {H : Hp} {ys : List V}, SqT K H a xs → SqT K H a ys → ys = xs) (r : RVs K H0 xs ps) : Cor P w K h0 H0 (Itt K a) (ZitV ps) := fun i h H st rh => by
  have s1 := SqT.stp rh0 st s
  have r1 := r.stp rh0 st
  refine ⟨fun g => ?_, fun g => ⟨xs, s1, by rw [r1.length]; exact g⟩, fun g x H' y => ?_⟩
  · have hlt : i < xs.length := by rw [r1.length]; exact g
    exact ⟨xs, xs[i], s1, List.getElem?_eq_getElem hlt⟩
  · obtain ⟨rfl, y⟩ := y
    obtain ⟨p, e, rv⟩ := r1.getV (y xs s1)
    exact ⟨p, e, Stp.refl _ _, rv, rh⟩
theorem cor_tup' {P : Program} {w : World} {K : PySem.W.Frag} {h0 : PH} {H0 : Hp} {a : Addr} {xs : List V} {ps : List PV} (rh0 : RH P w K H0 h0) (s : SqT K H0 a xs) (r : RVs K H0 xs ps) : Cor P w K h0 H0 (Itt K a) (ZitV ps) := fun i h H st rh => by
  have s1 := SqT.stp rh0 st s
  have r1 := r.stp rh0 st
  refine ⟨fun g => ?_, fun g => ⟨xs, s1, by rw [r1.length]; exact g⟩, fun g x H' y => ?_⟩
  · have hlt : i < xs.length := by rw [r1.length]; exact g
    exact ⟨xs, xs[i], s1, List.getElem?_eq_getElem hlt⟩
  · obtain ⟨rfl, y⟩ := y
    obtain ⟨p, e, rv⟩ := r1.getV (y xs s1)
    exact ⟨p, e, Stp.refl _ _, rv, rh⟩
theorem cor_list {P : Program} {w : World} {K : PySem.W.Frag} {h0 : PH} {H0 : Hp} {a : Addr} : Cor P w K h0 H0 (Itl K a) (ZitL a) := fun i h H st rh => by
  refine ⟨fun ⟨ps, p, e, e2⟩ => ?_, fun ⟨ps, e, hl⟩ => ?_, fun ⟨ps, p, e, e2⟩ x H' y => ?_⟩
  · obtain ⟨us, f1, l1, q1⟩ := rh a _ e
    obtain ⟨v, g1, g2⟩ := q1.get e2
    exact ⟨us, v, SqL.of f1, g1⟩
  · obtain ⟨us, f1, l1, q1⟩ := rh a _ e
    exact ⟨us, SqL.of f1, by rw [q1.length]; exact hl⟩
  · obtain ⟨rfl, y⟩ := y
    obtain ⟨us, f1, l1, q1⟩ := rh a _ e
    obtain ⟨v, g1, g2⟩ := q1.get e2
    have : x = v := Option.some.inj ((y us (SqL.of f1)).symm.trans g1)
    subst this
    exact ⟨p, fun xs ex => by rw [e] at ex; cases ex; exact e2, Stp.refl _ _, g2, rh⟩
theorem cor_keys {P : Program} {w : World} {K : PySem.W.Frag} {h0 : PH} {H0 : Hp} {a : Addr} {o : Obj} {ds : List (Key × V)} {kvs : List (PV × PV)} (r : Paired (EntK K H0) kvs ds) : Cor P w K h0 H0 (Itk a o ds) (ZitK a false (o, .dK ds) kvs) := fun i h H st rh => by
  have hl := paired_len r
  have at_ : h a = some (.dic false (some (o, .dK ds)) kvs) → H a = some (.frz o (.dK ds)) := fun e => by
    obtain ⟨ds', f1, _⟩ := rh a _ e
    obtain ⟨f1, f2⟩ := f1
    cases f1
    exact f2
  refine ⟨fun ⟨e, e2⟩ => ⟨at_ e, by omega⟩, fun ⟨e, e2⟩ => ⟨at_ e, by omega⟩, fun ⟨e, e2⟩ x H' y => ?_⟩
  obtain ⟨rfl, k, v, y1, rfl⟩ := y
  obtain ⟨kv, f1, f2⟩ : ∃ kv, kvs[i]? = some kv ∧ EntK K H0 kv (k, v) := by
    have hlt : i < kvs.length := e2
    obtain ⟨b, g1, g2⟩ := paired_get r (List.getElem?_eq_getElem hlt)
    rw [y1] at g1; cases g1
    exact ⟨_, List.getElem?_eq_getElem hlt, g2⟩
  refine ⟨kv.1, ⟨kv, f1, rfl⟩, Stp.refl _ _, ?_, rh⟩
  have e3 : kv.1 = kP k := f2.1
  rw [e3]
  cases k with
  | inl i => exact .int i
  | inr z => have := RV.str (K := K) (H := H') z.cps.toList; rw [tS_of] at this; exact this
theorem qi_any (he : QE X e te) : QI X tg e (zsAny te) :=
  piI (pi_anyV he) fun σ H R ⟨ρ, h, Rz, rs, rh, t, k⟩ => ⟨ρ, h, _, rs, rh, t, fun p h1 t1 v H1 s1 r1 rh1 => by
    cases p <;> first | (exact False.elim t1) | skip
    case tup ps =>
      cases r1 with
      | tup s l q => exact ⟨_, rfl, .inr (.inl ⟨_, s, k _ _ t1 _ _ s1 rh1 (cor_tup' rh1 s q)⟩)⟩
    case ref a =>
      simp only at t1
      cases r1
      split at t1
      · rename_i xs ea
        obtain ⟨us, f1, l1, q1⟩ := rh1 a _ ea
        exact ⟨a, rfl, .inl ⟨us, SqL.of f1, k _ _ t1 _ _ s1 rh1 cor_list⟩⟩
      · rename_i lk kvs ea
        obtain ⟨ds, f1, l1, q1⟩ := rh1 a _ ea
        obtain ⟨o, u⟩ := lk
        obtain ⟨f1, f2⟩ := f1
        subst f1
        exact ⟨a, rfl, .inr (.inr ⟨o, ds, f2, k _ _ t1 _ _ s1 rh1 (cor_keys q1)⟩)⟩
      · exact False.elim t1⟩
def zsR1 (ta : ZA) : ZSrc := fun ρ h R => ta ρ h fun ps h1 => match ps with
  | [.int j] => -(2 ^ 62) ≤ j ∧ j < 2 ^ 62 ∧ R (ZitR 0 j.toNat) h1
  | _ => False
def zsR2 (ta : ZA) : ZSrc := fun ρ h R => ta ρ h fun ps h1 => match ps with
  | [.int i, .int j] => (-(2 ^ 62) ≤ i ∧ i < 2 ^ 62 ∧ -(2 ^ 62) ≤ j ∧ j < 2 ^ 62) ∧ R (ZitR i (j - i).toNat) h1
  | _ => False
theorem cor_rng {P : Program} {w : World} {K : PySem.W.Frag} {h0 : PH} {H0 : Hp} {lo : Int} {n : Nat} : Cor P w K h0 H0 (Itr lo n) (ZitR lo n) := fun i h H st rh =>
  ⟨fun g => g, fun g => g, fun g x H' ⟨y1, y2⟩ => by subst y1; subst y2; exact ⟨_, rfl, Stp.refl _ _, .int _, rh⟩⟩
theorem qi_r1 {p : Pos} (hg : Gl X "range") (hm : X.mg "range" = none) (ha : QA X [a] ta) (hs : starEach [a] X.env = [(false, eval a X.env)]) : QI X tg (.Call (.Name "range" p) [a] [] pos) (zsR1 ta) :=
  piI (pi_range1 hg hm ha hs) fun σ H R ⟨ρ, h, Rz, rs, rh, t, k⟩ => ⟨ρ, h, _, rs, rh, t, fun ps h1 t1 vs H1 s1 r1 rh1 => by
    split at t1
    · obtain ⟨v, rfl, q⟩ := rvs_one r1
      cases q
      exact ⟨_, rfl, t1.1, t1.2.1, k _ _ t1.2.2 _ _ s1 rh1 cor_rng⟩
    · exact False.elim t1⟩
theorem qi_r2 {p : Pos} (hg : Gl X "range") (hm : X.mg "range" = none) (ha : QA X [a, b] ta) (hs : starEach [a, b] X.env = [(false, eval a X.env), (false, eval b X.env)]) (hs2 : starEach [b] X.env = [(false, eval b X.env)]) : QI X tg (.Call (.Name "range" p) [a, b] [] pos) (zsR2 ta) :=
  piI (pi_range2 hg hm ha hs hs2) fun σ H R ⟨ρ, h, Rz, rs, rh, t, k⟩ => ⟨ρ, h, _, rs, rh, t, fun ps h1 t1 vs H1 s1 r1 rh1 => by
    split at t1
    · obtain ⟨v, u, rfl, q, q2⟩ := rvs_two r1
      cases q; cases q2
      exact ⟨_, _, rfl, t1.1, k _ _ t1.2 _ _ s1 rh1 cor_rng⟩
    · exact False.elim t1⟩
/-! ### for -/
def zFor (wz : ZSrc) (g : ZG) (tb : ZS) : ZS := fun D ρ h => wz ρ h fun Z h1 => ∃ W : Nat → Nat → Ev → PH → Prop, (∃ m, W 0 m ρ h1) ∧ ∀ i m ρ h, W i m ρ h →
  (Z.stop i h ∧ D.nx ρ h) ∨ (Z.go i h ∧ ∃ N : Ev → PH → Prop, (∀ ρ' h', N ρ' h' → ∃ m' h2, m' < m ∧ Sub h2 h' ∧ W (i + 1) m' ρ' h2) ∧ ∀ p, Z.yld i h p → g p ρ h fun ρ2 h2 => tb { D with nx := N, ct := N, bk := D.nx } ρ2 h2)
theorem qs_for {iter : Expr} {body : List Stmt} {wz : ZSrc} {g : ZG} {tb : ZS} (hp : PassesOwn (model X.prog X.w) X.A X.env X.xe) (hc : X.calm = true) (hi : QI X tg iter wz) (hg : QG X tg g) (hb : QSs X body tb) (hs : ∀ x, foldedSetIterable iter X.env x = pure x) :
    QS X (.For tg iter body [] pos) (zFor wz g tb) := psI (ps_for hp hc hi hg hb hs) fun D σ H ⟨ρ, h, Zd, rs, rh, t, k⟩ => ⟨ρ, h, _, rs, rh, t, fun Z h1 t1 J H1 s1 rh1 cor => by
  obtain ⟨W, ⟨m0, w0⟩, turn⟩ := t1
  refine ⟨fun i m σ' H' => ∃ ρ' h', RS X.K H' σ' ρ' ∧ RH X.prog X.w X.K H' h' ∧ Stp h1 H1 h' H' ∧ W i m ρ' h', ⟨m0, ρ, h1, rs.stp rh s1, rh1, Stp.refl _ _, w0⟩, ?_⟩
  rintro i m σ2 H2 ⟨ρ2, h2, rs2, rh2, s2, w2⟩
  obtain ⟨c1, c2, c3⟩ := cor i h2 H2 s2 rh2
  rcases turn i m ρ2 h2 w2 with ⟨st, q⟩ | ⟨go, N, hN, step⟩
  · exact .inl ⟨c2 st, k.nx _ _ q _ _ (s1.trans s2) rs2 rh2⟩
  · refine .inr ⟨c1 go, fun σ' H' => ∃ ρ' h', RS X.K H' σ' ρ' ∧ RH X.prog X.w X.K H' h' ∧ Stp h1 H1 h' H' ∧ N ρ' h', ?_, fun x H3 y => ?_⟩
    · rintro σ' H' ⟨ρ', h', rs', rh', s', n'⟩
      obtain ⟨m', h3, hm, u, w'⟩ := hN ρ' h' n'
      exact ⟨m', hm, ρ', h3, rs', rh'.sub u, stp_sub s' u, w'⟩
    · obtain ⟨p, y1, s3, rx, rh3⟩ := c3 go x H3 y
      have s123 := (s1.trans s2).trans s3
      refine ⟨p, ρ2, h2, _, rx, rs2.stp rh2 s3, rh3, step p y1, fun ρ4 h4 q4 σ4 H4 s4 rs4 rh4 => ⟨ρ4, h4, _, rs4, rh4, q4, ?_⟩⟩
      have sA := s123.trans s4
      have sB := (s2.trans s3).trans s4
      have nn : ThnS X.prog X.w X.K h4 H4 N (fun σ' H' => ∃ ρ' h', RS X.K H' σ' ρ' ∧ RH X.prog X.w X.K H' h' ∧ Stp h1 H1 h' H' ∧ N ρ' h') := fun ρ' h' q σ' H' s rs' rh' => ⟨ρ', h', rs', rh', sB.trans s, q⟩
      exact ⟨nn, k.rt.later sA, k.nx.later sA, nn⟩⟩
/-- the loop over what is known ahead, turn by turn -/
def forV (g : ZG) (tb : ZS) (D : ZEnds) : List PV → Ev → PH → Prop
  | [], ρ, h => D.nx ρ h
  | p :: ps, ρ, h => g p ρ h fun ρ2 h2 => tb { D with nx := fun ρ' h' => ∃ h2, Sub h2 h' ∧ forV g tb D ps ρ' h2, ct := fun ρ' h' => ∃ h2, Sub h2 h' ∧ forV g tb D ps ρ' h2, bk := D.nx } ρ2 h2
theorem for_vals {g : ZG} {tb : ZS} {D : ZEnds} {ps : List PV} {ρ : Ev} {h : PH} (x : forV g tb D ps ρ h) :
    ∃ W : Nat → Nat → Ev → PH → Prop, (∃ m, W 0 m ρ h) ∧ ∀ i m ρ h, W i m ρ h → ((ZitV ps).stop i h ∧ D.nx ρ h) ∨ ((ZitV ps).go i h ∧ ∃ N : Ev → PH → Prop, (∀ ρ' h', N ρ' h' → ∃ m' h2, m' < m ∧ Sub h2 h' ∧ W (i + 1) m' ρ' h2) ∧
      ∀ p, (ZitV ps).yld i h p → g p ρ h fun ρ2 h2 => tb { D with nx := N, ct := N, bk := D.nx } ρ2 h2) := by
  refine ⟨fun i m ρ h => m = ps.length - i ∧ i ≤ ps.length ∧ forV g tb D (ps.drop i) ρ h, ⟨ps.length, by simp, Nat.zero_le _, x⟩, ?_⟩
  rintro i m ρ h ⟨rfl, hi, q⟩
  by_cases hlt : i < ps.length
  · refine .inr ⟨hlt, fun ρ' h' => ∃ h2, Sub h2 h' ∧ forV g tb D (ps.drop (i + 1)) ρ' h2, fun ρ' h' ⟨h2, u, n⟩ => ⟨ps.length - (i + 1), h2, by omega, u, rfl, hlt, n⟩, fun p y => ?_⟩
    have e : ps[i]? = some p := y
    rw [List.drop_eq_getElem_cons hlt] at q
    rw [List.getElem?_eq_getElem hlt] at e
    cases e
    exact q
  · have e : i = ps.length := by omega
    subst e
    rw [List.drop_length] at q
    exact .inl ⟨Nat.le_refl _, q⟩
/-- .. over a range -/
theorem for_rng {g : ZG} {tb : ZS} {D : ZEnds} {lo : Int} {n : Nat} {ρ : Ev} {h : PH} (x : forV g tb D ((List.range n).map fun i : Nat => PV.int (lo + (i : Int))) ρ h) :
    ∃ W : Nat → Nat → Ev → PH → Prop, (∃ m, W 0 m ρ h) ∧ ∀ i m ρ h, W i m ρ h → ((ZitR lo n).stop i h ∧ D.nx ρ h) ∨ ((ZitR lo n).go i h ∧ ∃ N : Ev → PH → Prop, (∀ ρ' h', N ρ' h' → ∃ m' h2, m' < m ∧ Sub h2 h' ∧ W (i + 1) m' ρ' h2) ∧
      ∀ p, (ZitR lo n).yld i h p → g p ρ h fun ρ2 h2 => tb { D with nx := N, ct := N, bk := D.nx } ρ2 h2) := by
  obtain ⟨W, w0, turn⟩ := for_vals x
  refine ⟨W, w0, fun i m ρ h w => ?_⟩
  rcases turn i m ρ h w with ⟨a, b⟩ | ⟨a, N, b, c⟩
  · exact .inl ⟨by simpa [ZitV, ZitR] using a, b⟩
  · have a' : i < n := by simpa [ZitV] using a
    exact .inr ⟨a', N, b, fun p y => c p (by
      have y' : p = .int (lo + i) := y
      subst y'
      simp [ZitV, a'])⟩
/-- .. over a list that the body leaves as it is: it is asked at each turn -/
def forL (g : ZG) (tb : ZS) (D : ZEnds) (a : Addr) (all : List PV) : List PV → Ev → PH → Prop
  | [], ρ, h => h a = some (.lst all) ∧ D.nx ρ h
  | p :: ps, ρ, h => h a = some (.lst all) ∧ g p ρ h fun ρ2 h2 => tb { D with nx := fun ρ' h' => ∃ h2, Sub h2 h' ∧ forL g tb D a all ps ρ' h2, ct := fun ρ' h' => ∃ h2, Sub h2 h' ∧ forL g tb D a all ps ρ' h2, bk := D.nx } ρ2 h2
theorem for_list {g : ZG} {tb : ZS} {D : ZEnds} {a : Addr} {ps : List PV} {ρ : Ev} {h : PH} (x : forL g tb D a ps ps ρ h) :
    ∃ W : Nat → Nat → Ev → PH → Prop, (∃ m, W 0 m ρ h) ∧ ∀ i m ρ h, W i m ρ h → ((ZitL a).stop i h ∧ D.nx ρ h) ∨ ((ZitL a).go i h ∧ ∃ N : Ev → PH → Prop, (∀ ρ' h', N ρ' h' → ∃ m' h2, m' < m ∧ Sub h2 h' ∧ W (i + 1) m' ρ' h2) ∧
      ∀ p, (ZitL a).yld i h p → g p ρ h fun ρ2 h2 => tb { D with nx := N, ct := N, bk := D.nx } ρ2 h2) := by
  refine ⟨fun i m ρ h => m = ps.length - i ∧ i ≤ ps.length ∧ forL g tb D a ps (ps.drop i) ρ h, ⟨ps.length, by simp, Nat.zero_le _, x⟩, ?_⟩
  rintro i m ρ h ⟨rfl, hi, q⟩
  by_cases hlt : i < ps.length
  · rw [List.drop_eq_getElem_cons hlt] at q
    refine .inr ⟨⟨ps, _, q.1, List.getElem?_eq_getElem hlt⟩, fun ρ' h' => ∃ h2, Sub h2 h' ∧ forL g tb D a ps (ps.drop (i + 1)) ρ' h2, fun ρ' h' ⟨h2, u, n⟩ => ⟨ps.length - (i + 1), h2, by omega, u, rfl, hlt, n⟩, fun p y => ?_⟩
    have e := y ps q.1
    rw [List.getElem?_eq_getElem hlt] at e
    cases e
    exact q.2
  · have e : i = ps.length := by omega
    subst e
    rw [List.drop_length] at q
    exact .inl ⟨⟨ps, q.1, Nat.le_refl _⟩, q.2⟩
/-- .. over the keys of a locked dict -/
def forK (g : ZG) (tb : ZS) (D : ZEnds) (a : Addr) (o : PO) : List PV → Ev → PH → Prop
  | [], ρ, h => h a = some o ∧ D.nx ρ h
  | p :: ps, ρ, h => h a = some o ∧ g p ρ h fun ρ2 h2 => tb { D with nx := fun ρ' h' => ∃ h2, Sub h2 h' ∧ forK g tb D a o ps ρ' h2, ct := fun ρ' h' => ∃ h2, Sub h2 h' ∧ forK g tb D a o ps ρ' h2, bk := D.nx } ρ2 h2
theorem for_keys {g : ZG} {tb : ZS} {D : ZEnds} {a : Addr} {t : Bool} {lk : Obj × HO} {kvs : List (PV × PV)} {ρ : Ev} {h : PH} (x : forK g tb D a (.dic t (some lk) kvs) (kvs.map Prod.fst) ρ h) :
    ∃ W : Nat → Nat → Ev → PH → Prop, (∃ m, W 0 m ρ h) ∧ ∀ i m ρ h, W i m ρ h → ((ZitK a t lk kvs).stop i h ∧ D.nx ρ h) ∨ ((ZitK a t lk kvs).go i h ∧ ∃ N : Ev → PH → Prop, (∀ ρ' h', N ρ' h' → ∃ m' h2, m' < m ∧ Sub h2 h' ∧ W (i + 1) m' ρ' h2) ∧
      ∀ p, (ZitK a t lk kvs).yld i h p → g p ρ h fun ρ2 h2 => tb { D with nx := N, ct := N, bk := D.nx } ρ2 h2) := by
  refine ⟨fun i m ρ h => m = kvs.length - i ∧ i ≤ kvs.length ∧ forK g tb D a (.dic t (some lk) kvs) ((kvs.map Prod.fst).drop i) ρ h, ⟨kvs.length, by simp, Nat.zero_le _, x⟩, ?_⟩
  rintro i m ρ h ⟨rfl, hi, q⟩
  by_cases hlt : i < kvs.length
  · have hlt' : i < (kvs.map Prod.fst).length := by simpa using hlt
    rw [List.drop_eq_getElem_cons hlt'] at q
    refine .inr ⟨⟨q.1, hlt⟩, fun ρ' h' => ∃ h2, Sub h2 h' ∧ forK g tb D a (.dic t (some lk) kvs) ((kvs.map Prod.fst).drop (i + 1)) ρ' h2, fun ρ' h' ⟨h2, u, n⟩ => ⟨kvs.length - (i + 1), h2, by omega, u, rfl, hlt, n⟩, fun p y => ?_⟩
    obtain ⟨kv, e, rfl⟩ := y
    rw [List.getElem?_eq_getElem hlt] at e
    cases e
    have q2 := q.2
    rw [List.getElem_map] at q2
    exact q2
  · have e : i = kvs.length := by omega
    subst e
    rw [List.drop_of_length_le (by simp)] at q
    exact .inl ⟨⟨q.1, Nat.le_refl _⟩, q.2⟩
/-! ### locks -/
def zLock (t : ZS) : ZS := fun D ρ h => ∃ a tt kvs, h a = some (.dic tt none kvs) ∧ ∀ lk, t ⟨fun ρ' h' => h' a = some (.dic tt (some lk) kvs) ∧ D.nx ρ' (up h' a (.dic tt none kvs)), fun v h' => h' a = some (.dic tt (some lk) kvs) ∧ D.rt v (up h' a (.dic tt none kvs)),
  fun ρ' h' => h' a = some (.dic tt (some lk) kvs) ∧ D.bk ρ' (up h' a (.dic tt none kvs)), fun ρ' h' => h' a = some (.dic tt (some lk) kvs) ∧ D.ct ρ' (up h' a (.dic tt none kvs))⟩ ρ (up h a (.dic tt (some lk) kvs))
theorem lk_of {P : Program} {w : World} {K : PySem.W.Frag} {h : PH} {H : Hp} {a : Addr} {t : Bool} {kvs : List (PV × PV)} (rh : RH P w K H h) (e : h a = some (.dic t none kvs)) : ∃ u, H a = some u ∧ Mut (some u) ∧ ∀ od, RO P w K (upd H a (.frz od u)) a (.dic t (some (od, u)) kvs) ∧ Stp h H (up h a (.dic t (some (od, u)) kvs)) (upd H a (.frz od u)) := by
  cases t with
  | false =>
    obtain ⟨ds, f1, l1, r⟩ := rh a _ e
    refine ⟨.dK ds, f1, trivial, fun od => ?_⟩
    have st : Stp h H (up h a (.dic false (some (od, .dK ds)) kvs)) (upd H a (.frz od (.dK ds))) := stp_set e
    exact ⟨⟨ds, ⟨rfl, upd_same⟩, l1, Paired.mapP r fun _ _ q => ⟨q.1, q.2.stp rh st⟩⟩, st⟩
  | true =>
    obtain ⟨ds, f1, l1, r⟩ := rh a _ e
    refine ⟨.ext (dphi P w a ds), f1, trivial, fun od => ?_⟩
    have st : Stp h H (up h a (.dic true (some (od, .ext (dphi P w a ds))) kvs)) (upd H a (.frz od (.ext (dphi P w a ds)))) := stp_set e
    exact ⟨⟨ds, ⟨rfl, upd_same⟩, l1, Paired.mapP r fun _ _ ⟨c1, c2, c3, v', c4, c5⟩ => ⟨c1, c2, c3.stp rh st, v', c4, c5.stp rh st⟩⟩, st⟩
theorem unlk_of {P : Program} {w : World} {K : PySem.W.Frag} {h : PH} {H : Hp} {a : Addr} {t : Bool} {od : Obj} {u : HO} {kvs : List (PV × PV)} (rh : RH P w K H h) (e : h a = some (.dic t (some (od, u)) kvs)) :
    H a = some (.frz od u) ∧ Stp h H (up h a (.dic t none kvs)) (upd H a u) ∧ RH P w K (upd H a u) (up h a (.dic t none kvs)) := by
  have st : Stp h H (up h a (.dic t none kvs)) (upd H a u) := stp_set e
  cases t with
  | false =>
    obtain ⟨ds, ⟨f1, f2⟩, l1, r⟩ := rh a _ e
    subst f1
    exact ⟨f2, st, rh.put st ⟨ds, upd_same, l1, Paired.mapP r fun _ _ q => ⟨q.1, q.2.stp rh st⟩⟩⟩
  | true =>
    obtain ⟨ds, ⟨f1, f2⟩, l1, r⟩ := rh a _ e
    subst f1
    exact ⟨f2, st, rh.put st ⟨ds, upd_same, l1, Paired.mapP r fun _ _ ⟨c1, c2, c3, v', c4, c5⟩ => ⟨c1, c2, c3.stp rh st, v', c4, c5.stp rh st⟩⟩⟩
theorem qs_lock {st : Stmt} {t : ZS} (hs : QS X st t) : QS X st (zLock t) := psI (ps_lock hs) fun D σ H ⟨ρ, h, Z, rs, rh, ⟨a, tt, kvs, e, q⟩, k⟩ => by
  obtain ⟨u, e1, mu, ro⟩ := lk_of rh e
  refine ⟨a, u, e1, mu, fun od => ?_⟩
  obtain ⟨ro, s0⟩ := ro od
  have rh0 := rh.put s0 ro
  refine ⟨ρ, _, _, rs.stp rh s0, rh0, q (od, u), ⟨fun ρ' h' n σ' H' s rs' rh' => ?_, fun p h' n v H' s r' rh' => ?_, fun ρ' h' n σ' H' s rs' rh' => ?_, fun ρ' h' n σ' H' s rs' rh' => ?_⟩⟩
  · obtain ⟨n1, n2⟩ := n
    obtain ⟨g1, g2, g3⟩ := unlk_of rh' n1
    exact ⟨g1, k.nx _ _ n2 _ _ ((s0.trans s).trans g2) (rs'.stp rh' g2) g3⟩
  · obtain ⟨n1, n2⟩ := n
    obtain ⟨g1, g2, g3⟩ := unlk_of rh' n1
    exact ⟨g1, k.rt _ _ n2 _ _ ((s0.trans s).trans g2) (r'.stp rh' g2) g3⟩
  · obtain ⟨n1, n2⟩ := n
    obtain ⟨g1, g2, g3⟩ := unlk_of rh' n1
    exact ⟨g1, k.bk _ _ n2 _ _ ((s0.trans s).trans g2) (rs'.stp rh' g2) g3⟩
  · obtain ⟨n1, n2⟩ := n
    obtain ⟨g1, g2, g3⟩ := unlk_of rh' n1
    exact ⟨g1, k.ct _ _ n2 _ _ ((s0.trans s).trans g2) (rs'.stp rh' g2) g3⟩
def zLockE (t : ZE) : ZE := fun ρ h Q => ∃ a tt kvs, h a = some (.dic tt none kvs) ∧ ∀ lk, t ρ (up h a (.dic tt (some lk) kvs)) fun v h' => h' a = some (.dic tt (some lk) kvs) ∧ Q v (up h' a (.dic tt none kvs))
theorem qe_lock {e : Expr} {t : ZE} (hs : QE X e t) : QE X e (zLockE t) := peI (pe_lock hs) fun σ H Q ⟨ρ, h, Qp, rs, rh, ⟨a, tt, kvs, e, q⟩, k⟩ => by
  obtain ⟨u, e1, mu, ro⟩ := lk_of rh e
  refine ⟨a, u, e1, mu, fun od => ?_⟩
  obtain ⟨ro, s0⟩ := ro od
  have rh0 := rh.put s0 ro
  refine ⟨ρ, _, _, rs.stp rh s0, rh0, q (od, u), fun p h' n v H' s r' rh' => ?_⟩
  obtain ⟨n1, n2⟩ := n
  obtain ⟨g1, g2, g3⟩ := unlk_of rh' n1
  exact ⟨g1, k _ _ n2 _ _ ((s0.trans s).trans g2) (r'.stp rh' g2) g3⟩
end
end G

namespace G
open PySem PySem.Spec PyProof.Rows L2

/-! ### targets of loops: names, tuples of targets -/
mutual
inductive Tg where
  | nm (i : Nat)
  | tp (ts : Tgs)
inductive Tgs where
  | nil
  | cons (t : Tg) (ts : Tgs)
end
def Tgs.len : Tgs → Nat
  | .nil => 0
  | .cons _ ts => ts.len + 1
mutual
def Tg.z : Tg → ZG
  | .nm i => zgName i
  | .tp ts => zgTup ts.len (Tgs.z ts)
def Tgs.z : Tgs → ZGs
  | .nil => zgNil
  | .cons t ts => zgCons (Tg.z t) (Tgs.z ts)
end
mutual
def Tg.t (K : PySem.W.Frag) : Tg → TG
  | .nm i => gName i
  | .tp ts => gTup K ts.len (Tgs.t K ts)
def Tgs.t (K : PySem.W.Frag) : Tgs → TGs
  | .nil => gNil
  | .cons t ts => gCons (Tg.t K t) (Tgs.t K ts)
end
mutual
def Tg.slots : Tg → List Nat
  | .nm i => [i]
  | .tp ts => Tgs.slots ts
def Tgs.slots : Tgs → List Nat
  | .nil => []
  | .cons t ts => Tg.slots t ++ Tgs.slots ts
end
def zwipe (ρ : Ev) : List Nat → Ev
  | [] => ρ
  | v :: vs => (zwipe ρ vs).set v none
theorem wipe_set {i : Nat} {x : Option V} : ∀ {vs : List Nat} {σ : L2.St}, i ∈ vs → wipe (σ.set i x) vs = wipe σ vs
  | [], _, h => by cases h
  | v :: vs, σ, h => by
    simp only [wipe]
    by_cases hv : i ∈ vs
    · rw [wipe_set hv]
    · rcases List.mem_cons.mp h with rfl | h
      · have : ∀ (us : List Nat) (τ : L2.St), i ∉ us → wipe (τ.set i x) us = (wipe τ us).set i x := by
          intro us
          induction us with
          | nil => intro τ _; rfl
          | cons u us ih =>
            intro τ hn
            simp only [List.mem_cons, not_or] at hn
            simp only [wipe]
            rw [ih τ hn.2, List.set_comm _ _ hn.1]
        rw [this vs σ hv, List.set_set]
      · exact absurd h hv
section
variable {P : Program} {w : World} {K : PySem.W.Frag}
mutual
theorem Tg.ok : ∀ (t : Tg) {v : V} {p : PV} {σ : L2.St} {ρ : Ev} {H : Hp} {h : PH} {Qz : Ev → PH → Prop} {Q : L2.St → Hp → Prop} {vs : List Nat}, (∀ i ∈ t.slots, i ∈ vs) → RV K H v p → RS K H σ ρ → RH P w K H h → t.z p ρ h Qz →
    (∀ ρ' h', Qz ρ' h' → ∀ σ', RS K H σ' ρ' → wipe σ' vs = wipe σ vs → h' = h → Q σ' H) → t.t K v σ H Q
  | .nm i, v, p, σ, ρ, H, h, Qz, Q, vs, hs, rv, rs, rh, z, k => k _ _ z _ (rs.set rv i) (wipe_set (hs i (by simp [Tg.slots]))) rfl
  | .tp ts, v, p, σ, ρ, H, h, Qz, Q, vs, hs, rv, rs, rh, z, k => by
    simp only [Tg.z] at z
    cases p <;> first | (exact False.elim z) | skip
    rename_i ps
    cases rv with
    | tup s l q => exact ⟨_, _, rfl, s, by rw [q.length]; exact z.1, Tgs.ok ts hs q rs rh z.2 k⟩
theorem Tgs.ok : ∀ (t : Tgs) {v : List V} {p : List PV} {σ : L2.St} {ρ : Ev} {H : Hp} {h : PH} {Qz : Ev → PH → Prop} {Q : L2.St → Hp → Prop} {vs : List Nat}, (∀ i ∈ t.slots, i ∈ vs) → RVs K H v p → RS K H σ ρ → RH P w K H h → t.z p ρ h Qz →
    (∀ ρ' h', Qz ρ' h' → ∀ σ', RS K H σ' ρ' → wipe σ' vs = wipe σ vs → h' = h → Q σ' H) → t.t K v σ H Q
  | .nil, v, p, σ, ρ, H, h, Qz, Q, vs, hs, rv, rs, rh, z, k => by
    simp only [Tgs.z, zgNil] at z
    obtain ⟨e, z⟩ := z
    subst e; cases rv
    exact ⟨rfl, k _ _ z _ rs rfl rfl⟩
  | .cons t ts, v, p, σ, ρ, H, h, Qz, Q, vs, hs, rv, rs, rh, z, k => by
    simp only [Tgs.z] at z
    cases rv with
    | nil => exact False.elim z
    | cons r1 r2 =>
      refine ⟨_, _, rfl, Tg.ok t (fun i hi => hs i (by simp [Tgs.slots, hi])) r1 rs rh z fun ρ' h' q' σ' rs' hw e => ?_⟩
      subst e
      refine Tgs.ok ts (fun i hi => hs i (by simp [Tgs.slots, hi])) r2 rs' rh q' fun ρ2 h2 q2 σ2 rs2 hw2 e2 => ?_
      exact k ρ2 h2 q2 σ2 rs2 (hw2.trans hw) e2
end
theorem RS.wipe {H : Hp} {σ : L2.St} {ρ : Ev} (rs : RS K H σ ρ) : ∀ vs : List Nat, RS K H (wipe σ vs) (zwipe ρ vs)
  | [] => rs
  | v :: vs => by
    have ih := RS.wipe rs vs
    simp only [L2.wipe, zwipe]
    refine ⟨by rw [List.length_set, List.length_set]; exact ih.1, fun i p e => ?_⟩
    by_cases hi : v = i
    · subst hi
      by_cases hl : v < (zwipe ρ vs).length
      · rw [List.getElem?_set_self hl] at e; cases e
      · rw [List.getElem?_eq_none (by simpa using hl)] at e; cases e
    · rw [List.getElem?_set_ne hi] at e
      obtain ⟨u, a, b⟩ := ih.2 i p e
      exact ⟨u, by rw [List.getElem?_set_ne hi]; exact a, b⟩
end
abbrev QTs (X : Cx) (ifs : List Expr) (t : ZT) : Prop := PTs X ifs (LT X.prog X.w X.K t)
def ztYes : ZT := fun _ h Q => Q true h
theorem qts_nil {X : Cx} : QTs X [] ztYes := ⟨fun pins s σ H Q I ⟨ρ, h, Qp, rs, rh, t, k⟩ => pts_nil.run pins s σ H Q I (k _ _ t H (Stp.refl _ _) rh)⟩
theorem qts_one {X : Cx} {c : Expr} {t : ZT} (h : QT X c t) : QTs X [c] t := pts_one h

/-! ### list comprehensions -/
def zLc (wz : ZSrc) (g : ZG) (tt : ZT) (te : ZE) (vs : List Nat) : ZE := fun ρ h Q => wz ρ h fun Z h1 => ∃ W : Nat → Nat → List PV → PH → Prop, (∃ m, W 0 m [] h1) ∧ ∀ i m acc h, W i m acc h →
  (Z.stop i h ∧ ∀ D, h D = none → Q (.ref D) (up h D (.lst acc))) ∨ (Z.go i h ∧ acc.length < sizeLine ∧ ∃ Nx : List PV → PH → Prop, (∀ acc' h', Nx acc' h' → ∃ m' h2, m' < m ∧ Sub h2 h' ∧ W (i + 1) m' acc' h2) ∧
    ∀ p, Z.yld i h p → g p (zwipe ρ vs) h fun ρ2 h2 => tt ρ2 h2 fun b h3 => if b = true then te ρ2 h3 fun y h4 => Nx (acc ++ [y]) h4 else Nx acc h3)
section
variable {X : Cx}
theorem sub_free {h h2 : PH} {D : Addr} (u : Sub h2 h) (n : h D = none) : h2 D = none := by
  cases e : h2 D with
  | none => rfl
  | some o => rw [u D o e] at n; cases n
theorem rh_hid {P : Program} {w : World} {K : PySem.W.Frag} {H : Hp} {h : PH} {D : Addr} {us : List V} {acc : List PV} (rh : RH P w K H h) (nD : h D = none) (e : H D = some (.lst us)) (ru : RVs K H us acc) (hl : us.length ≤ sizeLine) : RH P w K H (up h D (.lst acc)) := fun a v ea => by
  by_cases ha : a = D
  · subst ha; rw [up_same] at ea; cases ea; exact ⟨us, e, hl, ru⟩
  · rw [up_ne ha] at ea; exact rh a v ea
theorem rh_hid_put {P : Program} {w : World} {K : PySem.W.Frag} {H : Hp} {h : PH} {D : Addr} {us : List V} {acc : List PV} {o : HO} (rh : RH P w K H h) (nD : h D = none) (e : H D = some (.lst us)) (ru : RVs K H us acc) (hl : us.length ≤ sizeLine) : RH P w K (upd H D o) h := fun a v ea => by
  have ha : a ≠ D := fun z => by rw [z, nD] at ea; cases ea
  exact (rh a v ea).keep (rh_hid rh nD e ru hl) (stp_set (u := .lst []) up_same) (upd_ne ha)
/-- the heart: from the trees' reading to the values' -/
theorem le_lc {P : Program} {w : World} {K : PySem.W.Frag} {wz : ZSrc} {t : Tg} {tt : ZT} {te : ZE} {vs : List Nat} {σ : L2.St} {H : Hp} {Q : VK} (hv : ∀ i ∈ t.slots, i ∈ vs) (x : LE P w K (zLc wz t.z tt te vs) σ H Q) :
    tLc (LIs P w K wz) (t.t K) (LT P w K tt) (LE P w K te) vs σ H Q := by
  obtain ⟨ρ, h, Qp, rs, rh, x, k⟩ := x
  refine ⟨ρ, h, _, rs, rh, x, fun Z h1 t1 J H1 s1 rh1 cor D nD => ?_⟩
  obtain ⟨W, ⟨m0, w0⟩, turn⟩ := t1
  have nD1 : h1 D = none := rh1.free nD
  have sD : Stp h1 H1 h1 (upd H1 D (.lst [])) := stp_new0 nD
  -- what holds between turns
  refine ⟨fun i m H2 => ∃ acc us h2, RH P w K H2 h2 ∧ Stp h1 H1 h2 H2 ∧ h2 D = none ∧ H2 D = some (.lst us) ∧ RVs K H2 us acc ∧ us.length ≤ sizeLine ∧ W i m acc h2, ⟨m0, [], [], h1, rh1.new0 nD, sD, nD1, upd_same, .nil, Nat.zero_le _, w0⟩, ?_⟩
  rintro i m H2 ⟨acc, us, h2, rh2, s2, nD2, eD, ru, hl, w2⟩
  have s12 := s1.trans s2
  obtain ⟨c1, c2, c3⟩ := cor i h2 H2 s2 rh2
  rcases turn i m acc h2 w2 with ⟨st, q⟩ | ⟨go, hacc, Nx, hN, step⟩
  · refine .inl ⟨c2 st, ?_⟩
    have s3 : Stp h H (up h2 D (.lst acc)) H2 := fun b o e n => by
      obtain ⟨e1, n1⟩ := s1 b o e n
      obtain ⟨e2, n2⟩ := s2 b o e1 n1
      have hb : b ≠ D := fun z => by rw [z, nD] at e1; cases e1
      exact ⟨e2, by rw [up_ne hb]; exact n2⟩
    exact k _ _ (q D nD2) _ _ s3 (.ref D) (rh_hid rh2 nD2 eD ru hl)
  · refine .inr ⟨c1 go, fun H' => ∃ acc us h2, RH P w K H' h2 ∧ Stp h1 H1 h2 H' ∧ h2 D = none ∧ H' D = some (.lst us) ∧ RVs K H' us acc ∧ us.length ≤ sizeLine ∧ Nx acc h2, ?_, fun x H3 y => ?_⟩
    · rintro H' ⟨acc', us', h', rh', s', n', e', r', l', nx⟩
      obtain ⟨m', h3, hm, u, w'⟩ := hN acc' h' nx
      exact ⟨m', hm, acc', us', h3, rh'.sub u, stp_sub s' u, sub_free u n', e', r', l', w'⟩
    · obtain ⟨p, y1, s3, rx, rh3⟩ := c3 go x H3 y
      have rs3 := ((rs.stp rh s1).stp rh1 s2).stp rh2 s3
      obtain ⟨eD3, _⟩ := s3 D _ eD nD2
      have ru3 := ru.stp rh2 s3
      refine Tg.ok t hv rx (rs3.wipe vs) rh3 (step p y1) fun ρ4 h4 q4 σ4 rs4 hw e4 => ?_
      subst e4
      refine ⟨?_, ρ4, _, _, rs4, rh3, q4, fun b h5 q5 H5 s5 rh5 => ?_⟩
      · rw [hw]
        have idem : ∀ (us : List Nat) (τ : L2.St), wipe (wipe τ us) us = wipe τ us := by
          intro us
          induction us with
          | nil => intro τ; rfl
          | cons u us ih =>
            intro τ
            simp only [wipe]
            by_cases hu : u ∈ us
            · rw [wipe_set hu, ih]
            · have : ∀ (ws : List Nat) (τ : L2.St), u ∉ ws → wipe (τ.set u none) ws = (wipe τ ws).set u none := by
                intro ws
                induction ws with
                | nil => intro τ _; rfl
                | cons z ws ih2 =>
                  intro τ hn
                  simp only [List.mem_cons, not_or] at hn
                  simp only [wipe]
                  rw [ih2 τ hn.2, List.set_comm _ _ hn.1]
              rw [this us _ hu, ih, List.set_set]
        exact idem vs σ
      · obtain ⟨eD5, nD5⟩ := s5 D _ eD3 nD2
        have s125 := (s2.trans s3).trans s5
        cases b with
        | false =>
          rw [if_neg Bool.false_ne_true] at q5 ⊢
          exact ⟨acc, us, h5, rh5, s125, nD5, eD5, ru3.stp rh3 s5, hl, q5⟩
        | true =>
          rw [if_pos rfl] at q5 ⊢
          refine ⟨ρ4, h5, _, rs4.stp rh3 s5, rh5, q5, fun yv h6 q6 v6 H6 s6 r6 rh6 => ?_⟩
          obtain ⟨eD6, nD6⟩ := s6 D _ eD5 nD5
          have hlen : us.length < sizeLine := by rw [ru.length]; exact hacc
          have ru6 := (ru3.stp rh3 s5).stp rh5 s6
          have nD1' : H1 D = none := nD
          refine ⟨us, eD6, hlen, acc ++ [yv], us ++ [v6], h6, rh_hid_put rh6 nD6 eD6 ru6 hl, fun b o e n => ?_, nD6, upd_same, ?_, by rw [List.length_append, List.length_singleton]; omega, q6⟩
          · obtain ⟨e1, n1⟩ := (s125.trans s6) b o e n
            have hb : b ≠ D := fun z => by rw [z, nD1'] at e; cases e
            exact ⟨by rw [upd_ne hb]; exact e1, n1⟩
          · exact (ru6.append (.cons r6 .nil)).stp (rh_hid rh6 nD6 eD6 ru6 hl) (stp_set (u := .lst []) up_same)
end
end G

namespace G
open PySem PySem.Spec PyProof.Rows L2
section
variable {X : Cx}
theorem peI' {X : Cx} {e : Expr} {t t' : TE} (h : PE X e t) (i : ∀ σ H Q, t' σ H Q → t σ H Q) : PE X e t' := peI h i
variable {elt kx vx tg iter : Expr} {ifs : List Expr} {scope : Scope} {own : List (Str × Nat)} {pos spos : Pos} {wz : ZSrc} {t : Tg} {tt : ZT} {te tk tv : ZE}
/-- within the block -/
abbrev InB (X : Cx) (scope : Scope) (M : Cx → Prop) : Prop := ∀ (s : Shared) (H : Hp) (C : Addr) (cl : List (Str × Addr)) (fp : List Addr), M (X.blk s H scope (compEnvC scope cl C X.env) fp)
theorem qe_lc (hc : X.calm = true) (hN : X.N.Nodup) (hi : QI X tg iter wz) (ok : blkC X.N X.env.scope scope own = true) (hv : (t.slots.all fun i => (own.map (·.2)).contains i) = true)
    (hg : InB X scope fun Y => PG Y tg (t.t X.K)) (ht : InB X scope fun Y => QTs Y ifs tt) (he : InB X scope fun Y => QE Y elt te) (hs : ∀ x, foldedSetIterable iter X.env x = pure x) :
    QE X (.ListComp elt [⟨tg, iter, ifs, 0⟩] scope pos) (zLc wz t.z tt te (own.map (·.2))) := by
  have hv' : ∀ i ∈ t.slots, i ∈ own.map (·.2) := fun i hi => by simpa using List.all_eq_true.mp hv i hi
  exact peI (pe_lc (wi := LIs X.prog X.w X.K wz) (g := t.t X.K) (tt := LT X.prog X.w X.K tt) (te := LE X.prog X.w X.K te) hc hN hi (blkOk_by ok) hg ht he hs) fun σ H Q x => le_lc hv' x
theorem le_asg {P : Program} {w : World} {K : PySem.W.Frag} {te : ZE} {i : Nat} {D : Ends} {σ : L2.St} {H : Hp} (x : LS P w K (zAsg te (zgName i)) D σ H) : LE P w K te σ H fun v H1 => D.nx (σ.set i (some v)) H1 := by
  obtain ⟨ρ, h, Z, rs, rh, t, k⟩ := x
  exact ⟨ρ, h, _, rs, rh, t, fun p h1 t1 v H1 s1 r1 rh1 => k.nx _ _ t1 _ _ s1 ((rs.stp rh s1).set r1 i) rh1⟩
theorem qs_setLc {i : Nat} {y : Str} {py : Pos} (hc : X.calm = true) (hN : X.N.Nodup) (hy : X.N[i]? = some y) (hyl : X.env.scope.names.lookup y = some .local)
    (hsw : swapsWith (.ListComp elt [⟨tg, iter, ifs, 0⟩] scope pos) (some (.Name y py)) spos.line X.env = pure true)
    (hi : QI X tg iter wz) (ok : blkC X.N X.env.scope scope own = true) (hv : (t.slots.all fun i => (own.map (·.2)).contains i) = true)
    (hg : InB X scope fun Y => PG Y tg (t.t X.K)) (ht : InB X scope fun Y => QTs Y ifs tt) (he : InB X scope fun Y => QE Y elt te) (hs : ∀ x, foldedSetIterable iter X.env x = pure x) :
    QS X (.Assign [.Name y py] (.ListComp elt [⟨tg, iter, ifs, 0⟩] scope pos) spos) (zAsg (zLc wz t.z tt te (own.map (·.2))) (zgName i)) := by
  have hv' : ∀ i ∈ t.slots, i ∈ own.map (·.2) := fun i hi => by simpa using List.all_eq_true.mp hv i hi
  exact psI (ps_setLc (i := i) (wi := LIs X.prog X.w X.K wz) (g := t.t X.K) (tt := LT X.prog X.w X.K tt) (te := LE X.prog X.w X.K te) hc hN hy hyl hsw hi (blkOk_by ok) hg ht he hs) fun D σ H x => le_lc hv' (le_asg x)

/-! ### dict comprehensions, the keys whole numbers or texts -/
def zDc (wz : ZSrc) (g : ZG) (tt : ZT) (tk tv : ZE) (vs : List Nat) : ZE := fun ρ h Q => wz ρ h fun Z h1 => ∃ W : Nat → Nat → List (PV × PV) → PH → Prop, (∃ m, W 0 m [] h1) ∧ ∀ i m acc h, W i m acc h →
  (Z.stop i h ∧ ∀ D, h D = none → Q (.ref D) (up h D (.dic false none acc))) ∨ (Z.go i h ∧ acc.length < sizeLine ∧ ∃ Nx : List (PV × PV) → PH → Prop, (∀ acc' h', Nx acc' h' → ∃ m' h2, m' < m ∧ Sub h2 h' ∧ W (i + 1) m' acc' h2) ∧
    ∀ p, Z.yld i h p → g p (zwipe ρ vs) h fun ρ2 h2 => tt ρ2 h2 fun b h3 => if b = true then tk ρ2 h3 fun y h4 => tv ρ2 h4 fun z h5 => y.leaf = true ∧ Nx (dput acc y z) h5 else Nx acc h3)
theorem wipe_idem (vs : List Nat) (τ : L2.St) : wipe (wipe τ vs) vs = wipe τ vs := by
  induction vs generalizing τ with
  | nil => rfl
  | cons u us ih =>
    simp only [wipe]
    by_cases hu : u ∈ us
    · rw [wipe_set hu, ih]
    · have : ∀ (ws : List Nat) (τ : L2.St), u ∉ ws → wipe (τ.set u none) ws = (wipe τ ws).set u none := by
        intro ws
        induction ws with
        | nil => intro τ _; rfl
        | cons z ws ih2 =>
          intro τ hn
          simp only [List.mem_cons, not_or] at hn
          simp only [wipe]
          rw [ih2 τ hn.2, List.set_comm _ _ hn.1]
      rw [this us _ hu, ih, List.set_set]
theorem rh_hidD {P : Program} {w : World} {K : PySem.W.Frag} {H : Hp} {h : PH} {D : Addr} {ds : List (Key × V)} {acc : List (PV × PV)} (rh : RH P w K H h) (nD : h D = none) (e : H D = some (.dK ds)) (ru : Paired (EntK K H) acc ds) (hl : acc.length ≤ sizeLine) : RH P w K H (up h D (.dic false none acc)) := fun a v ea => by
  by_cases ha : a = D
  · subst ha; rw [up_same] at ea; cases ea; exact ⟨ds, e, hl, ru⟩
  · rw [up_ne ha] at ea; exact rh a v ea
theorem rh_hidD_put {P : Program} {w : World} {K : PySem.W.Frag} {H : Hp} {h : PH} {D : Addr} {ds : List (Key × V)} {acc : List (PV × PV)} {o : HO} (rh : RH P w K H h) (nD : h D = none) (e : H D = some (.dK ds)) (ru : Paired (EntK K H) acc ds) (hl : acc.length ≤ sizeLine) : RH P w K (upd H D o) h := fun a v ea => by
  have ha : a ≠ D := fun z => by rw [z, nD] at ea; cases ea
  exact (rh a v ea).keep (rh_hidD rh nD e ru hl) (stp_set (u := .lst []) up_same) (upd_ne ha)
theorem ents_stp {P : Program} {w : World} {K : PySem.W.Frag} {h h' : PH} {H H' : Hp} (rh : RH P w K H h) (s : Stp h H h' H') {acc : List (PV × PV)} {ds : List (Key × V)} (r : Paired (EntK K H) acc ds) : Paired (EntK K H') acc ds :=
  Paired.mapP r fun _ _ z => ⟨z.1, z.2.stp rh s⟩
theorem le_dc {P : Program} {w : World} {K : PySem.W.Frag} {vs : List Nat} {σ : L2.St} {H : Hp} {Q : VK} (hv : ∀ i ∈ t.slots, i ∈ vs) (x : LE P w K (zDc wz t.z tt tk tv vs) σ H Q) :
    tDc (LIs P w K wz) (t.t K) (LT P w K tt) (LE P w K tk) (LE P w K tv) vs σ H Q := by
  obtain ⟨ρ, h, Qp, rs, rh, x, k⟩ := x
  refine ⟨ρ, h, _, rs, rh, x, fun Z h1 t1 J H1 s1 rh1 cor D nD => ?_⟩
  obtain ⟨W, ⟨m0, w0⟩, turn⟩ := t1
  have nD1 : h1 D = none := rh1.free nD
  have sD : Stp h1 H1 h1 (upd H1 D (.dK [])) := stp_new0 nD
  refine ⟨fun i m H2 => ∃ acc us h2, RH P w K H2 h2 ∧ Stp h1 H1 h2 H2 ∧ h2 D = none ∧ H2 D = some (.dK us) ∧ Paired (EntK K H2) acc us ∧ acc.length ≤ sizeLine ∧ W i m acc h2, ⟨m0, [], [], h1, rh1.new0 nD, sD, nD1, upd_same, .nil, Nat.zero_le _, w0⟩, ?_⟩
  rintro i m H2 ⟨acc, us, h2, rh2, s2, nD2, eD, ru, hl, w2⟩
  have s12 := s1.trans s2
  obtain ⟨c1, c2, c3⟩ := cor i h2 H2 s2 rh2
  rcases turn i m acc h2 w2 with ⟨st, q⟩ | ⟨go, hacc, Nx, hN, step⟩
  · refine .inl ⟨c2 st, ?_⟩
    have s3 : Stp h H (up h2 D (.dic false none acc)) H2 := fun b o e n => by
      obtain ⟨e1, n1⟩ := s1 b o e n
      obtain ⟨e2, n2⟩ := s2 b o e1 n1
      have hb : b ≠ D := fun z => by rw [z, nD] at e1; cases e1
      exact ⟨e2, by rw [up_ne hb]; exact n2⟩
    exact k _ _ (q D nD2) _ _ s3 (.ref D) (rh_hidD rh2 nD2 eD ru hl)
  · refine .inr ⟨c1 go, fun H' => ∃ acc us h2, RH P w K H' h2 ∧ Stp h1 H1 h2 H' ∧ h2 D = none ∧ H' D = some (.dK us) ∧ Paired (EntK K H') acc us ∧ acc.length ≤ sizeLine ∧ Nx acc h2, ?_, fun x H3 y => ?_⟩
    · rintro H' ⟨acc', us', h', rh', s', n', e', r', l', nx⟩
      obtain ⟨m', h3, hm, u, w'⟩ := hN acc' h' nx
      exact ⟨m', hm, acc', us', h3, rh'.sub u, stp_sub s' u, sub_free u n', e', r', l', w'⟩
    · obtain ⟨p, y1, s3, rx, rh3⟩ := c3 go x H3 y
      have rs3 := ((rs.stp rh s1).stp rh1 s2).stp rh2 s3
      obtain ⟨eD3, _⟩ := s3 D _ eD nD2
      have ru3 := ents_stp rh2 s3 ru
      refine Tg.ok t hv rx (rs3.wipe vs) rh3 (step p y1) fun ρ4 h4 q4 σ4 rs4 hw e4 => ?_
      subst e4
      refine ⟨?_, ρ4, _, _, rs4, rh3, q4, fun b h5 q5 H5 s5 rh5 => ?_⟩
      · rw [hw]; exact wipe_idem vs σ
      · obtain ⟨eD5, nD5⟩ := s5 D _ eD3 nD2
        have s125 := (s2.trans s3).trans s5
        have ru5 := ents_stp rh3 s5 ru3
        cases b with
        | false =>
          rw [if_neg Bool.false_ne_true] at q5 ⊢
          exact ⟨acc, us, h5, rh5, s125, nD5, eD5, ru5, hl, q5⟩
        | true =>
          rw [if_pos rfl] at q5 ⊢
          refine ⟨ρ4, h5, _, rs4.stp rh3 s5, rh5, q5, fun yk h6 q6 v6 H6 s6 r6 rh6 => ⟨ρ4, h6, _, (rs4.stp rh3 s5).stp rh5 s6, rh6, q6, fun yv h7 q7 v7 H7 s7 r7 rh7 => ?_⟩⟩
          obtain ⟨eD6, nD6⟩ := s6 D _ eD5 nD5
          obtain ⟨eD7, nD7⟩ := s7 D _ eD6 nD6
          have ru7 := ents_stp rh6 s7 (ents_stp rh5 s6 ru5)
          have nD1' : H1 D = none := nD
          obtain ⟨hk, q7⟩ := q7
          have st0 : Stp (up h7 D (.dic false none acc)) H7 (up (up h7 D (.dic false none acc)) D (.lst [])) (upd H7 D (.dK (putK us (keyOf yk) v7))) := stp_set up_same
          refine ⟨us, keyOf yk, kV_of hk (r6.stp rh6 s7), eD7, by rw [← paired_len ru7]; exact hacc, dput acc yk yv, _, h7, rh_hidD_put rh7 nD7 eD7 ru7 hl, fun b o e n => ?_, nD7, upd_same, ?_, by have := len_dput acc yk yv; omega, q7⟩
          · obtain ⟨e1, n1⟩ := ((s125.trans s6).trans s7) b o e n
            have hb : b ≠ D := fun z => by rw [z, nD1'] at e; cases e
            exact ⟨by rw [upd_ne hb]; exact e1, n1⟩
          · exact ents_stp (rh_hidD rh7 nD7 eD7 ru7 hl) st0 (ent_putK hk r7 ru7)
theorem qe_dc (hc : X.calm = true) (hN : X.N.Nodup) (hi : QI X tg iter wz) (ok : blkC X.N X.env.scope scope own = true) (hv : (t.slots.all fun i => (own.map (·.2)).contains i) = true)
    (hg : InB X scope fun Y => PG Y tg (t.t X.K)) (ht : InB X scope fun Y => QTs Y ifs tt) (hk : InB X scope fun Y => QE Y kx tk) (he : InB X scope fun Y => QE Y vx tv) (hs : ∀ x, foldedSetIterable iter X.env x = pure x) :
    QE X (.DictComp kx vx [⟨tg, iter, ifs, 0⟩] scope pos) (zDc wz t.z tt tk tv (own.map (·.2))) := by
  have hv' : ∀ i ∈ t.slots, i ∈ own.map (·.2) := fun i hi => by simpa using List.all_eq_true.mp hv i hi
  exact peI (pe_dc (wi := LIs X.prog X.w X.K wz) (g := t.t X.K) (tt := LT X.prog X.w X.K tt) (tk := LE X.prog X.w X.K tk) (tv := LE X.prog X.w X.K tv) hc hN hi (blkOk_by ok) hg ht hk he hs) fun σ H Q x => le_dc hv' x
theorem ps_setDc {i : Nat} {y : Str} {py : Pos} {wi : TI} {g : TG} {tt : TT} {tk tv : TE} (hc : X.calm = true) (hN : X.N.Nodup) (hy : X.N[i]? = some y) (hyl : X.env.scope.names.lookup y = some .local)
    (hsw : swapsWith (.DictComp kx vx [⟨tg, iter, ifs, 0⟩] scope pos) (some (.Name y py)) spos.line X.env = pure true) (hi : PI X tg iter wi) (ok : BlkOk X.N X.env.scope scope own)
    (hg : InB X scope fun Y => PG Y tg g) (ht : InB X scope fun Y => PTs Y ifs tt) (hk : InB X scope fun Y => PE Y kx tk) (he : InB X scope fun Y => PE Y vx tv) (hs : ∀ x, foldedSetIterable iter X.env x = pure x) :
    PS X (.Assign [.Name y py] (.DictComp kx vx [⟨tg, iter, ifs, 0⟩] scope pos) spos) (tAsg (tDc wi g tt tk tv (own.map (·.2))) (gName i)) := by
  refine ⟨fun pins s σ H D I h => ?_⟩
  rw [exec_Assign_Name_used _ _ _ _ hsw]
  refine wpAny_bind (wpAny_standAt (wpAny_bind ?_))
  show wpAny _ X.A (do let _ ← comprehension (.DictComp kx vx [⟨tg, iter, ifs, 0⟩] scope pos) scope X.env (firstIterPos [⟨tg, iter, ifs, 0⟩] pos) newDict false (eval iter X.env) (some (assign (.Name y py) X.env))) _ _ s
  have h : tDc wi g tt tk tv (own.map (·.2)) σ H (fun x H1 => gName i x σ H1 D.nx) := h
  refine wpAny_bind (thn (dc_core (Qf := fun _ s' => SP X pins D .next s') hc hN I hi ok hg ht hk he hs h fun L C s' m H' I' q hn f => ?_) fun _ s' hq => wpAny_pure (wpAny_pure hq))
  show wpAny _ _ (assign (.Name y py) X.env (.ref L)) _ _ _
  refine wpAny_assign_Name (store_ok2 (v := V.ref L) I' hN hy (.inl hyl) rfl (fun s2 I2 ⟨a, sb, ha⟩ => ?_) (.inr hyl))
  obtain ⟨f0, f1, f2, f3, f4, f5⟩ := f
  have haC : C ≠ a := by
    rcases ha with z | z
    · rw [z]; exact f1
    · exact fun e => f4 y a z e.symm
  refine ⟨m, hn.sameBut sb haC, fun h3 sb3 => ?_⟩
  exact ⟨_, H', I2.turned (t' := s2.toks) (fun b o hb e => (sb3.2 b hb).trans e) f0 f1 f3 f4 f5, q⟩
theorem sw_trueD {elt elt2 : Expr} {gs : List Comprehension} {scope : Scope} {pos py : Pos} {y : Str} {l : Nat} {env : Env} (hk : env.scope.kind = .function) (hy : env.scope.names.lookup y = some .local) (hl : (py.line == pos.line) = true)
    (ha : (scope.names.any fun (n, k) => n == y && (k == .local || k == .cell)) = false) : swapsWith (.DictComp elt elt2 gs scope pos) (some (.Name y py)) l env = pure true := by
  have ky : env.kindOf y = some .local := hy
  have hb : env.blockKind = .function := by unfold Env.blockKind; rw [hk]; rfl
  unfold swapsWith
  simp only [hb, ky, ha, Expr.pos, hl]
  rfl
theorem qs_setDc {i : Nat} {y : Str} {py : Pos} (hc : X.calm = true) (hN : X.N.Nodup) (hy : X.N[i]? = some y) (hyl : X.env.scope.names.lookup y = some .local)
    (hsw : swapsWith (.DictComp kx vx [⟨tg, iter, ifs, 0⟩] scope pos) (some (.Name y py)) spos.line X.env = pure true)
    (hi : QI X tg iter wz) (ok : blkC X.N X.env.scope scope own = true) (hv : (t.slots.all fun i => (own.map (·.2)).contains i) = true)
    (hg : InB X scope fun Y => PG Y tg (t.t X.K)) (ht : InB X scope fun Y => QTs Y ifs tt) (hk : InB X scope fun Y => QE Y kx tk) (he : InB X scope fun Y => QE Y vx tv) (hs : ∀ x, foldedSetIterable iter X.env x = pure x) :
    QS X (.Assign [.Name y py] (.DictComp kx vx [⟨tg, iter, ifs, 0⟩] scope pos) spos) (zAsg (zDc wz t.z tt tk tv (own.map (·.2))) (zgName i)) := by
  have hv' : ∀ i ∈ t.slots, i ∈ own.map (·.2) := fun i hi => by simpa using List.all_eq_true.mp hv i hi
  exact psI (ps_setDc (i := i) (wi := LIs X.prog X.w X.K wz) (g := t.t X.K) (tt := LT X.prog X.w X.K tt) (tk := LE X.prog X.w X.K tk) (tv := LE X.prog X.w X.K tv) hc hN hy hyl hsw hi (blkOk_by ok) hg ht hk he hs) fun D σ H x => le_dc hv' (le_asg x)

/-! ### {} -/
def zDn : ZE := fun _ h Q => ∃ t, ∀ p, h p = none → Q (.ref p) (up h p (.dic t none []))
theorem qe_dn : QE X (.Dict [] [] pos) zDn := by
  refine ⟨fun pins s σ H Q I ⟨ρ, h, Qp, rs, rh, ⟨t, q⟩, k⟩ => wpAny_Dict_empty ?_⟩
  have n := I.hok.fresh (Nat.le_refl s.heap.objs.size)
  cases t with
  | false =>
    have st : Stp h H (up h s.heap.objs.size (.dic false none [])) (upd H s.heap.objs.size (.dK [])) := stp_new rh n
    exact ⟨.ref s.heap.objs.size, _, I.laid (a := s.heap.objs.size) (o := .dK []) (t' := s.toks) (fun _ _ q => Heap.get?_push_of_some _ q) (Nat.le_refl _) (dk_empty s.heap I.big), rfl,
      k _ _ (q _ (rh.free n)) _ _ st (.ref _) (rh.put st ⟨[], (show LkAt _ _ none _ from upd_same), Nat.zero_le _, .nil⟩)⟩
  | true =>
    have st : Stp h H (up h s.heap.objs.size (.dic true none [])) (upd H s.heap.objs.size (.ext (dphi X.prog X.w s.heap.objs.size []))) := stp_new rh n
    refine ⟨.ref s.heap.objs.size, _, I.laid (a := s.heap.objs.size) (o := .ext (dphi X.prog X.w s.heap.objs.size [])) (h' := s.heap.push { cls := .type "dict", data := .dict #[] }) (t' := s.toks) (fun _ _ q => Heap.get?_push_of_some _ q) (Nat.le_refl _) ?_, rfl,
      k _ _ (q _ (rh.free n)) _ _ st (.ref _) (rh.put st ⟨[], (show LkAt _ _ none _ from upd_same), Nat.zero_le _, .nil⟩)⟩
    refine ⟨⟨beq_eq_false_iff_ne.mpr (Ne.symm (Nat.ne_of_lt I.big)), Nat.zero_le _, _, #[], 0, Heap.get?_push_size _ rfl, ⟨rfl, rfl, rfl⟩, rfl, rfl, List.nodup_nil⟩, ⟨_, Heap.get?_push_size _ rfl⟩, fun h1 h2 ⟨c1, c2, o1, es1, ep1, c3, c4⟩ hk => ⟨c1, c2, o1, es1, ep1, hk o1 c3, c4⟩⟩
end
end G

namespace G
open PySem PySem.Spec PyProof.Rows L2

/-! ### {k: v, ..} -/
def zPairs : List (ZE × ZE) → Ev → PH → (List (PV × PV) → PH → Prop) → Prop
  | [], _, h, Q => Q [] h
  | (tk, tv) :: r, ρ, h, Q => tk ρ h fun x h1 => tv ρ h1 fun y h2 => zPairs r ρ h2 fun ps h3 => Q ((x, y) :: ps) h3
def dputs (kvs more : List (PV × PV)) : List (PV × PV) := more.foldl (fun acc kv => dput acc kv.1 kv.2) kvs
def zDisp (trs : List (ZE × ZE)) : ZE := fun ρ h Q => zPairs trs ρ h fun ps h2 => (ps.all fun kv => kv.1.leaf) = true ∧ ∀ p, h2 p = none → Q (.ref p) (up h2 p (.dic false none (dputs [] ps)))
section
variable {P : Program} {w : World} {K : PySem.W.Frag}
abbrev RPs (K : PySem.W.Frag) (H : Hp) : List (PV × PV) → List (V × V) → Prop := Paired fun p v => RV K H v.1 p.1 ∧ RV K H v.2 p.2
theorem RPs.stp {h h' : PH} {H H' : Hp} (rh : RH P w K H h) (s : Stp h H h' H') {ps : List (PV × PV)} {vs : List (V × V)} (r : RPs K H ps vs) : RPs K H' ps vs := Paired.mapP r fun _ _ z => ⟨z.1.stp rh s, z.2.stp rh s⟩
theorem le_pairs : ∀ (trs : List (ZE × ZE)) {σ : L2.St} {H : Hp} {ρ : Ev} {h : PH} {Qp : List (PV × PV) → PH → Prop} {Q : List (V × V) → Hp → Prop}, RS K H σ ρ → RH P w K H h → zPairs trs ρ h Qp →
    (∀ ps h', Qp ps h' → ∀ vs H', Stp h H h' H' → RPs K H' ps vs → RH P w K H' h' → Q vs H') → tPairs (trs.map fun t => (LE P w K t.1, LE P w K t.2)) σ H Q
  | [], σ, H, ρ, h, Qp, Q, rs, rh, t, k => k _ _ t _ _ (Stp.refl _ _) .nil rh
  | (tk, tv) :: r, σ, H, ρ, h, Qp, Q, rs, rh, t, k => ⟨ρ, h, _, rs, rh, t, fun x h1 t1 v1 H1 s1 r1 rh1 => ⟨ρ, h1, _, rs.stp rh s1, rh1, t1, fun y h2 t2 v2 H2 s2 r2 rh2 =>
    le_pairs r ((rs.stp rh s1).stp rh1 s2) rh2 t2 fun ps h' q vs H' s r' rh' => k _ _ q _ _ ((s1.trans s2).trans s) (.cons ⟨(r1.stp rh1 s2).stp rh2 s, r2.stp rh2 s⟩ r') rh'⟩⟩
theorem ents_puts {H : Hp} {ps : List (PV × PV)} {vs : List (V × V)} (q : RPs K H ps vs) : ∀ {acc : List (PV × PV)} {ds : List (Key × V)}, (ps.all fun kv => kv.1.leaf) = true → Paired (EntK K H) acc ds →
    ∃ kvs : List (Key × V), vs = kvs.map (fun kv => (kV kv.1, kv.2)) ∧ Paired (EntK K H) (dputs acc ps) (mergeK ds kvs) := by
  unfold RPs at q
  induction q with
  | nil => intro acc ds _ r; exact ⟨[], rfl, r⟩
  | cons q t ih =>
    rename_i kv v _ _
    intro acc ds hl r
    simp only [List.all_cons, Bool.and_eq_true] at hl
    obtain ⟨kvs, e, r'⟩ := ih (acc := dput acc kv.1 kv.2) (ds := putK ds (keyOf kv.1) v.2) hl.2 (ent_putK hl.1 q.2 r)
    refine ⟨(keyOf kv.1, v.2) :: kvs, ?_, r'⟩
    rw [List.map_cons, ← e, ← kV_of hl.1 q.1]
theorem len_dputs : ∀ (ps acc : List (PV × PV)), (dputs acc ps).length ≤ acc.length + ps.length
  | [], acc => Nat.le_refl _
  | p :: ps, acc => by
    have h1 := len_dputs ps (dput acc p.1 p.2)
    have h2 := len_dput acc p.1 p.2
    show (dputs (dput acc p.1 p.2) ps).length ≤ _
    rw [List.length_cons]; omega
theorem zPairs_len : ∀ (trs : List (ZE × ZE)) {ρ : Ev} {h : PH} {Q : List (PV × PV) → PH → Prop}, True := fun _ _ _ _ => trivial
end
section
variable {X : Cx} {pos : Pos} {keys : List (Option Expr)} {values : List Expr}
abbrev QPs (X : Cx) (pos : Pos) (keys : List (Option Expr)) (values : List Expr) (trs : List (ZE × ZE)) : Prop := PPs X pos keys values (trs.map fun t => (LE X.prog X.w X.K t.1, LE X.prog X.w X.K t.2))
theorem qps_nil : QPs X pos [] [] [] := pps_nil
theorem qps_cons {k v : Expr} {ks : List (Option Expr)} {vs : List Expr} {tk tv : ZE} {trs : List (ZE × ZE)} (hk : QE X k tk) (hv : QE X v tv) (hr : QPs X pos ks vs trs) : QPs X pos (some k :: ks) (v :: vs) ((tk, tv) :: trs) := pps_cons hk hv hr
/-- a display of at most 15 -/
def zDispN (n : Nat) (trs : List (ZE × ZE)) : ZE := fun ρ h Q => zPairs trs ρ h fun ps h2 => ps.length ≤ 15 ∧ (ps.all fun kv => kv.1.leaf) = true ∧ ∀ p, h2 p = none → Q (.ref p) (up h2 p (.dic false none (dputs [] ps)))
theorem qe_disp {trs : List (ZE × ZE)} (h : QPs X pos keys values trs) (hall : keys.all (·.isSome) = true) (hl : keys.length = values.length) (h0 : keys ≠ []) (h15 : keys.length ≤ 15) : QE X (.Dict keys values pos) (zDispN 15 trs) :=
  peI (pe_disp h hall hl h0 h15) fun σ H Q ⟨ρ, h, Qp, rs, rh, t, k⟩ p n => by
    have s0 : Stp h H h (upd H p (.dK [])) := stp_new0 n
    have rh0 := rh.new0 (o := .dK []) n
    refine le_pairs trs (rs.stp rh s0) rh0 t fun ps h' ⟨q15, q1, q2⟩ vs H' s r' rh' => ?_
    obtain ⟨e1, n1⟩ := s p _ upd_same (rh.free n)
    obtain ⟨kvs, e, r''⟩ := ents_puts r' (acc := []) (ds := []) q1 .nil
    have hk : kvs.length = ps.length := by
      have a1 := paired_len r'
      have a2 := congrArg List.length e
      rw [List.length_map] at a2
      omega
    refine ⟨e1, kvs, e, by omega, ?_⟩
    have ln := len_dputs ps []
    have st1 : Stp (up h' p (.dic false none [])) H' (up (up h' p (.dic false none [])) p (.lst [])) (upd H' p (.dK (mergeK [] kvs))) := stp_set up_same
    have rhh : RH X.prog X.w X.K H' (up h' p (.dic false none [])) := rh_hidD rh' n1 e1 .nil (Nat.zero_le _)
    have st2 : Stp h H (up h' p (.dic false none (dputs [] ps))) (upd H' p (.dK (mergeK [] kvs))) := fun b o eb nb => by
      have hb : b ≠ p := fun z => by rw [z, n] at eb; cases eb
      obtain ⟨e2, n2⟩ := (s0.trans s) b o eb nb
      exact ⟨by rw [upd_ne hb]; exact e2, by rw [up_ne hb]; exact n2⟩
    refine k _ _ (q2 p n1) _ _ st2 (.ref p) ?_
    have rz : RH X.prog X.w X.K (upd H' p (.dK (mergeK [] kvs))) h' := rh_hidD_put rh' n1 e1 .nil (Nat.zero_le _)
    refine rh_hidD rz n1 upd_same (ents_stp rhh st1 r'') (by rw [sizeLine_eq]; simp at ln; omega)

/-! ### a module's constant -/
theorem qe_glob {x : Str} {v : V} {u : Value} {p : PV} (hg : Gl X x) (hm : X.mg x = some u) (r : RelV v u) (rv : ∀ H, RV X.K H v p) (hd : (x == ("__debug__" : Str)) = false) : QE X (.Name x pos) (zC p) :=
  peI (pe_glob hg hm r hd) fun σ H Q ⟨ρ, h, Qp, rs, rh, q, k⟩ => k.now rh (rv H) q
end

/-! ### defs of the text -/
/-- what a def's body answers: v behind it, some of the heap forgotten -/
def zFn (n m : Nat) (zb : ZS) : ZC := fun ps h Q => ps.length = m ∧ zb ⟨fun _ h' => ∃ h2, Sub h2 h' ∧ Q .non h2, fun v h' => ∃ h2, Sub h2 h' ∧ Q v h2, fun _ _ => False, fun _ _ => False⟩ (ps.map some ++ List.replicate (n - m) none) h
def spOf (P : Program) (w : World) (K : PySem.W.Frag) (r : ZC) : Sp := fun vs H Q _ => LC P w K r vs H Q
/-- the def x can be called; it does r -/
structure QF (P : Program) (w : World) (K : PySem.W.Frag) (mg : Str → Option Value) (base : Heap) (k : Nat) (x : Str) (n : Nat) (r : ZC) : Prop where
  ex : ∃ (f : Addr) (fd : FuncData) (ps : List Str), FnOk P w K mg base CX0 k f fd ps (spOf P w K r) ∧ mg x = some (.ref f) ∧ PySem.W.keepIn K (.ref f) = true ∧ Binds K fd ps []
theorem rs_start {K : PySem.W.Frag} {H : Hp} {vs : List V} {ps : List PV} (r : RVs K H vs ps) (N : List Str) : RS K H (L2.start N vs) (ps.map some ++ List.replicate (N.length - ps.length) none) := by
  have hl := r.length
  refine ⟨by unfold L2.start; simp [hl], fun i p e => ?_⟩
  by_cases hi : i < ps.length
  · rw [List.getElem?_append_left (by simpa using hi), List.getElem?_map] at e
    obtain ⟨q, e1, e2⟩ := Option.map_eq_some_iff.mp e
    cases e2
    obtain ⟨v, f1, f2⟩ := r.get e1
    refine ⟨v, ?_, f2⟩
    unfold L2.start
    rw [List.getElem?_append_left (by rw [List.length_map, hl]; exact hi), List.getElem?_map, f1]
    rfl
  · rw [List.getElem?_append_right (by simpa using hi), List.getElem?_replicate] at e
    split at e <;> cases e
section
variable {P : Program} {w : World} {K : PySem.W.Frag} {mg : Str → Option Value} {base : Heap}
theorem qf_def {x : Str} {st : Stmt} {f : Addr} {fd : FuncData} {N ps : List Str} {k n m : Nat} {zb : ZS} (F : Fun K x x st f fd) (S : FnScope N ps (defScope st)) (hb : Binds K fd ps []) (hg : mg x = some (.ref f)) (hn : N.length = n) (hm : ps.length = m)
    (body : ∀ (X : Cx), X.prog = P → X.w = w → X.K = K → X.mg = mg → X.base = base → Room k X.A → X.env.scope = defScope st → X.N = N → X.calm = true → (∀ y, X.fn y = true) → X.xe = (fun _ _ => False) → QSs X (defBody st) zb) :
    QF P w K mg base (k + 1) x m (zFn n m zb) := by
  refine ⟨f, fd, ps, F.ok S (fun vs H Q E h => ?_) (fun cdv A outer s H vs Q E hr h => ?_), hg, F.kp, hb⟩
  · obtain ⟨ps', h, Qp, rv, rh, ⟨hz1, hz⟩, kk⟩ := h
    rw [rv.length, hm]; exact hz1
  obtain ⟨ps', h, Qp, rv, rh, ⟨hz1, hz⟩, kk⟩ := h
  refine ⟨_, body _ rfl rfl rfl rfl rfl hr rfl rfl rfl (fun _ => rfl) rfl, _, h, _, rs_start rv N, rh, by rw [hz1, hn]; exact hz, ?_⟩
  refine ⟨fun ρ' h' ⟨h2, u, q⟩ σ' H' s rs rh' => ?_, fun p h' ⟨h2, u, q⟩ v H' s rv rh' => ?_, fun _ _ z => z.elim, fun _ _ z => z.elim⟩
  · exact kk _ _ q _ _ (stp_sub s u) .non (rh'.sub u)
  · exact kk _ _ q _ _ (stp_sub s u) rv (rh'.sub u)
variable {X : Cx} {e : Expr} {es : List Expr} {pos : Pos}
theorem qf_zero {x : Str} {st : Stmt} {f : Addr} {fd : FuncData} {ps : List Str} {m : Nat} (F : Fun K x x st f fd) (hb : Binds K fd ps []) (hg : mg x = some (.ref f)) : QF P w K mg base 0 x m (fun _ _ _ => False) := by
  refine ⟨f, fd, ps, ⟨fun vs H Q E h => ?_, fun A outer s H args us vs Q E hr e0 hb' r h => ?_⟩, hg, F.kp, hb⟩
  · obtain ⟨ps', h, Qp, rv, rh, z, kk⟩ := h; exact z.elim
  · obtain ⟨ps', h, Qp, rv, rh, z, kk⟩ := h; exact z.elim
theorem qe_own {x : Str} {k n : Nat} {r : ZC} {ta : ZA} {p : Pos} (F : QF X.prog X.w X.K X.mg X.base k x n r) (hr : Room k X.A) (hg : Gl X x) (ha : QA X (e :: es) ta)
    (hdb : (x == ("__debug__" : Str)) = false) (he : starEach (e :: es) X.env = (false, eval e X.env) :: starEach es X.env) (hpl : (backTo pos (starEach es X.env)).any (·.1) = false) : QE X (.Call (.Name x p) (e :: es) [] pos) (zCall r ta) := by
  obtain ⟨f, fd, ps, F, hm, kp, hb⟩ := F.ex
  exact peI (pe_call (E := E0) F hr hg hm kp hb .nil pass0 ha hdb he hpl) fun σ H Q ⟨ρ, h, Qp, rs, rh, t, k⟩ => ⟨ρ, h, _, rs, rh, t, fun ps' h1 t1 vs H1 s1 r1 rh1 => by
    show spOf X.prog X.w X.K r (vs ++ []) H1 Q E0
    rw [List.append_nil]
    exact ⟨ps', h1, Qp, r1, rh1, t1, k.later s1⟩⟩
theorem qe_own0 {x : Str} {k : Nat} {r : ZC} {p : Pos} (F : QF X.prog X.w X.K X.mg X.base k x 0 r) (hr : Room k X.A) (hg : Gl X x) (hdb : (x == ("__debug__" : Str)) = false) : QE X (.Call (.Name x p) [] [] pos) (zCall r zaNil) := by
  obtain ⟨f, fd, ps, F, hm, kp, hb⟩ := F.ex
  exact peI (pe_call0 (E := E0) F hr hg hm kp hb .nil pass0 hdb) fun σ H Q ⟨ρ, h, Qp, rs, rh, t, k⟩ => ⟨[], h, Qp, .nil, rh, t, k⟩
end
end G

namespace G
open PySem PySem.Spec PyProof.Rows L2

/-! ### the order of trees -/
mutual
def PV.lt? : PV → PV → Option Bool
  | .int a, .int b => some (decide (a < b))
  | .str x, .str y => some (decide (x < y))
  | .tup xs, .tup ys => PV.lts? xs ys
  | _, _ => none
def PV.lts? : List PV → List PV → Option Bool
  | [], ys => some (!ys.isEmpty)
  | _ :: _, [] => some false
  | x :: xs, y :: ys => if x = y then PV.lts? xs ys else PV.lt? x y
end
def tkc : List Nat → List Int
  | [] => [0]
  | c :: cs => ((c : Int) + 1) :: tkc cs
mutual
def PV.tk : PV → List Int
  | .int i => [0, i]
  | .str x => 1 :: tkc x
  | .tup xs => 2 :: PV.tks xs
  | .non => [3]
  | _ => [4]
def PV.tks : List PV → List Int
  | [] => [0]
  | x :: xs => 1 :: (PV.tk x ++ PV.tks xs)
end
/-- p ahead of q -/
def PV.o (p q : PV) : Bool := decide (p.tk < q.tk)
theorem app_lt (p a b : List Int) : (p ++ a < p ++ b) ↔ a < b := by
  induction p with
  | nil => exact Iff.rfl
  | cons x p ih => rw [List.cons_append, List.cons_append, List.cons_lt_cons_iff]; simp [ih]
theorem tkc_lt : ∀ {x y : List Nat}, x ≠ y → ∀ l m : List Int, (tkc x ++ l < tkc y ++ m) ↔ x < y
  | [], [], h, _, _ => absurd rfl h
  | [], c :: cs, _, l, m => by
    simp only [tkc, List.cons_append, List.nil_append, List.cons_lt_cons_iff]
    constructor
    · intro _; exact List.nil_lt_cons _ _
    · intro _; left; omega
  | c :: cs, [], _, l, m => by
    simp only [tkc, List.cons_append, List.nil_append, List.cons_lt_cons_iff]
    constructor
    · rintro (h | h) <;> omega
    · intro h; exact absurd h (by simp)
  | c :: cs, d :: ds, h, l, m => by
    simp only [tkc, List.cons_append, List.cons_lt_cons_iff]
    by_cases e : c = d
    · subst e
      have h' : cs ≠ ds := fun z => h (by rw [z])
      rw [tkc_lt h' l m]
      simp
    · constructor
      · rintro (h | h)
        · left; omega
        · omega
      · rintro (h | h)
        · left; omega
        · exact absurd h.1 e
mutual
theorem PV.lt_tk : ∀ (p q : PV) (k : Bool), PV.lt? p q = some k → p ≠ q → ∀ l m : List Int, decide (p.tk ++ l < q.tk ++ m) = k
  | .int a, q, k, h, ne, l, m => by
    cases q <;> simp only [PV.lt?, reduceCtorEq] at h
    rename_i b
    cases h
    have hab : a ≠ b := fun z => ne (by rw [z])
    simp only [PV.tk, List.cons_append, List.cons_lt_cons_iff, List.nil_append]
    rw [decide_eq_decide]
    constructor
    · rintro (h | ⟨_, h | h⟩) <;> omega
    · intro h; right; exact ⟨trivial, .inl h⟩
  | .str x, q, k, h, ne, l, m => by
    cases q <;> simp only [PV.lt?, reduceCtorEq] at h
    rename_i b
    cases h
    have hab : x ≠ b := fun z => ne (by rw [z])
    simp only [PV.tk, List.cons_append, List.cons_lt_cons_iff]
    rw [decide_eq_decide, tkc_lt hab]
    constructor
    · rintro (h | ⟨_, h⟩)
      · omega
      · exact h
    · intro h; right; exact ⟨trivial, h⟩
  | .tup xs, q, k, h, ne, l, m => by
    cases q <;> simp only [PV.lt?, reduceCtorEq] at h
    rename_i ys
    have hab : xs ≠ ys := fun z => ne (by rw [z])
    have := PV.lts_tk xs ys k h hab l m
    simp only [PV.tk, List.cons_append, List.cons_lt_cons_iff]
    rw [← this, decide_eq_decide]
    constructor
    · rintro (h | ⟨_, h⟩)
      · omega
      · exact h
    · intro h; right; exact ⟨trivial, h⟩
  | .non, q, _, h, _, _, _ => by cases q <;> simp [PV.lt?] at h
  | .bl _, q, _, h, _, _, _ => by cases q <;> simp [PV.lt?] at h
  | .ref _, q, _, h, _, _, _ => by cases q <;> simp [PV.lt?] at h
  | .scr _, q, _, h, _, _, _ => by cases q <;> simp [PV.lt?] at h
theorem PV.lts_tk : ∀ (p q : List PV) (k : Bool), PV.lts? p q = some k → p ≠ q → ∀ l m : List Int, decide (PV.tks p ++ l < PV.tks q ++ m) = k
  | [], [], _, _, ne, _, _ => absurd rfl ne
  | [], y :: ys, k, h, _, l, m => by
    simp only [PV.lts?, List.isEmpty_cons, Bool.not_false, Option.some.injEq] at h
    subst h
    simp [PV.tks, List.cons_lt_cons_iff]
  | x :: xs, [], k, h, _, l, m => by
    simp only [PV.lts?, Option.some.injEq] at h
    subst h
    simp [PV.tks, List.cons_lt_cons_iff]
  | x :: xs, y :: ys, k, h, ne, l, m => by
    simp only [PV.lts?] at h
    simp only [PV.tks, List.cons_append, List.append_assoc]
    by_cases e : x = y
    · subst e
      rw [if_pos rfl] at h
      have ne' : xs ≠ ys := fun z => ne (by rw [z])
      rw [← PV.lts_tk xs ys k h ne' l m, decide_eq_decide, List.cons_lt_cons_iff, app_lt]
      simp
    · rw [if_neg e] at h
      rw [← PV.lt_tk x y k h e (PV.tks xs ++ l) (PV.tks ys ++ m), decide_eq_decide, List.cons_lt_cons_iff]
      simp
end
mutual
theorem PV.lt_self : ∀ (p : PV) (k : Bool), PV.lt? p p = some k → k = false
  | .int a, k, h => by simp [PV.lt?] at h; exact h
  | .str x, k, h => by
    simp only [PV.lt?, Option.some.injEq] at h
    rw [← h]
    exact decide_eq_false (List.lt_irrefl x)
  | .tup xs, k, h => PV.lts_self xs k (by simpa [PV.lt?] using h)
  | .non, _, h => by simp [PV.lt?] at h
  | .bl _, _, h => by simp [PV.lt?] at h
  | .ref _, _, h => by simp [PV.lt?] at h
  | .scr _, _, h => by simp [PV.lt?] at h
theorem PV.lts_self : ∀ (p : List PV) (k : Bool), PV.lts? p p = some k → k = false
  | [], k, h => by simp [PV.lts?] at h; exact h
  | x :: xs, k, h => PV.lts_self xs k (by simpa [PV.lts?] using h)
end
theorem PV.o_of {p q : PV} {k : Bool} (h : PV.lt? p q = some k) : PV.o p q = k := by
  by_cases e : p = q
  · subst e
    rw [PV.lt_self _ _ h]
    unfold PV.o
    rw [decide_eq_false_iff_not]
    exact List.lt_irrefl _
  · have := PV.lt_tk p q k h e [] []
    rw [List.append_nil, List.append_nil] at this
    exact this
theorem PV.swo : SrtO.Swo PV.o := by
  refine ⟨fun x y h => ?_, fun x y z h1 h2 => ?_⟩
  · have := of_decide_eq_true h
    exact decide_eq_false (List.lt_asymm this)
  · have a := of_decide_eq_false h1
    have b := of_decide_eq_false h2
    refine decide_eq_false ?_
    rw [List.not_lt] at a b ⊢
    exact List.le_trans a b

/-! ### insertion sort -/
def insO (acc : List PV) (y : PV) : List PV := acc.takeWhile (fun x => !PV.o y x) ++ y :: acc.dropWhile (fun x => !PV.o y x)
def isort (xs : List PV) : List PV := xs.foldl insO []
theorem drop_all {y : PV} : ∀ {l : List PV}, SrtO.Srtd PV.o l → ∀ x ∈ l.dropWhile (fun x => !PV.o y x), PV.o y x = true
  | [], _, x, hx => by cases hx
  | z :: l, hs, x, hx => by
    rw [List.dropWhile_cons] at hx
    split at hx
    · exact drop_all (List.pairwise_cons.mp hs).2 x hx
    · rename_i h
      have hy : PV.o y z = true := by simpa using h
      exact PV.swo.lt_all hs hy x hx
theorem insO_ok {acc O1 : List PV} {y : PV} (hs : SrtO.Srtd PV.o acc) (hb : SrtO.Stb PV.o acc O1) : SrtO.Srtd PV.o (insO acc y) ∧ SrtO.Stb PV.o (insO acc y) (O1 ++ [y]) := by
  have e : acc.takeWhile (fun x => !PV.o y x) ++ acc.dropWhile (fun x => !PV.o y x) = acc := List.takeWhile_append_dropWhile
  have h1 : ∀ x ∈ acc.takeWhile (fun x => !PV.o y x), PV.o y x = false := fun x hx => by
    have := List.all_takeWhile (p := fun x => !PV.o y x) (l := acc)
    have := List.all_eq_true.mp this x hx
    simpa using this
  have h2 := drop_all (y := y) hs
  refine ⟨SrtO.ins_srtd PV.swo (by rw [e]; exact hs) h1 h2, SrtO.ins_stb PV.swo h2 (by rw [e]; exact hb)⟩
theorem isort_go : ∀ (xs acc O1 : List PV), SrtO.Srtd PV.o acc → SrtO.Stb PV.o acc O1 → SrtO.Srtd PV.o (xs.foldl insO acc) ∧ SrtO.Stb PV.o (xs.foldl insO acc) (O1 ++ xs)
  | [], acc, O1, h1, h2 => by rw [List.append_nil]; exact ⟨h1, h2⟩
  | x :: xs, acc, O1, h1, h2 => by
    obtain ⟨a, b⟩ := insO_ok (y := x) h1 h2
    have := isort_go xs _ _ a b
    rw [List.append_assoc] at this
    exact this
theorem isort_ok (xs : List PV) : SrtO.Srtd PV.o (isort xs) ∧ SrtO.Stb PV.o (isort xs) xs := isort_go xs [] [] List.Pairwise.nil (SrtO.Stb.refl _)
theorem isort_perm (xs : List PV) : (isort xs).Perm xs := (isort_ok xs).2.perm

/-! ### trees as they lie in the heap -/
mutual
def VP (h : Heap) : PV → Value → Prop
  | .non, u => u = .none
  | .int i, u => ∃ t, u = .int i t
  | .str x, u => ∃ t, u = .str (tS x) t
  | .tup ps, u => ∃ a o n vs, u = .ref a ∧ h.get? a = some o ∧ o.cls = .type "tuple" ∧ o.data = .seq vs n ∧ VPs h ps vs.toList
  | _, _ => False
def VPs (h : Heap) : List PV → List Value → Prop
  | [], us => us = []
  | p :: ps, us => ∃ u ur, us = u :: ur ∧ VP h p u ∧ VPs h ps ur
end
mutual
theorem VP.reads {h : Heap} : ∀ (p : PV) (u : Value), VP h p u → p.pl = true → ∃ as, Reads h u p.D as
  | .non, u, v, _ => by simp only [VP] at v; subst v; exact ⟨_, .none⟩
  | .int i, u, v, _ => by simp only [VP] at v; obtain ⟨t, rfl⟩ := v; exact ⟨_, .int _ _⟩
  | .str i, u, v, _ => by simp only [VP] at v; obtain ⟨t, rfl⟩ := v; exact ⟨_, .str _ _⟩
  | .tup ps, u, v, hp => by
    simp only [VP] at v
    obtain ⟨a, o, n, vs, rfl, e, c, d, r⟩ := v
    obtain ⟨as, q⟩ := VPs.reads ps _ r (by simpa [PV.pl] using hp)
    exact ⟨_, .tuple e c d q⟩
  | .bl _, _, v, _ => by simp [VP] at v
  | .ref _, _, v, _ => by simp [VP] at v
  | .scr _, _, v, _ => by simp [VP] at v
theorem VPs.reads {h : Heap} : ∀ (ps : List PV) (us : List Value), VPs h ps us → PV.pls ps = true → ∃ as, ReadsAll h us (PV.Ds ps) as
  | [], us, v, _ => by simp only [VPs] at v; subst v; exact ⟨_, .nil⟩
  | p :: ps, us, v, hp => by
    simp only [VPs] at v
    obtain ⟨u, ur, rfl, v1, v2⟩ := v
    simp only [PV.pls, Bool.and_eq_true] at hp
    obtain ⟨as, q⟩ := VP.reads p u v1 hp.1
    obtain ⟨bs, q2⟩ := VPs.reads ps ur v2 hp.2
    exact ⟨_, .cons q q2⟩
end
mutual
theorem VP.uniq {h : Heap} : ∀ (p q : PV) (u : Value), VP h p u → VP h q u → p = q
  | .non, q, u, v, w => by
    simp only [VP] at v; subst v
    cases q <;> simp [VP] at w ⊢
  | .int i, q, u, v, w => by
    simp only [VP] at v; obtain ⟨t, rfl⟩ := v
    cases q <;> simp [VP] at w ⊢
    exact w
  | .str i, q, u, v, w => by
    simp only [VP] at v; obtain ⟨t, rfl⟩ := v
    cases q <;> simp [VP] at w ⊢
    exact w
  | .tup ps, q, u, v, w => by
    simp only [VP] at v
    obtain ⟨a, o, n, vs, rfl, e, c, d, r⟩ := v
    cases q <;> simp only [VP, reduceCtorEq, exists_const] at w
    rename_i qs
    obtain ⟨a', o', n', vs', e1, e', c', d', r'⟩ := w
    cases e1
    rw [e] at e'; cases e'
    rw [d] at d'; cases d'
    rw [VPs.uniq ps qs _ r r']
  | .bl _, _, _, v, _ => by simp [VP] at v
  | .ref _, _, _, v, _ => by simp [VP] at v
  | .scr _, _, _, v, _ => by simp [VP] at v
theorem VPs.uniq {h : Heap} : ∀ (p q : List PV) (u : List Value), VPs h p u → VPs h q u → p = q
  | [], q, u, v, w => by
    simp only [VPs] at v; subst v
    cases q with
    | nil => rfl
    | cons _ _ => simp [VPs] at w
  | p :: ps, q, u, v, w => by
    simp only [VPs] at v
    obtain ⟨u, ur, rfl, v1, v2⟩ := v
    cases q with
    | nil => simp [VPs] at w
    | cons q qs =>
      simp only [VPs] at w
      obtain ⟨u', ur', e, w1, w2⟩ := w
      cases e
      rw [VP.uniq p q _ v1 w1, VPs.uniq ps qs _ v2 w2]
end
mutual
theorem VP.keep {h h' : Heap} (k : ∀ b o, h.get? b = some o → o.cls = .type "tuple" → h'.get? b = some o) : ∀ (p : PV) (u : Value), VP h p u → VP h' p u
  | .non, u, v => by simpa only [VP] using v
  | .int i, u, v => by simpa only [VP] using v
  | .str i, u, v => by simpa only [VP] using v
  | .tup ps, u, v => by
    simp only [VP] at v ⊢
    obtain ⟨a, o, n, vs, rfl, e, c, d, r⟩ := v
    exact ⟨a, o, n, vs, rfl, k _ _ e c, c, d, VPs.keep k ps _ r⟩
  | .bl _, _, v => by simp [VP] at v
  | .ref _, _, v => by simp [VP] at v
  | .scr _, _, v => by simp [VP] at v
theorem VPs.keep {h h' : Heap} (k : ∀ b o, h.get? b = some o → o.cls = .type "tuple" → h'.get? b = some o) : ∀ (p : List PV) (u : List Value), VPs h p u → VPs h' p u
  | [], u, v => by simpa only [VPs] using v
  | p :: ps, u, v => by
    simp only [VPs] at v ⊢
    obtain ⟨u, ur, rfl, v1, v2⟩ := v
    exact ⟨u, ur, rfl, VP.keep k p u v1, VPs.keep k ps ur v2⟩
end
theorem VPs.len {h : Heap} : ∀ {p : List PV} {u : List Value}, VPs h p u → u.length = p.length
  | [], u, v => by simp only [VPs] at v; subst v; rfl
  | p :: ps, u, v => by
    simp only [VPs] at v
    obtain ⟨u, ur, rfl, v1, v2⟩ := v
    simp [VPs.len v2]
section
variable {X : Cx} {pins : List (Addr × Obj)} {σ : L2.St} {H : Hp} {s : Shared}
mutual
theorem RV.vp (I : L2.Inv X pins σ H s) : ∀ (p : PV) (v : V) (u : Value), RV X.K H v p → p.pl = true → RelV v u → VP s.heap p u
  | .non, _, _, h, _, r => by cases h; simp only [VP]; exact r
  | .int i, _, _, h, _, r => by cases h; simp only [VP]; exact r
  | .str x, _, _, h, _, r => by cases h; simp only [VP]; exact r
  | .tup xs, _, _, h, hp, r => by
    cases h with
    | tup hs hl hr =>
      cases r
      obtain ⟨its, rv, ⟨o, ho, hc, n, hd⟩, _⟩ := I.tuple hs
      simp only [VP]
      exact ⟨_, o, n, _, rfl, ho, hc, hd, by simpa using RVs.vp I xs _ _ hr (by simpa [PV.pl] using hp) rv⟩
  | .bl _, _, _, _, h, _ => by simp [PV.pl] at h
  | .ref _, _, _, _, h, _ => by simp [PV.pl] at h
  | .scr _, _, _, _, h, _ => by simp [PV.pl] at h
theorem RVs.vp (I : L2.Inv X pins σ H s) : ∀ (ps : List PV) (vs : List V) (us : List Value), RVs X.K H vs ps → PV.pls ps = true → Vals vs us → VPs s.heap ps us
  | [], _, _, h, _, r => by cases h; cases r; simp only [VPs]
  | p :: ps, _, _, h, hp, r => by
    simp only [PV.pls, Bool.and_eq_true] at hp
    cases h with
    | cons h1 h2 =>
      cases r with
      | cons r1 r2 => simp only [VPs]; exact ⟨_, _, rfl, RV.vp I p _ _ h1 hp.1 r1, RVs.vp I ps _ _ h2 hp.2 r2⟩
end
end
end G

namespace G
open PySem PySem.Spec PyProof.Rows L2
open PySem.SeqAt
open AutoSeq1 (wpAny_loadPart')
open MeetsSeq MeetsSeq2 MeetsSeq3 SeqRoads2

/-! ### tuples compared: what lies behind the first place that differs is not looked at -/
def TLt (A : Around) (s : Shared) : List Value → List Value → Bool → Prop
  | [], ys, k => k = !ys.isEmpty
  | _ :: _, [], k => k = false
  | x :: xs, y :: ys, k => ∃ e, EqAt A s x y e ∧ (e = true → TLt A s xs ys k) ∧ (e = false → RcLt A s x y k)
theorem TLt.fin {A : Around} {s : Shared} : ∀ {xs ys : List Value} {k : Bool}, TLt A s xs ys k → xs = [] ∨ ys = [] → k = decide (xs.length < ys.length)
  | [], ys, k, h, _ => by
    have h' : k = !ys.isEmpty := h
    rw [h']; cases ys <;> simp
  | _ :: _, [], k, h, _ => by have h' : k = false := h; rw [h']; simp
  | _ :: _, _ :: _, _, _, h => by rcases h with h | h <;> cases h
section
theorem tup_ltF (l b : Addr) (items items2 : Array Value) (n n2 : Nat) (dd dd2 : Option Addr) (sl sl2 : Array (Option Value)) (k : Bool) :
    Meets (Builtin.«tuple.__lt__» ⟨[.ref l, .ref b], []⟩) fun A R s => s.heap.get? l = some { cls := .type "tuple", dict := dd, data := .seq items n, slots := sl } ∧
      s.heap.get? b = some { cls := .type "tuple", dict := dd2, data := .seq items2 n2, slots := sl2 } ∧ TLt A.in1 s items.toList items2.toList k ∧ R (.ok (.ret (.bool k))) s :=
  .of_wp fun prog w A R s hh => by
    obtain ⟨hp, g, d, tk, os⟩ := s; obtain ⟨hl, hb, ht, hR⟩ := hh
    have f2 := AutoSeq1.sub_tuple_tuple
    have hZ : (items.toList.zip items2.toList).length = min items.size items2.size := by simp
    wp_walk using wpAny_loadPart' hl, wpAny_loadPart' hb, wpAny_forIn_list _ (fun rest b s' => b.1 = none ∧ s' = ⟨hp, g, d, tk, os⟩ ∧ ∃ i, rest = (items.toList.zip items2.toList).drop i ∧ i ≤ min items.size items2.size ∧ TLt A.in1 ⟨hp, g, d, tk, os⟩ (items.toList.drop i) (items2.toList.drop i) k) _
    case turn =>
      rintro ⟨y, x⟩ rest b s' ⟨hb', rfl, i, hz, him, ht⟩
      have hlt : i < (items.toList.zip items2.toList).length := by
        by_cases h' : i < (items.toList.zip items2.toList).length
        · exact h'
        · rw [List.drop_of_length_le (Nat.le_of_not_lt h')] at hz; cases hz
      have hm : i < min items.size items2.size := by rw [← hZ]; exact hlt
      have h1 : i < items.toList.length := by simp; omega
      have h2 : i < items2.toList.length := by simp; omega
      rw [List.drop_eq_getElem_cons hlt, List.getElem_zip] at hz
      injection hz with hyx hrest
      injection hyx with ey ex
      rw [List.drop_eq_getElem_cons h1, List.drop_eq_getElem_cons h2] at ht
      obtain ⟨e, t1, t2, t3⟩ := ht
      rw [← ey, ← ex] at t1 t3
      refine wpAny_bind (t1 prog w _ _ ?_)
      cases e with
      | true =>
        have t2 := t2 rfl
        wp_walk
        exact ⟨rfl, rfl, i + 1, hrest, hm, t2⟩
      | false =>
        have t4 := t3 rfl prog w
        clear t3
        revert t4
        generalize richCompare CmpOp.Lt y x = rc
        intro t4
        wp_walk
        refine t4 _ _ ?_
        wp_walk
        exact ⟨_, rfl, hR⟩
    case fin =>
      rintro ⟨b1, b2⟩ s' ⟨hb', rfl, i, hz, him, ht⟩
      simp only at hb'
      subst hb'
      have hge : min items.size items2.size ≤ i := by
        by_cases h' : i < (items.toList.zip items2.toList).length
        · rw [List.drop_eq_getElem_cons h'] at hz; cases hz
        · rw [← hZ]; exact Nat.le_of_not_lt h'
      have hk := ht.fin (by
        by_cases hs : items.size ≤ items2.size
        · left; apply List.drop_of_length_le; simp; omega
        · right; apply List.drop_of_length_le; simp; omega)
      have hk2 : k = decide (items.size < items2.size) := by
        rw [hk, decide_eq_decide, List.length_drop, List.length_drop, Array.length_toList, Array.length_toList]
        omega
      wp_walk
      exact ⟨_, rfl, by simpa [Builtin.Tuple.tupleCompareSizes, ← hk2] using hR⟩
    case h =>
      exact ⟨rfl, rfl, 0, rfl, Nat.zero_le _, by simpa using ht⟩
end
theorem RcLt.tupF {A : Around} {s : Shared} {l b : Addr} {items items2 : Array Value} {k : Bool} (hl : s.heap.IsTuple l items) (hb : s.heap.IsTuple b items2) (hu : A.units < cLine) (ht : TLt A.in1 s items.toList items2.toList k) : RcLt A s (.ref l) (.ref b) k := fun prog w E Q h => by
  obtain ⟨⟨cls, dd, data, sl⟩, ho, hc, n, hd⟩ := id hl
  obtain ⟨⟨cls2, dd2, data2, sl2⟩, ho2, hc2, n2, hd2⟩ := id hb
  simp only at hc hd hc2 hd2
  subst hc hd hc2 hd2
  exact richCompare_meets_room (op := .Lt) ⟨_, ho, rfl⟩ ⟨_, ho2, rfl⟩ F.slot_tuple_lt F.entry_tuple_lt (F.args_tuple_lt_2 _ _) (tup_ltF l b items items2 n n2 dd dd2 sl sl2 k)
    ⟨ho, ho2, ht, show Value.bool k ≠ Value.notImplemented ∧ Q (.bool k) s from ⟨(fun x => nomatch x), h⟩⟩ hu

/-! ### by trees -/
theorem vp_eq {A : Around} {s : Shared} {p q : PV} {u v : Value} (hu : VP s.heap p u) (hv : VP s.heap q v) (pp : p.pl = true) (pq : q.pl = true) (hd : A.units + min p.dp q.dp < cLine) : EqAt A s u v (decide (p = q)) := by
  obtain ⟨as, r1⟩ := hu.reads _ _ pp
  obtain ⟨bs, r2⟩ := hv.reads _ _ pq
  rw [← PV.beq_dec, ← PV.D_eqv p q pp pq]
  exact eqAt_reads p.D q.D A s u v as bs r1 r2 (PV.D_lay _ pp) (PV.D_lay _ pq) (by rw [PV.D_depth, PV.D_depth]; exact hd)
mutual
theorem vp_lt : ∀ (p q : PV) (A : Around) (s : Shared) (u v : Value) (k : Bool), VP s.heap p u → VP s.heap q v → p.pl = true → q.pl = true → A.units + min p.dp q.dp < cLine → PV.lt? p q = some k → RcLt A s u v k
  | .int a, q, A, s, u, v, k, hu, hv, pp, pq, hd, hk => by
    cases q <;> simp only [PV.lt?, reduceCtorEq] at hk
    cases hk
    obtain ⟨as, r1⟩ := hu.reads _ _ pp
    obtain ⟨bs, r2⟩ := hv.reads _ _ pq
    have := PySem.W.rcLt_alike _ _ A s u v as bs r1 r2 (by simp [PV.D, PySem.W.alike]) (by simp [PV.D]) (by rw [PV.D_depth, PV.D_depth]; exact hd)
    rw [PV.D, PV.D, PySem.W.dataLt_int] at this
    exact this
  | .str x, q, A, s, u, v, k, hu, hv, pp, pq, hd, hk => by
    cases q <;> simp only [PV.lt?, reduceCtorEq] at hk
    cases hk
    obtain ⟨as, r1⟩ := hu.reads _ _ pp
    obtain ⟨bs, r2⟩ := hv.reads _ _ pq
    have := PySem.W.rcLt_alike _ _ A s u v as bs r1 r2 (by simp [PV.D, PySem.W.alike]) (by simp [PV.D]) (by rw [PV.D_depth, PV.D_depth]; exact hd)
    rw [PV.D, PV.D, PySem.W.dataLt_str] at this
    exact this
  | .tup ps, q, A, s, u, v, k, hu, hv, pp, pq, hd, hk => by
    cases q <;> simp only [PV.lt?, reduceCtorEq] at hk
    rename_i qs
    simp only [VP] at hu hv
    obtain ⟨a, o, n, vs, rfl, e, c, d, r⟩ := hu
    obtain ⟨a', o', n', vs', rfl, e', c', d', r'⟩ := hv
    simp only [PV.dp] at hd
    have h0 : A.units < cLine := by omega
    exact RcLt.tupF ⟨o, e, c, n, d⟩ ⟨o', e', c', n', d'⟩ h0 (vps_lt ps qs A.in1 s _ _ k r r' (by simpa [PV.pl] using pp) (by simpa [PV.pl] using pq) (by show A.units + 1 + _ < _; omega) hk)
  | .non, q, _, _, _, _, _, _, _, _, _, _, h => by cases q <;> simp [PV.lt?] at h
  | .bl _, q, _, _, _, _, _, _, _, _, _, _, h => by cases q <;> simp [PV.lt?] at h
  | .ref _, q, _, _, _, _, _, _, _, _, _, _, h => by cases q <;> simp [PV.lt?] at h
  | .scr _, q, _, _, _, _, _, _, _, _, _, _, h => by cases q <;> simp [PV.lt?] at h
theorem vps_lt : ∀ (ps qs : List PV) (A : Around) (s : Shared) (us vs : List Value) (k : Bool), VPs s.heap ps us → VPs s.heap qs vs → PV.pls ps = true → PV.pls qs = true → A.units + min (PV.dps ps) (PV.dps qs) < cLine → PV.lts? ps qs = some k → TLt A s us vs k
  | [], qs, A, s, us, vs, k, hu, hv, _, _, _, hk => by
    have hl := hv.len
    simp only [VPs] at hu
    subst hu
    simp only [PV.lts?, Option.some.injEq] at hk
    rw [← hk]
    show (!qs.isEmpty) = !vs.isEmpty
    cases qs <;> cases vs <;> simp at hl ⊢
  | p :: ps, [], A, s, us, vs, k, hu, hv, _, _, _, hk => by
    simp only [VPs] at hu hv
    obtain ⟨u, ur, rfl, v1, v2⟩ := hu
    subst hv
    simp only [PV.lts?, Option.some.injEq] at hk
    exact hk.symm
  | p :: ps, q :: qs, A, s, us, vs, k, hu, hv, pp, pq, hd, hk => by
    simp only [VPs] at hu hv
    obtain ⟨u, ur, rfl, v1, v2⟩ := hu
    obtain ⟨u', ur', rfl, w1, w2⟩ := hv
    simp only [PV.pls, Bool.and_eq_true] at pp pq
    simp only [PV.dps] at hd
    refine ⟨decide (p = q), vp_eq v1 w1 pp.1 pq.1 (by omega), fun e => ?_, fun e => ?_⟩
    · simp only [PV.lts?, if_pos (of_decide_eq_true e)] at hk
      exact vps_lt ps qs A s ur ur' k v2 w2 pp.2 pq.2 (by omega) hk
    · simp only [PV.lts?, if_neg (of_decide_eq_false e)] at hk
      exact vp_lt p q A s u u' k v1 w1 pp.1 pq.1 (by omega) hk
end
def PV.isTup : PV → Bool
  | .tup _ => true | _ => false
section
variable {prog : Program} {w : World} {A : Around} {E : Value → Shared → Prop} {s : Shared} {Q : Bool → Shared → Prop}
theorem vp_one {f : Bool} {p q : PV} {u v : Value} {k : Bool} (hu : VP s.heap p u) (hv : VP s.heap q v) (pp : p.pl = true) (pq : q.pl = true) (hd : A.units + min p.dp q.dp < cLine) (hk : PV.lt? p q = some k) (hf : f = true → p.isTup = false) (h : Q k s) :
    wpAny (model prog w) A (oneLt' f u v) Q E s := by
  cases f with
  | false => exact kat_one' (vp_lt p q A s u v k hu hv pp pq hd hk) h
  | true =>
    obtain ⟨as, r1⟩ := hu.reads _ _ pp
    obtain ⟨bs, r2⟩ := hv.reads _ _ pq
    cases p with
    | int a =>
      cases q <;> simp only [PV.lt?, reduceCtorEq] at hk
      cases hk
      refine PySem.W.oneLt_alike (fun _ xs => by simp [PV.D]) r1 r2 (by simp [PV.D, PySem.W.alike]) (by simp [PV.D]) (by rw [PV.D_depth, PV.D_depth]; exact hd) ?_
      rw [PV.D, PV.D, PySem.W.dataLt_int]; exact h
    | str a =>
      cases q <;> simp only [PV.lt?, reduceCtorEq] at hk
      cases hk
      refine PySem.W.oneLt_alike (fun _ xs => by simp [PV.D]) r1 r2 (by simp [PV.D, PySem.W.alike]) (by simp [PV.D]) (by rw [PV.D_depth, PV.D_depth]; exact hd) ?_
      rw [PV.D, PV.D, PySem.W.dataLt_str]; exact h
    | tup xs => exact absurd (hf rfl) (by simp [PV.isTup])
    | _ => cases q <;> simp [PV.lt?] at hk
where
  kat_one' {u v : Value} {k : Bool} (r : RcLt A s u v k) (h : Q k s) : wpAny (model prog w) A (oneLt' false u v) Q E s := by
    rw [oneLt'_eq]
    simp only [Bool.false_eq_true, if_false]
    exact wpAny_bind (r prog w E _ (wpAny_truthy_bool h))
/-- the first of a tuple -/
def hdTup : List PV → Bool
  | p :: _ => p.isTup
  | [] => false
theorem vps_kat {b fin : Bool} {k : Bool} : ∀ (ps qs : List PV) (i : Nat) (us vs : List Value), VPs s.heap ps us → VPs s.heap qs vs → PV.pls ps = true → PV.pls qs = true → A.units + min (PV.dps ps) (PV.dps qs) < cLine → PV.lts? ps qs = some k →
    (b = true → i = 0 → hdTup ps = false) → fin = decide (us.length < vs.length) → Q k s → PySem.W.KatLex prog w A b fin Q (us.zip vs) i s
  | [], qs, i, us, vs, hu, hv, _, _, _, hk, _, hf, h => by
    have hl := hv.len
    simp only [VPs] at hu
    subst hu
    simp only [PV.lts?, Option.some.injEq] at hk
    have e : fin = k := by
      rw [hf, ← hk]
      cases qs <;> cases vs <;> simp at hl ⊢
    subst e
    exact PySem.W.kat_nil h
  | p :: ps, [], i, us, vs, hu, hv, _, _, _, hk, _, hf, h => by
    simp only [VPs] at hu hv
    obtain ⟨u, ur, rfl, v1, v2⟩ := hu
    subst hv
    simp only [PV.lts?, Option.some.injEq] at hk
    have e : fin = k := by rw [hf, ← hk]; simp
    subst e
    exact PySem.W.kat_nil h
  | p :: ps, q :: qs, i, us, vs, hu, hv, pp, pq, hd, hk, hb, hf, h => by
    simp only [VPs] at hu hv
    obtain ⟨u, ur, rfl, v1, v2⟩ := hu
    obtain ⟨u', ur', rfl, w1, w2⟩ := hv
    simp only [PV.pls, Bool.and_eq_true] at pp pq
    simp only [PV.dps] at hd
    rw [List.zip_cons_cons]
    refine PySem.W.kat_cons (vp_eq v1 w1 pp.1 pq.1 (by omega) prog w _ _ ?_)
    by_cases e : p = q
    · rw [decide_eq_true e]
      simp only [PV.lts?, if_pos e] at hk
      exact PySem.W.kat_yes (vps_kat ps qs (i + 1) ur ur' v2 w2 pp.2 pq.2 (by omega) hk (fun _ z => absurd z (Nat.succ_ne_zero i)) (by rw [hf]; simp) h)
    · rw [decide_eq_false e]
      simp only [PV.lts?, if_neg e] at hk
      refine PySem.W.kat_no (vp_one v1 w1 pp.1 pq.1 (by omega) hk (fun z => ?_) h)
      rw [Bool.and_eq_true] at z
      exact hb z.1 (by simpa using z.2)
end
end G

namespace G
open PySem PySem.Spec PyProof.Rows L2

def PV.isInt : PV → Bool
  | .int _ => true | _ => false
def PV.isStr : PV → Bool
  | .str _ => true | _ => false
def hd? : PV → Option PV
  | .tup (p :: _) => some p
  | _ => none
def hdAll (f : PV → Bool) (ps : List PV) : Bool := ps.all fun p => match hd? p with | some x => f x | none => false
/-- what sorted sorts -/
def sortOk (ps : List PV) : Bool := PV.pls ps && decide (PV.dps ps ≤ 60) && (ps.all fun p => ps.all fun q => (PV.lt? p q).isSome) &&
  (ps.all PV.isInt || ps.all PV.isStr || hdAll PV.isInt ps || hdAll PV.isStr ps || hdAll PV.isTup ps)
open Classical in
/-- the tree of a value in the heap -/
noncomputable def dec (h : Heap) (u : Value) : PV := if q : ∃ p, VP h p u then q.choose else .non
theorem dec_of {h : Heap} {p : PV} {u : Value} (v : VP h p u) : dec h u = p := by
  have q : ∃ p, VP h p u := ⟨p, v⟩
  unfold dec
  rw [dif_pos q]
  exact VP.uniq _ _ _ q.choose_spec v
noncomputable def ltD (h : Heap) (u v : Value) : Bool := PV.o (dec h u) (dec h v)
theorem ltD_swo (h : Heap) : SrtO.Swo (ltD h) := ⟨fun x y => PV.swo.asym _ _, fun x y z => PV.swo.tr _ _ _⟩
theorem vps_map {h : Heap} : ∀ {ps : List PV} {us : List Value}, VPs h ps us → us.map (dec h) = ps
  | [], us, v => by simp only [VPs] at v; subst v; rfl
  | p :: ps, us, v => by
    simp only [VPs] at v
    obtain ⟨u, ur, rfl, v1, v2⟩ := v
    rw [List.map_cons, dec_of v1, vps_map v2]
theorem vps_mem {h : Heap} : ∀ {ps : List PV} {us : List Value}, VPs h ps us → ∀ u ∈ us, ∃ p ∈ ps, VP h p u
  | [], us, v => by simp only [VPs] at v; subst v; intro u hu; cases hu
  | p :: ps, us, v => by
    simp only [VPs] at v
    obtain ⟨u, ur, rfl, v1, v2⟩ := v
    intro x hx
    rcases List.mem_cons.mp hx with rfl | hx
    · exact ⟨p, List.mem_cons_self, v1⟩
    · obtain ⟨q, a, b⟩ := vps_mem v2 x hx
      exact ⟨q, List.mem_cons_of_mem _ a, b⟩
theorem vps_ints {h : Heap} : ∀ {ps : List PV} {us : List Value}, VPs h ps us → ps.all PV.isInt = true → ∃ ns, IntsAre us ns
  | [], us, v, _ => by simp only [VPs] at v; subst v; exact ⟨_, .nil⟩
  | p :: ps, us, v, a => by
    simp only [VPs] at v
    obtain ⟨u, ur, rfl, v1, v2⟩ := v
    simp only [List.all_cons, Bool.and_eq_true] at a
    obtain ⟨ns, q⟩ := vps_ints v2 a.2
    cases p <;> simp [PV.isInt] at a
    simp only [VP] at v1
    obtain ⟨t, rfl⟩ := v1
    exact ⟨_, .cons _ _ q⟩
theorem vps_strs {h : Heap} : ∀ {ps : List PV} {us : List Value}, VPs h ps us → ps.all PV.isStr = true → ∃ ns, StrsAre us ns
  | [], us, v, _ => by simp only [VPs] at v; subst v; exact ⟨_, .nil⟩
  | p :: ps, us, v, a => by
    simp only [VPs] at v
    obtain ⟨u, ur, rfl, v1, v2⟩ := v
    simp only [List.all_cons, Bool.and_eq_true] at a
    obtain ⟨ns, q⟩ := vps_strs v2 a.2
    cases p <;> simp [PV.isStr] at a
    simp only [VP] at v1
    obtain ⟨t, rfl⟩ := v1
    exact ⟨_, .cons _ _ q⟩
theorem vps_mem2 {h h' : Heap} : ∀ {ps : List PV} {us : List Value}, VPs h ps us → VPs h' ps us → ∀ u ∈ us, ∃ p ∈ ps, VP h p u ∧ VP h' p u
  | [], us, v, _ => by simp only [VPs] at v; subst v; intro u hu; cases hu
  | p :: ps, us, v, w => by
    simp only [VPs] at v w
    obtain ⟨u, ur, rfl, v1, v2⟩ := v
    obtain ⟨u', ur', e, w1, w2⟩ := w
    cases e
    intro x hx
    rcases List.mem_cons.mp hx with rfl | hx
    · exact ⟨p, List.mem_cons_self, v1, w1⟩
    · obtain ⟨q, a, b⟩ := vps_mem2 v2 w2 x hx
      exact ⟨q, List.mem_cons_of_mem _ a, b⟩
theorem dps_mem {ps : List PV} {n : Nat} (h : PV.dps ps ≤ n) {p : PV} (m : p ∈ ps) : p.dp ≤ n := by
  induction ps with
  | nil => cases m
  | cons x xs ih =>
    simp only [PV.dps] at h
    rcases List.mem_cons.mp m with rfl | m
    · omega
    · exact ih (by omega) m
def TyOf (h : Heap) (f : PV → Bool) (T : String) : Prop := ∀ (M : Model) (p : PV) (u : Value), f p = true → VP h p u → PySem.W.Looks M h (typeOf u) (.type T)
theorem vps_tups {h : Heap} {f : PV → Bool} {T : String} (hT : TyOf h f T) : ∀ {ps : List PV} {us : List Value}, VPs h ps us → hdAll f ps = true → ∃ fs, PySem.W.KatTups h us fs ∧ fs.length = us.length ∧ ∀ (M : Model), ∀ u ∈ fs, PySem.W.Looks M h (typeOf u) (.type T)
  | [], us, v, _ => by simp only [VPs] at v; subst v; exact ⟨[], .nil, rfl, fun _ u hu => nomatch hu⟩
  | p :: ps, us, v, a => by
    simp only [VPs] at v
    obtain ⟨u, ur, rfl, v1, v2⟩ := v
    simp only [hdAll, List.all_cons, Bool.and_eq_true] at a
    obtain ⟨fs, q1, q2, q3⟩ := vps_tups hT v2 a.2
    cases p <;> simp only [hd?, Bool.false_eq_true, false_and] at a
    rename_i xs
    cases xs <;> simp only [hd?, Bool.false_eq_true, false_and] at a
    rename_i x xs
    simp only [VP, VPs] at v1
    obtain ⟨a', o, n, vs, rfl, e, c, d, u1, ur1, e1, w1, w2⟩ := v1
    have hx : vs[0]? = some u1 := by rw [← Array.getElem?_toList, e1]; rfl
    refine ⟨u1 :: fs, .cons e c d hx q1, by simp [q2], fun M u hu => ?_⟩
    rcases List.mem_cons.mp hu with rfl | hu
    · exact hT M x _ a.1 w1
    · exact q3 M u hu
section
variable {prog : Program} {w : World} {A : Around} {s : Shared}
theorem hdTup_of {f : PV → Bool} (hf : ∀ p, f p = true → p.isTup = false) {ps : List PV} (h : hdAll f ps = true) {p : PV} (hp : p ∈ ps) : ∃ xs, p = .tup xs ∧ hdTup xs = false := by
  have := List.all_eq_true.mp h p hp
  cases p <;> simp only [hd?, Bool.false_eq_true] at this
  rename_i xs
  cases xs <;> simp only [hd?, Bool.false_eq_true] at this
  exact ⟨_, rfl, hf _ this⟩
theorem cmp_one {h0 : Heap} {ps : List PV} {us : List Value} (v0 : VPs h0 ps us) (v : VPs s.heap ps us) (hp : PV.pls ps = true) (hd : PV.dps ps ≤ 60) (hu : A.units + 60 < cLine) (hc : ∀ p ∈ ps, ∀ q ∈ ps, (PV.lt? p q).isSome = true) (hn : ∀ p ∈ ps, p.isTup = false) :
    SrtO.Cmp prog w A s oneType' (fun p => p.1 ∈ us) (SrtO.lt2 (ltD h0)) := by
  intro x y hx hy
  obtain ⟨p, a1, a2⟩ := vps_mem v _ hx
  obtain ⟨q, b1, b2⟩ := vps_mem v _ hy
  obtain ⟨k, hk⟩ := Option.isSome_iff_exists.mp (hc p a1 q b1)
  have e1 : dec h0 x.1 = p := by
    obtain ⟨p', a1', a2'⟩ := vps_mem2 v0 v _ hx
    rw [dec_of a2'.1, VP.uniq _ _ _ a2 a2'.2]
  have e2 : dec h0 y.1 = q := by
    obtain ⟨p', a1', a2'⟩ := vps_mem2 v0 v _ hy
    rw [dec_of a2'.1, VP.uniq _ _ _ b2 a2'.2]
  show wpAny (model prog w) A (keyLt' oneType' x.1 y.1) _ _ s
  rw [keyLt'_oneType]
  have d1 := dps_mem hd a1
  refine vp_one a2 b2 (pls_mem hp a1) (pls_mem hp b1) (by omega) hk (fun _ => hn p a1) ⟨rfl, ?_⟩
  show k = PV.o (dec h0 x.1) (dec h0 y.1)
  rw [e1, e2, PV.o_of hk]
theorem cmp_tup {h0 : Heap} {ps : List PV} {us : List Value} {b : Bool} (v0 : VPs h0 ps us) (v : VPs s.heap ps us) (hp : PV.pls ps = true) (hd : PV.dps ps ≤ 60) (hu : A.units + 60 < cLine) (hc : ∀ p ∈ ps, ∀ q ∈ ps, (PV.lt? p q).isSome = true)
    (hn : ∀ p ∈ ps, ∃ xs, p = .tup xs ∧ (b = true → hdTup xs = false)) : SrtO.Cmp prog w A s (tuples' b) (fun p => p.1 ∈ us) (SrtO.lt2 (ltD h0)) := by
  intro x y hx hy
  obtain ⟨p, a1, a2, a3⟩ := vps_mem2 v0 v _ hx
  obtain ⟨q, b1, b2, b3⟩ := vps_mem2 v0 v _ hy
  obtain ⟨k, hk⟩ := Option.isSome_iff_exists.mp (hc p a1 q b1)
  show wpAny (model prog w) A (keyLt' (tuples' b) x.1 y.1) _ _ s
  have d1 := dps_mem hd a1
  have p1 := pls_mem hp a1
  have p2 := pls_mem hp b1
  have ek : k = SrtO.lt2 (ltD h0) x y := by
    show k = PV.o (dec h0 x.1) (dec h0 y.1)
    rw [dec_of a2, dec_of b2, PV.o_of hk]
  obtain ⟨xs, rfl, hxs⟩ := hn p a1
  obtain ⟨ys, rfl, hys⟩ := hn q b1
  simp only [VP] at a3 b3
  obtain ⟨l, o, n, us1, e1, f1, f2, f3, f4⟩ := a3
  obtain ⟨l', o', n', us1', e1', f1', f2', f3', f4'⟩ := b3
  rw [e1, e1']
  refine PySem.W.kat_lt f1 f3 f1' f3' (vps_kat xs ys 0 _ _ f4 f4' (by simpa [PV.pl] using p1) (by simpa [PV.pl] using p2) ?_ (by simpa [PV.lt?] using hk) (fun z _ => hxs z) (by simp) ⟨rfl, ek⟩)
  simp only [PV.dp] at d1
  omega
theorem sortable_pv {h0 : Heap} {a : Addr} {ps : List PV} {us : List Value} (v0 : VPs h0 ps us) (v : VPs s.heap ps us) (ok : sortOk ps = true) (h2 : 2 ≤ us.length) (hu : A.units + 60 < cLine) (ha : ∀ o, s.heap.get? a = some o → o.cls ≠ .type "tuple") :
    SrtO.SortableO prog w A s a us (ltD h0) := by
  intro h' keep
  have v' : VPs h' ps us := v.keep (fun b o e c => keep b o (fun z => ha o (z ▸ e) c) e) ps us
  unfold sortOk at ok
  simp only [Bool.and_eq_true, decide_eq_true_eq, List.all_eq_true] at ok
  obtain ⟨⟨⟨hp, hd⟩, hc⟩, kind⟩ := ok
  have two : ∃ u1 u2 ur, us = u1 :: u2 :: ur := by
    match us, h2 with
    | u1 :: u2 :: ur, _ => exact ⟨_, _, _, rfl⟩
  have tInt : TyOf h' PV.isInt "int" := fun M p u e r => by
    cases p <;> simp [PV.isInt] at e
    simp only [VP] at r
    obtain ⟨t, rfl⟩ := r
    exact PySem.W.Looks.now
  have tStr : TyOf h' PV.isStr "str" := fun M p u e r => by
    cases p <;> simp [PV.isStr] at e
    simp only [VP] at r
    obtain ⟨t, rfl⟩ := r
    exact PySem.W.Looks.now
  have tTup : TyOf h' PV.isTup "tuple" := fun M p u e r => by
    cases p <;> simp [PV.isTup] at e
    simp only [VP] at r
    obtain ⟨l, o, n, us1, e1, f1, f2, f3, f4⟩ := r
    rw [e1, ← f2]
    exact (PySem.W.Looks.ld f1).andThen .now
  have byT : ∀ {f : PV → Bool} {T : String}, (Value.type T == Value.type T) = true → TyOf h' f T → hdAll f ps = true → (∀ p, f p = true → (Value.type T != Value.type "tuple") = true → p.isTup = false) → ∃ κ,
      (∀ (Q : SortKind → Shared → Prop) (E : Value → Shared → Prop), Q κ { s with heap := h' } → wpAny (model prog w) A (keyKind' us.toArray) Q E { s with heap := h' }) ∧ SrtO.Cmp prog w A { s with heap := h' } κ (fun p => p.1 ∈ us) (SrtO.lt2 (ltD h0)) := fun {f T} hTT hT ha hf => by
    obtain ⟨fs, q1, q2, q3⟩ := vps_tups hT v' ha
    refine ⟨_, fun Q E hq => PySem.W.kat_kind (s := { s with heap := h' }) (T := .type T) q1 (by omega) (fun u m => q3 _ u m) hTT hq, cmp_tup (s := { s with heap := h' }) v0 v' hp hd hu hc fun p m => ?_⟩
    have := List.all_eq_true.mp ha p m
    cases p <;> simp only [hd?, Bool.false_eq_true] at this
    rename_i xs
    cases xs <;> simp only [hd?, Bool.false_eq_true] at this
    exact ⟨_, rfl, fun z => hf _ this z⟩
  simp only [Bool.or_eq_true, List.all_eq_true] at kind
  rcases kind with (((kind | kind) | kind) | kind) | kind
  · obtain ⟨ns, hI⟩ := vps_ints v' (List.all_eq_true.mpr kind)
    obtain ⟨u1, u2, ur, rfl⟩ := two
    refine ⟨oneType', fun Q E hq => wpAny_of_eq (keyKind_ints hI) hq, cmp_one (s := { s with heap := h' }) v0 v' hp hd hu hc fun p m => ?_⟩
    have := kind p m
    cases p <;> simp [PV.isInt, PV.isTup] at this ⊢
  · obtain ⟨ns, hI⟩ := vps_strs v' (List.all_eq_true.mpr kind)
    obtain ⟨u1, u2, ur, rfl⟩ := two
    refine ⟨oneType', fun Q E hq => wpAny_of_eq (keyKind_strs hI) hq, cmp_one (s := { s with heap := h' }) v0 v' hp hd hu hc fun p m => ?_⟩
    have := kind p m
    cases p <;> simp [PV.isStr, PV.isTup] at this ⊢
  · exact byT (by rfl) tInt kind fun p e _ => by cases p <;> simp [PV.isInt, PV.isTup] at e ⊢
  · exact byT (by rfl) tStr kind fun p e _ => by cases p <;> simp [PV.isStr, PV.isTup] at e ⊢
  · exact byT (by rfl) tTup kind fun p e z => by exact absurd z (by decide)
end
/-! ### sorted -/
def zSorted : ZC
  | [.ref a], h, Q => match h a with
    | some (.lst ps) => sortOk ps = true ∧ ∀ d, h d = none → Q (.ref d) (up h d (.lst (isort ps)))
    | _ => False
  | _, _, _ => False
section
variable {X : Cx}
theorem back_rvs {K : PySem.W.Frag} {H : Hp} {h : Heap} {xs : List V} {us : List Value} {ps : List PV} (r : RVs K H xs ps) (rv : Vals xs us) (v : VPs h ps us) : ∀ out : List Value, (∀ u ∈ out, u ∈ us) → ∃ ys, Vals ys out ∧ RVs K H ys (out.map (dec h))
  | [], _ => ⟨[], .nil, .nil⟩
  | u :: out, m => by
    obtain ⟨ys, q1, q2⟩ := back_rvs r rv v out fun w hw => m w (List.mem_cons_of_mem _ hw)
    obtain ⟨x, q3, q4⟩ := one r rv v u (m u List.mem_cons_self)
    exact ⟨x :: ys, .cons q3 q1, .cons q4 q2⟩
where
  one {xs : List V} {us : List Value} {ps : List PV} (r : RVs K H xs ps) (rv : Vals xs us) (v : VPs h ps us) : ∀ u ∈ us, ∃ x, RelV x u ∧ RV K H x (dec h u) := by
    induction rv generalizing ps with
    | nil => intro u hu; cases hu
    | cons q t ih =>
      intro u hu
      cases r with
      | cons r1 r2 =>
        simp only [VPs] at v
        obtain ⟨u', ur, e, v1, v2⟩ := v
        cases e
        rcases List.mem_cons.mp hu with rfl | hu
        · exact ⟨_, q, by rw [dec_of v1]; exact r1⟩
        · exact ih r2 v2 u hu
theorem stb_symm {α : Type} {lt : α → α → Bool} {l m : List α} (h : SrtO.Stb lt l m) : SrtO.Stb lt m l := ⟨h.perm.symm, fun x => (h.cls x).symm⟩
theorem qc_sorted (hu : X.A.units + 70 < cLine) : QC X (.builtin "sorted") zSorted := by
  intro pins s σ H xs us Q I r ⟨ps, h, Qp, rp, rh, z, k⟩
  unfold zSorted at z
  split at z
  · rename_i a
    obtain ⟨v, rfl, r1⟩ := rvs_one rp
    cases r1
    split at z
    · rename_i qs ea
      obtain ⟨ok, z⟩ := z
      obtain ⟨ws, f1, l1, q1⟩ := rh a _ ea
      obtain ⟨its, rv, hl, hz⟩ := I.list (SqL.of f1)
      obtain ⟨u, rfl, ru⟩ := r.one
      obtain rfl : u = Value.ref a := ru
      have hp : PV.pls qs = true := by
        unfold sortOk at ok
        simp only [Bool.and_eq_true] at ok
        exact ok.1.1.1
      have vp := RVs.vp I qs ws its q1 hp rv
      have hzi : its.length ≤ sizeLine := by rw [← rv.length]; exact l1
      refine SrtO.sorted_ord (ltD_swo s.heap) hl.isList hzi (fun h2 h₁ a' ha kk => ?_) fun out hs hb => ?_
      · refine sortable_pv (s := { s with heap := h₁ }) vp (vp.keep (fun b o e _ => (kk b o e).2) qs its) ok h2 (by show X.A.units + 1 + 1 + 60 < cLine; omega) fun o e c => ?_
        have e' : some o = some (seqObj "list" its.toArray 0) := e.symm.trans ha
        cases e'
        exact absurd (Value.type.inj c) (by decide)
      · have hmap : out.map (dec s.heap) = isort qs := by
          have b1 : SrtO.Stb PV.o (out.map (dec s.heap)) (its.map (dec s.heap)) := SrtO.Stb.map PV.swo (dec s.heap) hb
          rw [vps_map vp] at b1
          exact SrtO.stb_uniq PV.swo (SrtO.srtd_map hs) (isort_ok qs).1 (b1.trans (stb_symm (isort_ok qs).2))
        obtain ⟨ys, y1, y2⟩ := back_rvs q1 rv vp out fun u m => hb.perm.mem_iff.mp m
        rw [hmap] at y2
        have hlen : ys.length ≤ sizeLine := by rw [y1.length, hb.perm.length_eq]; exact hzi
        have hfr : H (s.heap.objs.size + 1) = none := I.hok.fresh (Nat.le_succ _)
        obtain ⟨n, hn⟩ := sortedAll_at s.heap its out.toArray
        have st : Stp h H (up h (s.heap.objs.size + 1) (.lst (isort qs))) (upd H (s.heap.objs.size + 1) (.lst ys)) := stp_new rh hfr
        exact ⟨.ref (s.heap.objs.size + 1), _, I.laid (a := s.heap.objs.size + 1) (o := .lst ys) (t' := s.toks) (fun b o e => sortedAll_old e) (Nat.le_succ _) ⟨hlen, out, n, y1, hn⟩, rfl,
          k _ _ (z _ (rh.free hfr)) _ _ st (.ref _) (rh.put st ⟨ys, upd_same, hlen, y2.stp rh st⟩)⟩
    · exact False.elim z
  · exact False.elim z
end
end G

namespace G
open PySem PySem.Spec PyProof.Rows L2

/-! ### as the printed proofs use it -/
def nmOk (x : Str) : Bool := !(x == ("__debug__" : Str)) && !(x == ("__classdict__" : Str)) && !(x == ("__name__" : Str))
theorem nm1 {x : Str} (h : nmOk x = true) : (x == ("__debug__" : Str)) = false := by
  unfold nmOk at h; simp only [Bool.and_eq_true, Bool.not_eq_true'] at h; exact h.1.1
theorem nm2 {x : Str} (h : nmOk x = true) : (x == ("__classdict__" : Str)) = false := by
  unfold nmOk at h; simp only [Bool.and_eq_true, Bool.not_eq_true'] at h; exact h.1.2
theorem nm3 {x : Str} (h : nmOk x = true) : x ≠ "__name__" := by
  unfold nmOk at h; simp only [Bool.and_eq_true, Bool.not_eq_true'] at h
  intro e; rw [e] at h; exact absurd h.2 (by decide)
section
variable {X : Cx} {e a b c : Expr} {es : List Expr} {t ta tb : ZE} {ts : ZA} {tc : ZT} {pos p p1 p2 : Pos}
theorem qv {i : Nat} {x : Str} (hn : nmOk x = true) (hN : X.N[i]? = some x) (hv : Vis X.env.scope x) : QE X (.Name x pos) (zVar i) := qe_var hN hv (nm1 hn) (nm2 hn)
theorem q_str {y : Str} {x : List Nat} {j} (s : y = tS x) : QE X (.Constant (.str y) j pos) (zC (.str x)) := by subst s; exact qe_str
theorem q_glob {x : Str} {pv : PV} (hn : nmOk x = true) (hg : Gl X x) (h : ∃ v u, X.mg x = some u ∧ RelV v u ∧ ∀ H, RV X.K H v pv) : QE X (.Name x pos) (zC pv) := by
  obtain ⟨v, u, h1, h2, h3⟩ := h
  exact qe_glob hg h1 h2 h3 (nm1 hn)
theorem q_own {x : Str} {k n : Nat} {r : ZC} (F : QF X.prog X.w X.K X.mg X.base k x n r) (hr : Room k X.A) (hn : nmOk x = true) (hg : Gl X x) (ha : QA X (e :: es) ts)
    (he : starEach (e :: es) X.env = (false, eval e X.env) :: starEach es X.env) (hpl : (backTo pos (starEach es X.env)).any (·.1) = false) : QE X (.Call (.Name x p) (e :: es) [] pos) (zCall r ts) := qe_own F hr hg ha (nm1 hn) he hpl
theorem q_own0 {x : Str} {k : Nat} {r : ZC} (F : QF X.prog X.w X.K X.mg X.base k x 0 r) (hr : Room k X.A) (hn : nmOk x = true) (hg : Gl X x) : QE X (.Call (.Name x p) [] [] pos) (zCall r zaNil) := qe_own0 F hr hg (nm1 hn)
section
variable (ha : QA X (e :: es) ts) (he : starEach (e :: es) X.env = (false, eval e X.env) :: starEach es X.env) (hpl : (backTo pos (starEach es X.env)).any (·.1) = false)
include ha he hpl
theorem q_len (hg : Gl X "len") (hm : X.mg "len" = none) : QE X (.Call (.Name "len" p) (e :: es) [] pos) (zCall zLen ts) := qe_callB qc_len hg hm PySem.boot_len ha (by decide) (by decide) he hpl
theorem q_abs (hg : Gl X "abs") (hm : X.mg "abs" = none) : QE X (.Call (.Name "abs" p) (e :: es) [] pos) (zCall zAbs ts) := qe_callB qc_abs hg hm (by decide +kernel) ha (by decide) (by decide) he hpl
theorem q_sum (hc : X.calm = true) (hg : Gl X "sum") (hm : X.mg "sum" = none) : QE X (.Call (.Name "sum" p) (e :: es) [] pos) (zCall zSum ts) := qe_callB (qc_sum hc) hg hm (by decide +kernel) ha (by decide) (by decide) he hpl
theorem q_all (hc : X.calm = true) (hg : Gl X "all") (hm : X.mg "all" = none) : QE X (.Call (.Name "all" p) (e :: es) [] pos) (zCall zAll ts) := qe_callB (qc_all hc) hg hm (by decide +kernel) ha (by decide) (by decide) he hpl
theorem q_any (hc : X.calm = true) (hg : Gl X "any") (hm : X.mg "any" = none) : QE X (.Call (.Name "any" p) (e :: es) [] pos) (zCall zAny ts) := qe_callB (qc_any hc) hg hm (by decide +kernel) ha (by decide) (by decide) he hpl
theorem q_max (hc : X.calm = true) (hg : Gl X "max") (hm : X.mg "max" = none) : QE X (.Call (.Name "max" p) (e :: es) [] pos) (zCall zMax2 ts) := qe_callB (qc_max2 hc) hg hm (by decide +kernel) ha (by decide) (by decide) he hpl
theorem q_min (hc : X.calm = true) (hg : Gl X "min") (hm : X.mg "min" = none) : QE X (.Call (.Name "min" p) (e :: es) [] pos) (zCall zMin2 ts) := qe_callB (qc_min2 hc) hg hm (by decide +kernel) ha (by decide) (by decide) he hpl
theorem q_sorted (hu : X.A.units + 70 < cLine) (hg : Gl X "sorted") (hm : X.mg "sorted" = none) : QE X (.Call (.Name "sorted" p) (e :: es) [] pos) (zCall zSorted ts) := qe_callB (qc_sorted hu) hg hm (by decide +kernel) ha (by decide) (by decide) he hpl
theorem q_int (hg : Gl X "int") (hm : X.mg "int" = none) : QE X (.Call (.Name "int" p) (e :: es) [] pos) (zCall zInt ts) := qe_callTy qc_int hg hm (by decide +kernel) ha (by decide) (by decide) he hpl
theorem q_tuple (hg : Gl X "tuple") (hm : X.mg "tuple" = none) : QE X (.Call (.Name "tuple" p) (e :: es) [] pos) (zCall zTupC ts) := qe_callTy qc_tup hg hm (by decide +kernel) ha (by decide) (by decide) he hpl
theorem q_list (hc : X.calm = true) (hg : Gl X "list") (hm : X.mg "list" = none) : QE X (.Call (.Name "list" p) (e :: es) [] pos) (zCall zListC ts) := qe_callTy (qc_list hc) hg hm (by decide +kernel) ha (by decide) (by decide) he hpl
end
theorem q_isa (T : Ty) (hg : Gl X "isinstance") (hm : X.mg "isinstance" = none) (hgT : Gl X T.nm) (hmT : X.mg T.nm = none) (ha : QE X a ta)
    (h1 : starEach [a, .Name T.nm p2] X.env = (false, eval a X.env) :: starEach [.Name T.nm p2] X.env) (h2 : starEach [.Name T.nm p2] X.env = (false, eval (.Name T.nm p2) X.env) :: starEach [] X.env)
    (hpl : (backTo pos (starEach [.Name T.nm p2] X.env)).any (·.1) = false) : QE X (.Call (.Name "isinstance" p1) [a, .Name T.nm p2] [] pos) (zIsa T ta) :=
  qe_isa hg hm hgT hmT (by cases T <;> decide) (by cases T <;> decide) ha h1 h2 hpl
variable {o : Expr} {to : ZE} {ta' : ZA} {name : Str} {apos cpos : Pos}
section
variable (ho : QE X o to) (ha : QA X (e :: es) ta')
    (hfew : ((backTo cpos (starEach (e :: es) X.env)).all (fun x => !x.1) && (backToKw cpos (keywordEach [] X.env)).all (fun x => x.1.isSome)
      && decide ((e :: es).length + ([] : List Keyword).length + (if ([] : List Keyword).isEmpty then 0 else 1) < 30)) = true)
    (hline : (apos.endLine == cpos.line) = true) (hs : starEach (e :: es) X.env = (false, eval e X.env) :: starEach es X.env) (hplain : (backTo cpos (starEach es X.env)).any (·.1) = false)
include ho ha hfew hline hs hplain
theorem q_append (hbase : attributeBase o "append" X.env (eval o X.env) = eval o X.env) : QE X (.Call (.Attribute o "append" apos) (e :: es) [] cpos) (zMt "list" zAppend to ta') := qe_bm F.plainAttrs_list F.slot_list_append F.type_list_append qm_append ho ha hbase hfew hline hs hplain
theorem q_extend (hbase : attributeBase o "extend" X.env (eval o X.env) = eval o X.env) : QE X (.Call (.Attribute o "extend" apos) (e :: es) [] cpos) (zMt "list" zExtend to ta') := qe_bm F.plainAttrs_list F.slot_list_extend F.type_list_extend qm_extend ho ha hbase hfew hline hs hplain
theorem q_insert (hbase : attributeBase o "insert" X.env (eval o X.env) = eval o X.env) : QE X (.Call (.Attribute o "insert" apos) (e :: es) [] cpos) (zMt "list" zInsert to ta') := qe_bm F.plainAttrs_list F.slot_list_insert F.type_list_insert qm_insert ho ha hbase hfew hline hs hplain
theorem q_index (hu : X.A.units + 70 < cLine) (hbase : attributeBase o "index" X.env (eval o X.env) = eval o X.env) : QE X (.Call (.Attribute o "index" apos) (e :: es) [] cpos) (zMt "list" zIndex to ta') := qe_bm F.plainAttrs_list F.slot_list_index F.type_list_index (qm_index (by omega)) ho ha hbase hfew hline hs hplain
theorem q_get (hu : X.A.units + 70 < cLine) (hbase : attributeBase o "get" X.env (eval o X.env) = eval o X.env) : QE X (.Call (.Attribute o "get" apos) (e :: es) [] cpos) (zMt "dict" zDget to ta') := qe_bm F.plainAttrs_dict F.slot_dict_get F.type_dict_get (qm_dget (by omega)) ho ha hbase hfew hline hs hplain
end
theorem q_ix (hu : X.A.units + 70 < cLine) (ha : QE X a ta) (hb : QE X b tb) (hs : PlainIx b) : QE X (.Subscript a b pos) (z2 zIx ta tb) := qe_ix (by omega) ha hb hs
theorem q_eq (hu : X.A.units + 70 < cLine) : QO X (compareOp .Eq) zEq := qo_eq (by omega)
theorem q_ne (hu : X.A.units + 70 < cLine) : QO X (compareOp .NotEq) (zNot zEq) := qo_ne (by omega)
theorem qg_sub' {o i : Expr} {to ti : ZE} (hu : X.A.units + 70 < cLine) (ho : QE X o to) (hi : QE X i ti)
    (ha : ∀ v, assign (.Subscript o i pos) X.env v = (do
      let ov ← holding [v] (eval o X.env)
      let iv ← holding [v, ov] (eval i X.env)
      standAt pos
      holding [v, ov, iv] (setItem ov iv v)
      release [v, ov, iv] [])) : QG X (.Subscript o i pos) (zgSub to ti) := qg_sub (by omega) ho hi ha
theorem q_w {t : ZT} (h : QW X e t) : QT X e t := PW.pt h
end
theorem hu_of {k : Nat} {A : Around} (r : Room k A) : A.units + 70 < cLine := by have := r.un; omega
end G

namespace G
open PySem PySem.Spec PyProof.Rows L2

/-! ### from the head's facts to the defs -/
/-- the def stands at the top -/
def FB (K : PySem.W.Frag) (mg : Str → Option Value) (x : Str) (st : Stmt) (ps : List Str) : Prop :=
  ∃ (f : Addr) (fd : FuncData), FunD K x x (defArgs st) (defBody st) (defScope st) [] [] f fd ∧ mg x = some (.ref f) ∧ ∀ (s : Shared) (us : List Value), us.length = ps.length → BindsTo s fd ⟨us, []⟩ (ps.zip us)
theorem binds_of {K : PySem.W.Frag} {fd : FuncData} {ps : List Str} (h : ∀ (s : Shared) (us : List Value), us.length = ps.length → BindsTo s fd ⟨us, []⟩ (ps.zip us)) : Binds K fd ps [] := fun s us _ hl => by
  rw [List.append_nil] at hl ⊢
  exact h s us hl
section
variable {P : Program} {w : World} {K : PySem.W.Frag} {mg : Str → Option Value} {base : Heap}
theorem qfd {x : Str} {st : Stmt} {N ps : List Str} {k n m : Nat} {zb : ZS} (h : FB K mg x st ps) (S : FnScope N ps (defScope st)) (hn : N.length = n) (hm : ps.length = m)
    (body : ∀ (f : Addr) (cdv : Value) (A : Around) (outer : List Env) (s : Shared) (H : Hp) (E : XK), Room k (A.deeper (envOfC x (defScope st) s.heap.objs.size f cdv)) → QSs (cxOf CX0 P w K mg base N x (defScope st) f cdv A outer s H E).nox (defBody st) zb) :
    QF P w K mg base (k + 1) x m (zFn n m zb) := by
  obtain ⟨f, fd, F, hg, hb⟩ := h
  refine ⟨f, fd, ps, F.ok S (fun vs H Q E h => ?_) (fun cdv A outer s H vs Q E hr h => ?_), hg, F.kp, binds_of hb⟩
  · obtain ⟨ps', h, Qp, rv, rh, ⟨hz1, hz⟩, kk⟩ := h
    rw [rv.length, hm]; exact hz1
  obtain ⟨ps', h, Qp, rv, rh, ⟨hz1, hz⟩, kk⟩ := h
  refine ⟨_, (body f cdv A outer s H E hr).nox, _, h, _, rs_start rv N, rh, by rw [hz1, hn]; exact hz, ?_⟩
  refine ⟨fun ρ' h' ⟨h2, u, q⟩ σ' H' s rs rh' => ?_, fun p h' ⟨h2, u, q⟩ v H' s rv rh' => ?_, fun _ _ z => z.elim, fun _ _ z => z.elim⟩
  · exact kk _ _ q _ _ (stp_sub s u) .non (rh'.sub u)
  · exact kk _ _ q _ _ (stp_sub s u) rv (rh'.sub u)
theorem qfd0 {x : Str} {st : Stmt} {ps : List Str} {m : Nat} (h : FB K mg x st ps) : QF P w K mg base 0 x m (fun _ _ _ => False) := by
  obtain ⟨f, fd, F, hg, hb⟩ := h
  refine ⟨f, fd, ps, ⟨fun vs H Q E h => ?_, fun A outer s H args us vs Q E hr e0 hb' r h => ?_⟩, hg, F.kp, binds_of hb⟩
  · obtain ⟨ps', h, Qp, rv, rh, z, kk⟩ := h; exact z.elim
  · obtain ⟨ps', h, Qp, rv, rh, z, kk⟩ := h; exact z.elim
/-- the law's own def -/
theorem law_ok {st : Stmt} {N : List Str} {k n : Nat} {zb : ZS} {fa : Addr} (h : FB K mg "law" st ["script"]) (S : FnScope N ["script"] (defScope st)) (hn : N.length = n) (hfa : mg "law" = some (.ref fa))
    (body : ∀ base : Heap, K.In base → base.Ns mainGlobals mg → ∀ (f : Addr) (cdv : Value) (A : Around) (outer : List Env) (s : Shared) (H : Hp) (E : XK), Room k (A.deeper (envOfC "law" (defScope st) s.heap.objs.size f cdv)) → QSs (cxOf CX0 P w K mg base N "law" (defScope st) f cdv A outer s H E).nox (defBody st) zb)
    (math : ∀ ns : List Int, ns.length ≤ 63 → zFn n 1 zb [.scr ns] (fun _ => none) fun p _ => p = .bl true) :
    ∃ (fd : FuncData) (sp : Sp), (∀ (s : Shared) (u : Value), BindsTo s fd ⟨[u], []⟩ [("script", u)]) ∧
        (∀ (H : Hp) (a : Addr) (ns : List Int), ns.length ≤ 63 → Only H → SqL K H a (ns.map V.int) → sp [.ref a] H (fun v _ => v = .bl true) fun _ _ _ => False) ∧
        ∀ base : Heap, K.In base → base.Ns mainGlobals mg → FnOk P w K mg base CX0 (k + 1) fa fd ["script"] sp := by
  obtain ⟨f, fd, F, hg, hb⟩ := h
  have e := hfa.symm.trans hg
  cases e
  refine ⟨fd, spOf P w K (zFn n 1 zb), fun s u => hb s [u] rfl, fun H a ns hl hO hS => ?_, fun base hK hB => ?_⟩
  · refine ⟨[.scr ns], fun _ => none, fun p _ => p = .bl true, .cons (.scr ?_ hl) .nil, (fun _ _ z => nomatch z), math ns hl, fun p h' q v H' s rv rh => ?_⟩
    · rcases hS with (hS | ⟨o, hS⟩) | hS
      · rcases hO a with z | ⟨o, xs, z⟩ <;> rw [z] at hS <;> cases hS
      · exact .inl ⟨o, hS⟩
      · exact .inr hS
    · subst q; cases rv; rfl
  · refine F.ok S (fun vs H Q E h => ?_) (fun cdv A outer s H vs Q E hr h => ?_)
    · obtain ⟨ps', h, Qp, rv, rh, ⟨hz1, hz⟩, kk⟩ := h
      rw [rv.length]; exact hz1
    obtain ⟨ps', h, Qp, rv, rh, ⟨hz1, hz⟩, kk⟩ := h
    refine ⟨_, (body base hK hB fa cdv A outer s H E hr).nox, _, h, _, rs_start rv N, rh, by rw [hz1, hn]; exact hz, ?_⟩
    refine ⟨fun ρ' h' ⟨h2, u, q⟩ σ' H' s rs rh' => ?_, fun p h' ⟨h2, u, q⟩ v H' s rv rh' => ?_, fun _ _ z => z.elim, fun _ _ z => z.elim⟩
    · exact kk _ _ q _ _ (stp_sub s u) .non (rh'.sub u)
    · exact kk _ _ q _ _ (stp_sub s u) rv (rh'.sub u)
end
/-! ### a constant of the top, as a tree -/
def tvB (K : PySem.W.Frag) : Nat → PV → Value → Bool
  | 0, _, _ => false
  | n + 1, p, u => match p, u with
    | .non, .none => true
    | .bl b, .bool c => b == c
    | .int i, .int j _ => i == j
    | .str x, .str y _ => y.cps.toList == x
    | .tup ps, .ref a => (match K.lookup a with
      | some ⟨.type t, _, .seq its _, _⟩ => t == "tuple" && (decide (its.size ≤ 1000) && (decide (its.size = ps.length) && (ps.zip its.toList).all fun z => tvB K n z.1 z.2))
      | _ => false)
    | _, _ => false
def conB' (K : PySem.W.Frag) (x : Str) (p : PV) : Bool := match PySem.W.nsIn K mainGlobals x with
  | some (some u) => tvB K 12 p u
  | _ => false
theorem tv_all {K : PySem.W.Frag} {n : Nat} (ih : ∀ (p : PV) (u : Value), tvB K n p u = true → ∃ v, RelV v u ∧ ∀ H, RV K H v p) : ∀ (ps : List PV) (us : List Value), us.length = ps.length → ((ps.zip us).all fun z => tvB K n z.1 z.2) = true → ∃ vs, Vals vs us ∧ ∀ H, RVs K H vs ps
  | [], [], _, _ => ⟨[], .nil, fun _ => .nil⟩
  | [], _ :: _, hl, _ => by simp at hl
  | _ :: _, [], hl, _ => by simp at hl
  | p :: ps, u :: us, hl, h => by
    simp only [List.zip_cons_cons, List.all_cons, Bool.and_eq_true] at h
    obtain ⟨v, h1, h2⟩ := ih p u h.1
    obtain ⟨vs, h3, h4⟩ := tv_all ih ps us (by simpa using hl) h.2
    exact ⟨v :: vs, .cons h1 h3, fun H => .cons (h2 H) (h4 H)⟩
theorem tvB_ok {K : PySem.W.Frag} : ∀ (n : Nat) (p : PV) (u : Value), tvB K n p u = true → ∃ v, RelV v u ∧ ∀ H, RV K H v p
  | 0, _, _, h => by simp [tvB] at h
  | n + 1, p, u, h => by
    unfold tvB at h
    split at h
    · exact ⟨.non, rfl, fun _ => .non⟩
    · rw [beq_iff_eq] at h; subst h; exact ⟨.bl _, rfl, fun _ => .bl _⟩
    · rw [beq_iff_eq] at h; subst h; exact ⟨.int _, ⟨_, rfl⟩, fun _ => .int _⟩
    · rw [beq_iff_eq] at h; subst h
      rename_i y t
      exact ⟨.str y, ⟨_, rfl⟩, fun H => by have := RV.str (K := K) (H := H) y.cps.toList; rw [tS_of] at this; exact this⟩
    · rename_i ps a
      split at h
      · rename_i t dd its m sl e
        simp only [Bool.and_eq_true, decide_eq_true_eq, beq_iff_eq] at h
        obtain ⟨h1, h2, h3, h4⟩ := h
        subst h1
        obtain ⟨vs, h5, h6⟩ := tv_all (tvB_ok n) ps its.toList (by simpa using h3) h4
        refine ⟨.ref a, rfl, fun H => .tup (.inr ?_) ?_ (h6 H)⟩
        · exact ⟨_, its, m, e, rfl, rfl, by rw [sizeLine_eq]; omega, h5⟩
        · rw [h5.length, Array.length_toList, sizeLine_eq]; omega
      · cases h
    · cases h
theorem con_ok {K : PySem.W.Frag} {h : Heap} {mg : Str → Option Value} (X : K.In h) (G : h.Ns mainGlobals mg) {x : Str} {p : PV} (c : conB' K x p = true) : ∃ v u, mg x = some u ∧ RelV v u ∧ ∀ H, RV K H v p := by
  unfold conB' at c
  split at c
  · rename_i u e
    obtain ⟨v, h1, h2⟩ := tvB_ok _ _ _ c
    exact ⟨v, u, PySem.W.mg_of X G e, h1, h2⟩
  · cases c
end G

namespace G
open PySem PySem.Spec PyProof.Rows L2

/-! ### reading -/
theorem zVar_ok {i : Nat} {ρ : Ev} {h : PH} {Q : QV} {p : PV} (e : ρ[i]? = some (some p)) : zVar i ρ h Q = Q p h := by
  unfold zVar
  rw [e]
  simp
theorem zEq_str {x y : List Nat} {h : PH} {Q : QV} : zEq (.str x) (.str y) h Q = Q (.bl (decide (x = y))) h := by
  simp [zEq, PV.flat, PV.v, scal]
theorem zEq_int {x y : Int} {h : PH} {Q : QV} : zEq (.int x) (.int y) h Q = Q (.bl (decide (x = y))) h := by
  simp [zEq, PV.flat, PV.v, scal]
theorem zNe_str {x y : List Nat} {h : PH} {Q : QV} : zNot zEq (.str x) (.str y) h Q = Q (.bl (!decide (x = y))) h := by
  simp [zNot, zEq_str]
theorem zNe_int {x y : Int} {h : PH} {Q : QV} : zNot zEq (.int x) (.int y) h Q = Q (.bl (!decide (x = y))) h := by
  simp [zNot, zEq_int]
def zEqO : Option PO → Option PO → PH → QV → Prop
  | some (.lst xs), some (.lst ys), h, Q => PV.pls xs = true ∧ PV.pls ys = true ∧ PV.dps xs ≤ 63 ∧ PV.dps ys ≤ 63 ∧ Q (.bl (decide (xs = ys))) h
  | _, _, _, _ => False
theorem zEq_r {a b : Addr} {h : PH} {Q : QV} : zEq (.ref a) (.ref b) h Q = zEqO (h a) (h b) h Q := by
  apply propext
  constructor
  · rintro ⟨xs, ys, e1, e2, z⟩; rw [e1, e2]; exact z
  · intro z
    unfold zEqO at z
    split at z
    · rename_i xs ys e1 e2; exact ⟨xs, ys, e1, e2, z⟩
    · exact z.elim
theorem zEqO_l {xs ys : List PV} {h : PH} {Q : QV} : zEqO (some (.lst xs)) (some (.lst ys)) h Q = (PV.pls xs = true ∧ PV.pls ys = true ∧ PV.dps xs ≤ 63 ∧ PV.dps ys ≤ 63 ∧ Q (.bl (decide (xs = ys))) h) := rfl
theorem zEq_tt {a b : List PV} {h : PH} {Q : QV} : zEq (.tup a) (.tup b) h Q = (PV.pls a = true ∧ (PV.tup b).pl = true ∧ PV.dps a ≤ 63 ∧ (PV.tup b).dp ≤ 64 ∧ Q (.bl (decide (PV.tup a = .tup b))) h) := rfl
theorem zEq_ti {a : List PV} {b : Int} {h : PH} {Q : QV} : zEq (.tup a) (.int b) h Q = (PV.pls a = true ∧ (PV.int b).pl = true ∧ PV.dps a ≤ 63 ∧ (PV.int b).dp ≤ 64 ∧ Q (.bl (decide (PV.tup a = .int b))) h) := rfl
theorem zEq_it {a : Int} {b : List PV} {h : PH} {Q : QV} : zEq (.int a) (.tup b) h Q = ((PV.int a).pl = true ∧ PV.pls b = true ∧ PV.dps b ≤ 63 ∧ Q (.bl (decide (PV.int a = .tup b))) h) := rfl
theorem zIs_n {p : PV} {h : PH} {Q : QV} : zIs false p .non h Q = Q (.bl (decide (p = .non))) h := by cases p <;> rfl
theorem zIsN_n {p : PV} {h : PH} {Q : QV} : zIs true p .non h Q = Q (.bl (!decide (p = .non))) h := by cases p <;> rfl
theorem zI_int {C : Int → Int → Prop} {g : Int → Int → PV} {i j : Int} {h : PH} {Q : QV} : zI C g (.int i) (.int j) h Q = (C i j ∧ Q (g i j) h) := rfl
theorem zI_int' {C : Int → Int → Prop} {g : Int → Int → PV} {i j : Int} {h : PH} {Q : QV} : zI C g (.int i) (.int j) h Q = (C i j ∧ Q (g i j) h) := rfl
theorem zSub_i {i j : Int} {h : PH} {Q : QV} : zSub (.int i) (.int j) h Q = Q (.int (i - j)) h := by simp [zSub, zI]
theorem zAdd_i {i j : Int} {h : PH} {Q : QV} : zAdd (.int i) (.int j) h Q = Q (.int (i + j)) h := rfl
theorem zAdd_s {i j : List Nat} {h : PH} {Q : QV} : zAdd (.str i) (.str j) h Q = (i.length + j.length ≤ sizeLine ∧ Q (.str (i ++ j)) h) := rfl
theorem zAdd_t {i j : List PV} {h : PH} {Q : QV} : zAdd (.tup i) (.tup j) h Q = (i.length + j.length ≤ sizeLine ∧ Q (.tup (i ++ j)) h) := rfl
def zAddO : Option PO → Option PO → PH → QV → Prop
  | some (.lst xs), some (.lst ys), h, Q => xs.length + ys.length ≤ sizeLine ∧ ∀ p, h p = none → Q (.ref p) (up h p (.lst (xs ++ ys)))
  | _, _, _, _ => False
theorem zAdd_r {a b : Addr} {h : PH} {Q : QV} : zAdd (.ref a) (.ref b) h Q = zAddO (h a) (h b) h Q := by
  apply propext
  constructor
  · rintro ⟨xs, ys, e1, e2, z⟩; rw [e1, e2]; exact z
  · intro z
    unfold zAddO at z
    split at z
    · rename_i xs ys e1 e2; exact ⟨xs, ys, e1, e2, z⟩
    · exact z.elim
theorem zAddO_l {xs ys : List PV} {h : PH} {Q : QV} : zAddO (some (.lst xs)) (some (.lst ys)) h Q = (xs.length + ys.length ≤ sizeLine ∧ ∀ p, h p = none → Q (.ref p) (up h p (.lst (xs ++ ys)))) := rfl
theorem zDiv_i {i j : Int} {h : PH} {Q : QV} : zDiv (.int i) (.int j) h Q = ((0 < j ∧ j < 1073741824) ∧ Q (.int (i / j)) h) := rfl
theorem zMod_i {i j : Int} {h : PH} {Q : QV} : zMod (.int i) (.int j) h Q = (0 < j ∧ Q (.int (i % j)) h) := rfl
theorem zPow_i {i j : Int} {h : PH} {Q : QV} : zPow (.int i) (.int j) h Q = ((0 ≤ j ∧ j ≤ 1000000 ∧ i.natAbs < 2 ^ 64) ∧ Q (.int (i ^ j.toNat)) h) := rfl
theorem zMul_i {i j : Int} {h : PH} {Q : QV} : zMul (.int i) (.int j) h Q = (CMulA i j ∧ Q (.int (i * j)) h) := rfl
theorem zLt_i {i j : Int} {h : PH} {Q : QV} : zLt (.int i) (.int j) h Q = Q (.bl (decide (i < j))) h := by simp [zLt, zI]
theorem zLe_i {i j : Int} {h : PH} {Q : QV} : zLe (.int i) (.int j) h Q = Q (.bl (decide (i ≤ j))) h := by simp [zLe, zI]
theorem zGt_i {i j : Int} {h : PH} {Q : QV} : zGt (.int i) (.int j) h Q = Q (.bl (decide (j < i))) h := by simp [zGt, zI]
theorem zGe_i {i j : Int} {h : PH} {Q : QV} : zGe (.int i) (.int j) h Q = Q (.bl (decide (j ≤ i))) h := by simp [zGe, zI]
/-- by what stands at the address -/
def zIxO : Option PO → PV → PH → QV → Prop
  | some (.lst xs), .int i, h, Q => ∃ v, atI xs i = some v ∧ Q v h
  | some (.dic t _ kvs), k, h, Q => keyOk t k = true ∧ ∃ v, dget kvs k = some v ∧ Q v h
  | _, _, _, _ => False
theorem zIx_r {a : Addr} {k : PV} {h : PH} {Q : QV} : zIx (.ref a) k h Q = zIxO (h a) k h Q := by
  simp only [zIx]
  cases h a with
  | none => cases k <;> rfl
  | some o => cases o <;> cases k <;> rfl
theorem zIx_t {xs : List PV} {i : Int} {h : PH} {Q : QV} : zIx (.tup xs) (.int i) h Q = ∃ v, atI xs i = some v ∧ Q v h := rfl
theorem zIx_s {xs : List Nat} {i : Int} {h : PH} {Q : QV} : zIx (.str xs) (.int i) h Q = ∃ c, xs.length ≤ sizeLine ∧ atI xs i = some c ∧ Q (.str [c]) h := rfl
theorem zIxO_l {xs : List PV} {i : Int} {h : PH} {Q : QV} : zIxO (some (.lst xs)) (.int i) h Q = ∃ v, atI xs i = some v ∧ Q v h := rfl
theorem zIxO_d {t : Bool} {l} {kvs : List (PV × PV)} {k : PV} {h : PH} {Q : QV} : zIxO (some (.dic t l kvs)) k h Q = (keyOk t k = true ∧ ∃ v, dget kvs k = some v ∧ Q v h) := by cases k <;> rfl
def zSetO (a : Addr) : Option PO → PV → PV → PH → (PH → Prop) → Prop
  | some (.lst xs), .int i, v, h, Q => ∃ j, ixN xs.length i = some j ∧ Q (up h a (.lst (xs.set j v)))
  | some (.dic t none kvs), k, v, h, Q => keyOk t k = true ∧ kvs.length < sizeLine ∧ Q (up h a (.dic t none (dput kvs k v)))
  | _, _, _, _, _ => False
theorem zSet_r {a : Addr} {k v : PV} {h : PH} {Q : PH → Prop} : zSet (.ref a) k v h Q = zSetO a (h a) k v h Q := by
  simp only [zSet]
  cases h a with
  | none => cases k <;> rfl
  | some o =>
    cases o with
    | lst _ => cases k <;> rfl
    | dic t l _ => cases l <;> cases k <;> rfl
theorem zSetO_l {a : Addr} {xs : List PV} {i : Int} {v : PV} {h : PH} {Q : PH → Prop} : zSetO a (some (.lst xs)) (.int i) v h Q = ∃ j, ixN xs.length i = some j ∧ Q (up h a (.lst (xs.set j v))) := rfl
theorem zSetO_d {a : Addr} {t : Bool} {kvs : List (PV × PV)} {k v : PV} {h : PH} {Q : PH → Prop} : zSetO a (some (.dic t none kvs)) k v h Q = (keyOk t k = true ∧ kvs.length < sizeLine ∧ Q (up h a (.dic t none (dput kvs k v)))) := by cases k <;> rfl
def zLenO : Option PO → PH → QV → Prop
  | some (.lst xs), h, Q => Q (.int xs.length) h
  | some (.dic _ _ kvs), h, Q => Q (.int kvs.length) h
  | none, _, _ => False
theorem zLen_r {a : Addr} {h : PH} {Q : QV} : zLen [.ref a] h Q = zLenO (h a) h Q := by
  simp only [zLen]
  cases h a with
  | none => rfl
  | some o => cases o <;> rfl
theorem zLen_t {xs : List PV} {h : PH} {Q : QV} : zLen [.tup xs] h Q = Q (.int xs.length) h := rfl
theorem zLen_s {xs : List Nat} {h : PH} {Q : QV} : zLen [.str xs] h Q = (xs.length ≤ sizeLine ∧ Q (.int xs.length) h) := rfl
theorem zLenO_l {xs : List PV} {h : PH} {Q : QV} : zLenO (some (.lst xs)) h Q = Q (.int xs.length) h := rfl
theorem zLenO_d {t : Bool} {l} {kvs : List (PV × PV)} {h : PH} {Q : QV} : zLenO (some (.dic t l kvs)) h Q = Q (.int kvs.length) h := rfl
theorem zAbs_i {i : Int} {h : PH} {Q : QV} : zAbs [.int i] h Q = Q (.int (if i < 0 then -i else i)) h := rfl
theorem zInt_i {i : Int} {h : PH} {Q : QV} : zInt [.int i] h Q = Q (.int i) h := rfl
theorem zInt_b {b : Bool} {h : PH} {Q : QV} : zInt [.bl b] h Q = Q (.int (if b then 1 else 0)) h := rfl
theorem zMax_i {i j : Int} {h : PH} {Q : QV} : zMax2 [.int i, .int j] h Q = Q (.int (if j > i then j else i)) h := rfl
theorem zMin_i {i j : Int} {h : PH} {Q : QV} : zMin2 [.int i, .int j] h Q = Q (.int (if j < i then j else i)) h := rfl
def zTupO : Option PO → PH → QV → Prop
  | some (.lst xs), h, Q => Q (.tup xs) h
  | _, _, _ => False
theorem zTupC_r {a : Addr} {h : PH} {Q : QV} : zTupC [.ref a] h Q = zTupO (h a) h Q := by
  simp only [zTupC]
  cases h a with
  | none => rfl
  | some o => cases o <;> rfl
theorem zTupC_t {xs : List PV} {h : PH} {Q : QV} : zTupC [.tup xs] h Q = Q (.tup xs) h := rfl
theorem zTupO_l {xs : List PV} {h : PH} {Q : QV} : zTupO (some (.lst xs)) h Q = Q (.tup xs) h := rfl
def zListO : Option PO → PH → QV → Prop
  | some (.lst xs), h, Q => ∀ p, h p = none → Q (.ref p) (up h p (.lst xs))
  | some (.dic false none kvs), h, Q => ∀ p, h p = none → Q (.ref p) (up h p (.lst (kvs.map Prod.fst)))
  | _, _, _ => False
theorem zListC_r {a : Addr} {h : PH} {Q : QV} : zListC [.ref a] h Q = zListO (h a) h Q := by
  simp only [zListC]
  cases h a with
  | none => rfl
  | some o =>
    cases o with
    | lst _ => rfl
    | dic t l _ => cases t <;> cases l <;> rfl
theorem zListC_t {xs : List PV} {h : PH} {Q : QV} : zListC [.tup xs] h Q = ∀ p, h p = none → Q (.ref p) (up h p (.lst xs)) := rfl
theorem zListC_s {ns : List Int} {h : PH} {Q : QV} : zListC [.scr ns] h Q = (ns.length ≤ 63 → ∀ p, h p = none → Q (.ref p) (up h p (.lst (ns.map PV.int)))) := rfl
theorem zListO_l {xs : List PV} {h : PH} {Q : QV} : zListO (some (.lst xs)) h Q = ∀ p, h p = none → Q (.ref p) (up h p (.lst xs)) := rfl
theorem zListO_d {kvs : List (PV × PV)} {h : PH} {Q : QV} : zListO (some (.dic false none kvs)) h Q = ∀ p, h p = none → Q (.ref p) (up h p (.lst (kvs.map Prod.fst))) := rfl
def zSumO : Option PO → PH → QV → Prop
  | some (.lst xs), h, Q => ∃ ns, intsP xs = some ns ∧ Q (.int ns.sum) h
  | _, _, _ => False
theorem zSum_r {a : Addr} {h : PH} {Q : QV} : zSum [.ref a] h Q = zSumO (h a) h Q := by
  simp only [zSum]
  cases h a with
  | none => rfl
  | some o => cases o <;> rfl
theorem zSumO_l {xs : List PV} {h : PH} {Q : QV} : zSumO (some (.lst xs)) h Q = ∃ ns, intsP xs = some ns ∧ Q (.int ns.sum) h := rfl
def zAllO : Option PO → PH → QV → Prop
  | some (.lst xs), h, Q => ∃ ns, blsP xs = some ns ∧ Q (.bl (ns.all id)) h
  | _, _, _ => False
theorem zAll_r {a : Addr} {h : PH} {Q : QV} : zAll [.ref a] h Q = zAllO (h a) h Q := by
  simp only [zAll]
  cases h a with
  | none => rfl
  | some o => cases o <;> rfl
theorem zAllO_l {xs : List PV} {h : PH} {Q : QV} : zAllO (some (.lst xs)) h Q = ∃ ns, blsP xs = some ns ∧ Q (.bl (ns.all id)) h := rfl
def zSortO : Option PO → PH → QV → Prop
  | some (.lst ps), h, Q => sortOk ps = true ∧ ∀ d, h d = none → Q (.ref d) (up h d (.lst (isort ps)))
  | _, _, _ => False
theorem zSorted_r {a : Addr} {h : PH} {Q : QV} : zSorted [.ref a] h Q = zSortO (h a) h Q := by
  simp only [zSorted]
  cases h a with
  | none => rfl
  | some o => cases o <;> rfl
theorem zSortO_l {xs : List PV} {h : PH} {Q : QV} : zSortO (some (.lst xs)) h Q = (sortOk xs = true ∧ ∀ d, h d = none → Q (.ref d) (up h d (.lst (isort xs)))) := rfl
def zTrO : Option PO → (Bool → Prop) → Prop
  | some (.lst xs), Q => Q (!xs.isEmpty)
  | some (.dic false none kvs), Q => Q (!kvs.isEmpty)
  | _, _ => False
theorem zTr_r {a : Addr} {h : PH} {Q : Bool → Prop} : zTr (.ref a) h Q = zTrO (h a) Q := by
  simp only [zTr]
  cases h a with
  | none => rfl
  | some o =>
    cases o with
    | lst _ => rfl
    | dic t l _ => cases t <;> cases l <;> rfl
theorem zTr_n {h : PH} {Q : Bool → Prop} : zTr .non h Q = Q false := rfl
theorem zTr_b {b : Bool} {h : PH} {Q : Bool → Prop} : zTr (.bl b) h Q = Q b := rfl
theorem zTr_i {i : Int} {h : PH} {Q : Bool → Prop} : zTr (.int i) h Q = Q (i != 0) := rfl
theorem zTr_s {x : List Nat} {h : PH} {Q : Bool → Prop} : zTr (.str x) h Q = (x.length ≤ sizeLine ∧ Q (!x.isEmpty)) := rfl
theorem zTr_t {x : List PV} {h : PH} {Q : Bool → Prop} : zTr (.tup x) h Q = Q (!x.isEmpty) := rfl
theorem zTrO_l {xs : List PV} {Q : Bool → Prop} : zTrO (some (.lst xs)) Q = Q (!xs.isEmpty) := rfl
theorem zTrO_d {kvs : List (PV × PV)} {Q : Bool → Prop} : zTrO (some (.dic false none kvs)) Q = Q (!kvs.isEmpty) := rfl
def zHasO : PV → Option PO → (Bool → Prop) → Prop
  | x, some (.lst ys), Q => x.pl = true ∧ x.dp ≤ 64 ∧ PV.pls ys = true ∧ PV.dps ys ≤ 63 ∧ Q (decide (x ∈ ys))
  | x, some (.dic t _ kvs), Q => keyOk t x = true ∧ Q (dget kvs x).isSome
  | _, none, _ => False
theorem zHas_r {x : PV} {a : Addr} {h : PH} {Q : Bool → Prop} : zHas x (.ref a) h Q = zHasO x (h a) Q := by
  cases e : h a with
  | none => cases x <;> simp only [zHas, e, zHasO]
  | some o => cases o <;> cases x <;> simp only [zHas, e, zHasO]
theorem zHas_t {x : PV} {ys : List PV} {h : PH} {Q : Bool → Prop} : zHas x (.tup ys) h Q = (x.pl = true ∧ x.dp ≤ 64 ∧ PV.pls ys = true ∧ PV.dps ys ≤ 63 ∧ Q (decide (x ∈ ys))) := by cases x <;> rfl
theorem zHasO_l {x : PV} {ys : List PV} {Q : Bool → Prop} : zHasO x (some (.lst ys)) Q = (x.pl = true ∧ x.dp ≤ 64 ∧ PV.pls ys = true ∧ PV.dps ys ≤ 63 ∧ Q (decide (x ∈ ys))) := rfl
theorem zHasO_d {x : PV} {t : Bool} {l} {kvs : List (PV × PV)} {Q : Bool → Prop} : zHasO x (some (.dic t l kvs)) Q = (keyOk t x = true ∧ Q (dget kvs x).isSome) := rfl
def zSlO : Option PO → Option Int → Option Int → PH → QV → Prop
  | some (.lst xs), lo, hi, h, Q => ∀ p, h p = none → Q (.ref p) (up h p (.lst (cut xs lo hi)))
  | _, _, _, _, _ => False
theorem zSlV_r {a : Addr} {lo hi : Option Int} {h : PH} {Q : QV} : zSlV (.ref a) lo hi h Q = zSlO (h a) lo hi h Q := by
  simp only [zSlV]
  cases h a with
  | none => rfl
  | some o => cases o <;> rfl
theorem zSlV_t {xs : List PV} {lo hi : Option Int} {h : PH} {Q : QV} : zSlV (.tup xs) lo hi h Q = Q (.tup (cut xs lo hi)) h := rfl
theorem zSlV_s {xs : List Nat} {lo hi : Option Int} {h : PH} {Q : QV} : zSlV (.str xs) lo hi h Q = (xs.length ≤ sizeLine ∧ Q (.str (cut xs lo hi)) h) := rfl
theorem zSlO_l {xs : List PV} {lo hi : Option Int} {h : PH} {Q : QV} : zSlO (some (.lst xs)) lo hi h Q = ∀ p, h p = none → Q (.ref p) (up h p (.lst (cut xs lo hi))) := rfl
def zoI (p : PV) (h1 : PH) (Q : Option Int → PH → Prop) : Prop := match p with | .int i => Q (some i) h1 | _ => False
theorem zoSome_ok {t : ZE} {ρ : Ev} {h : PH} {Q : Option Int → PH → Prop} : zoSome t ρ h Q = t ρ h fun p h1 => zoI p h1 Q := rfl
theorem zoI_i {i : Int} {h : PH} {Q : Option Int → PH → Prop} : zoI (.int i) h Q = Q (some i) h := rfl
def ztBI (p : PV) (h1 : PH) (Q : Bool → PH → Prop) : Prop := match p with | .bl k => Q k h1 | _ => False
theorem ztB_ok {t : ZE} {ρ : Ev} {h : PH} {Q : Bool → PH → Prop} : ztB t ρ h Q = t ρ h fun p h1 => ztBI p h1 Q := rfl
theorem ztBI_b {k : Bool} {h : PH} {Q : Bool → PH → Prop} : ztBI (.bl k) h Q = Q k h := rfl
def zNegI (p : PV) (h1 : PH) (Q : QV) : Prop := match p with | .int i => Q (.int (-i)) h1 | _ => False
theorem zNeg_ok {t : ZE} {ρ : Ev} {h : PH} {Q : QV} : zNeg t ρ h Q = t ρ h fun p h1 => zNegI p h1 Q := rfl
theorem zNegI_i {i : Int} {h : PH} {Q : QV} : zNegI (.int i) h Q = Q (.int (-i)) h := rfl
def zNotI (p : PV) (h' : PH) (Q : QV) : Prop := match p with | .bl k => Q (.bl (!k)) h' | _ => False
theorem zNot_ok {r : Z2} {a b : PV} {h : PH} {Q : QV} : zNot r a b h Q = r a b h fun p h' => zNotI p h' Q := rfl
theorem zNotI_b {k : Bool} {h : PH} {Q : QV} : zNotI (.bl k) h Q = Q (.bl (!k)) h := rfl
def zgTupI (n : Nat) (gs : ZGs) (p : PV) (ρ : Ev) (h : PH) (Q : Ev → PH → Prop) : Prop := zgTup n gs p ρ h Q
theorem zgTup_t {n : Nat} {gs : ZGs} {xs : List PV} {ρ : Ev} {h : PH} {Q : Ev → PH → Prop} : zgTup n gs (.tup xs) ρ h Q = (xs.length = n ∧ gs xs ρ h Q) := rfl
theorem zgCons_c {g : ZG} {gs : ZGs} {p : PV} {r : List PV} {ρ : Ev} {h : PH} {Q : Ev → PH → Prop} : zgCons g gs (p :: r) ρ h Q = g p ρ h fun ρ' h' => gs r ρ' h' Q := rfl
theorem zgNil_n {ρ : Ev} {h : PH} {Q : Ev → PH → Prop} : zgNil [] ρ h Q = Q ρ h := by simp [zgNil]
def zMtI (T : String) (r : ZM) (p : PV) (ρ : Ev) (h1 : PH) (t : ZA) (Q : QV) : Prop := tyP T p h1 ∧ t ρ h1 fun ps h2 => r p ps h2 Q
def tyO (T : String) : Option PO → Prop
  | some (.lst _) => T = "list"
  | some (.dic _ _ _) => T = "dict"
  | none => False
theorem zMt_r {T : String} {r : ZM} {to : ZE} {t : ZA} {ρ : Ev} {h : PH} {Q : QV} : zMt T r to t ρ h Q = to ρ h fun p h1 => tyP T p h1 ∧ t ρ h1 fun ps h2 => r p ps h2 Q := rfl
theorem tyP_r {T : String} {a : Addr} {h : PH} : tyP T (.ref a) h = tyO T (h a) := by
  simp only [tyP]
  cases h a with
  | none => rfl
  | some o => cases o <;> rfl
theorem tyO_l {xs : List PV} : tyO "list" (some (.lst xs)) = True := by simp [tyO]
theorem tyO_d {t : Bool} {l} {xs : List (PV × PV)} : tyO "dict" (some (.dic t l xs)) = True := by simp [tyO]
def zAppO (l : Addr) (y : PV) : Option PO → PH → QV → Prop
  | some (.lst xs), h, Q => xs.length < sizeLine ∧ Q .non (up h l (.lst (xs ++ [y])))
  | _, _, _ => False
theorem zAppend_r {l : Addr} {y : PV} {h : PH} {Q : QV} : zAppend (.ref l) [y] h Q = zAppO l y (h l) h Q := by
  simp only [zAppend]
  cases h l with
  | none => rfl
  | some o => cases o <;> rfl
theorem zAppO_l {l : Addr} {y : PV} {xs : List PV} {h : PH} {Q : QV} : zAppO l y (some (.lst xs)) h Q = (xs.length < sizeLine ∧ Q .non (up h l (.lst (xs ++ [y])))) := rfl
theorem zIsa_ok {T : Ty} {t : ZE} {ρ : Ev} {h : PH} {Q : QV} : zIsa T t ρ h Q = t ρ h fun p h1 => zIsaV T p h1 fun b => Q (.bl b) h1 := rfl
theorem zIsa_n {T : Ty} {h : PH} {Q : Bool → Prop} : zIsaV T .non h Q = Q false := rfl
theorem zIsa_b {T : Ty} {b : Bool} {h : PH} {Q : Bool → Prop} : zIsaV T (.bl b) h Q = Q (decide (T = .bool) || decide (T = .int)) := rfl
theorem zIsa_i {T : Ty} {b : Int} {h : PH} {Q : Bool → Prop} : zIsaV T (.int b) h Q = Q (decide (T = .int)) := rfl
theorem zIsa_s {T : Ty} {b : List Nat} {h : PH} {Q : Bool → Prop} : zIsaV T (.str b) h Q = Q (decide (T = .str)) := rfl
theorem zIsa_t {T : Ty} {b : List PV} {h : PH} {Q : Bool → Prop} : zIsaV T (.tup b) h Q = Q (decide (T = .tuple)) := rfl
section
variable {i n m : Nat} {ρ : Ev} {h : PH} {Q : QV} {p : PV} {ps : List PV} {D : ZEnds} {t u : ZS} {te ta tb : ZE} {tt tu : ZT} {r : Z2} {g : ZG} {a : ZA} {c : ZC} {lo hi : ZO} {neg : Bool}
theorem zVar_x : zVar i ρ h Q = ∃ p, ρ[i]? = some (some p) ∧ Q p h := rfl
theorem zC_x : zC p ρ h Q = Q p h := rfl
theorem z2_x : z2 r ta tb ρ h Q = ta ρ h fun p h1 => tb ρ h1 fun q h2 => r p q h2 Q := rfl
theorem ztOf_x {Q : Bool → PH → Prop} : ztOf te ρ h Q = te ρ h fun p h1 => zTr p h1 fun b => Q b h1 := rfl
theorem ztAnd_x {Q : Bool → PH → Prop} : ztAnd tt tu ρ h Q = tt ρ h fun k h1 => if k = true then tu ρ h1 Q else Q false h1 := rfl
theorem ztOr_x {Q : Bool → PH → Prop} : ztOr tt tu ρ h Q = tt ρ h fun k h1 => if k = true then Q true h1 else tu ρ h1 Q := rfl
theorem ztNot_x {Q : Bool → PH → Prop} : ztNot tt ρ h Q = tt ρ h fun k h1 => Q (!k) h1 := rfl
theorem ztYes_x {Q : Bool → PH → Prop} : ztYes ρ h Q = Q true h := rfl
theorem zAnd_x : zAnd ta tb ρ h Q = ta ρ h fun p h1 => zTr p h1 fun k => if k = true then tb ρ h1 Q else Q p h1 := rfl
theorem zOr_x : zOr ta tb ρ h Q = ta ρ h fun p h1 => zTr p h1 fun k => if k = true then Q p h1 else tb ρ h1 Q := rfl
theorem zNt_x : zNt ta ρ h Q = ta ρ h fun p h1 => zTr p h1 fun k => Q (.bl (!k)) h1 := rfl
theorem zIf_x : zIf tt ta tb ρ h Q = tt ρ h fun k h1 => if k = true then ta ρ h1 Q else tb ρ h1 Q := rfl
theorem zaNil_x {Q : List PV → PH → Prop} : zaNil ρ h Q = Q [] h := rfl
theorem zaCons_x {Q : List PV → PH → Prop} : zaCons te a ρ h Q = te ρ h fun p h1 => a ρ h1 fun ps h2 => Q (p :: ps) h2 := rfl
theorem zTup_x : zTup a ρ h Q = a ρ h fun ps h1 => ps.length ≤ sizeLine ∧ Q (.tup ps) h1 := rfl
theorem zLst_x : zLst a ρ h Q = a ρ h fun ps h1 => ps.length ≤ sizeLine ∧ ∀ p, h1 p = none → Q (.ref p) (up h1 p (.lst ps)) := rfl
theorem zSl_x : zSl te lo hi ρ h Q = te ρ h fun p h1 => lo ρ h1 fun l h2 => hi ρ h2 fun u h3 => zSlV p l u h3 Q := rfl
theorem zoNone_x {Q : Option Int → PH → Prop} : zoNone ρ h Q = Q none h := rfl
theorem zCall_x : zCall c a ρ h Q = a ρ h fun ps h1 => c ps h1 Q := rfl
theorem zInn_x {x y : PV} : zInn neg x y h Q = zHas x y h fun b => Q (.bl (if neg then !b else b)) h := rfl
theorem zNext_x : zNext D ρ h = D.nx ρ h := rfl
theorem zBrk_x : zBrk D ρ h = D.bk ρ h := rfl
theorem zCont_x : zCont D ρ h = D.ct ρ h := rfl
theorem zDrop_x : zDrop te D ρ h = te ρ h fun _ h1 => D.nx ρ h1 := rfl
theorem zRet_x : zRet te D ρ h = te ρ h D.rt := rfl
theorem zRetN_x : zRetN D ρ h = D.rt .non h := rfl
theorem zIfS_x : zIfS tt t u D ρ h = tt ρ h fun b h1 => if b = true then t D ρ h1 else u D ρ h1 := rfl
theorem zAsg_x : zAsg te g D ρ h = te ρ h fun p h1 => g p ρ h1 D.nx := rfl
theorem zgName_x {Q : Ev → PH → Prop} : zgName i p ρ h Q = Q (ρ.set i (some p)) h := rfl
theorem zgSub_x {Q : Ev → PH → Prop} : zgSub ta tb p ρ h Q = ta ρ h fun o h1 => tb ρ h1 fun i h2 => zSet o i p h2 fun h3 => Q ρ h3 := rfl
theorem zSeq_asg : zSeq (zAsg te g) u D ρ h = te ρ h fun p h1 => g p ρ h1 (u D) := rfl
theorem zSeq_drop : zSeq (zDrop te) u D ρ h = te ρ h fun _ h1 => u D ρ h1 := rfl
theorem zSeq_x : zSeq t u D ρ h = t { D with nx := u D } ρ h := rfl
theorem zFn_x {t : ZS} : zFn n m t ps h Q = (ps.length = m ∧ t ⟨fun _ h' => ∃ h2, Sub h2 h' ∧ Q .non h2, fun v h' => ∃ h2, Sub h2 h' ∧ Q v h2, fun _ _ => False, fun _ _ => False⟩ (ps.map some ++ List.replicate (n - m) none) h) := rfl
end
theorem atN {α : Type} {l : List α} {i : Nat} : atI l (i : Int) = l[i]? := by
  unfold atI ixN
  rw [if_pos (by omega)]
  by_cases h : i < l.length
  · rw [if_pos (by omega)]; simp
  · rw [if_neg (by omega), List.getElem?_eq_none (by omega)]; rfl
theorem at0 {α : Type} {x : α} {l : List α} : atI (x :: l) 0 = some x := (atN (i := 0)).trans rfl
theorem at1 {α : Type} {x y : α} {l : List α} : atI (x :: y :: l) 1 = some y := (atN (i := 1)).trans rfl
theorem at2 {α : Type} {x y z : α} {l : List α} : atI (x :: y :: z :: l) 2 = some z := (atN (i := 2)).trans rfl
theorem at3 {α : Type} {x y z u : α} {l : List α} : atI (x :: y :: z :: u :: l) 3 = some u := (atN (i := 3)).trans rfl
theorem at4 {α : Type} {x y z u v : α} {l : List α} : atI (x :: y :: z :: u :: v :: l) 4 = some v := (atN (i := 4)).trans rfl
theorem at5 {α : Type} {x y z u v w : α} {l : List α} : atI (x :: y :: z :: u :: v :: w :: l) 5 = some w := (atN (i := 5)).trans rfl
theorem ixN_n {n i : Nat} (h : i < n) : ixN n (i : Int) = some i := by
  unfold ixN
  rw [if_pos (by omega), if_pos (by omega)]; simp
theorem ix0 {n : Nat} : ixN (n + 1) 0 = some 0 := ixN_n (i := 0) (by omega)
theorem ix1 {n : Nat} : ixN (n + 1 + 1) 1 = some 1 := ixN_n (i := 1) (by omega)
theorem ix2 {n : Nat} : ixN (n + 1 + 1 + 1) 2 = some 2 := ixN_n (i := 2) (by omega)
theorem ix3 {n : Nat} : ixN (n + 1 + 1 + 1 + 1) 3 = some 3 := ixN_n (i := 3) (by omega)
theorem mulL {i j : Int} (h : -(2 ^ 64) < j ∧ j < 2 ^ 64) : CMulA i j := .inl (.inr h)
theorem mulR {i j : Int} (h : -(2 ^ 64) < i ∧ i < 2 ^ 64) : CMulA i j := .inl (.inl h)
/-- t, then u: what holds between them -/
theorem zSeq_key {t u : ZS} {D : ZEnds} {ρ : Ev} {h : PH} (P : Ev → PH → Prop) (key : ∀ ρ' h', P ρ' h' → u D ρ' h') (run : ∀ X : Ev → PH → Prop, (∀ ρ' h', P ρ' h' → X ρ' h') → t { D with nx := X } ρ h) : zSeq t u D ρ h := run (u D) key
/-- the addresses outside M keep what they hold -/
def Fr (M : List Addr) (h h' : PH) : Prop := ∀ b, b ∉ M → h' b = h b
theorem Fr.refl (M : List Addr) (h : PH) : Fr M h h := fun _ _ => rfl
theorem Fr.trans {M : List Addr} {a b c : PH} (x : Fr M a b) (y : Fr M b c) : Fr M a c := fun p n => (y p n).trans (x p n)
/-- .. keep at least what they held -/
def Kp (M : List Addr) (h h' : PH) : Prop := ∀ b o, b ∉ M → h b = some o → h' b = some o
theorem Kp.refl (M : List Addr) (h : PH) : Kp M h h := fun _ _ _ e => e
theorem Kp.trans {M : List Addr} {a b c : PH} (x : Kp M a b) (y : Kp M b c) : Kp M a c := fun p o n e => y p o n (x p o n e)
theorem Fr.kp {M : List Addr} {a b : PH} (x : Fr M a b) : Kp M a b := fun p o n e => (x p n).trans e
theorem kp_new {M : List Addr} {h : PH} {p : Addr} {o : PO} (n : h p = none) : Kp M h (up h p o) := fun b v _ e => by
  have hb : b ≠ p := fun z => by rw [z, n] at e; cases e
  rw [up_ne hb]; exact e
theorem Kp.new {M : List Addr} {h h1 : PH} {p : Addr} {o : PO} (k : Kp M h h1) (n : h1 p = none) : Kp M h (up h1 p o) := k.trans (kp_new n)
theorem Kp.put {M : List Addr} {h h1 : PH} {p : Addr} {o : PO} (k : Kp M h h1) (m : p ∈ M) : Kp M h (up h1 p o) := fun b v n e => by
  have hb : b ≠ p := fun z => n (z ▸ m)
  rw [up_ne hb]; exact k b v n e
/-- .. an object that was not there at the start -/
theorem Kp.put0 {M : List Addr} {h h1 : PH} {p : Addr} {o : PO} (k : Kp M h h1) (m : h p = none) : Kp M h (up h1 p o) := fun b v n e => by
  have hb : b ≠ p := fun z => by rw [z, m] at e; cases e
  rw [up_ne hb]; exact k b v n e
/-- the heap behind a def: outside M as it was -/
def back (M : List Addr) (h h' : PH) : PH := fun b => if b ∈ M then h' b else h b
theorem back_sub {M : List Addr} {h h' : PH} (k : Kp M h h') : Sub (back M h h') h' := fun b o e => by
  unfold back at e
  split at e
  · exact e
  · rename_i n; exact k b o n e
theorem back_fr {M : List Addr} {h h' : PH} : Fr M h (back M h h') := fun b n => by unfold back; rw [if_neg n]
theorem back_in {M : List Addr} {h h' : PH} {b : Addr} (m : b ∈ M) : back M h h' b = h' b := by unfold back; rw [if_pos m]
/-- nothing changed: a def that answers a tree -/
theorem sub_of_kp {h h' : PH} (k : Kp [] h h') : Sub h h' := fun b o e => k b o (by simp) e

/-! ### the draws -/
/-- the state of the draws at s, its script at a -/
def DS (a : Addr) (ns : List Int) (s : Addr) (h : PH) : Prop := a ≠ s ∧ h a = some (.lst (ns.map .int)) ∧ ∃ (i c n : Int), h s = some (.lst [.ref a, .int i, .int c, .int n])
section
variable {a s p : Addr} {ns : List Int} {h h' : PH} {o : PO} {M : List Addr}
theorem DS.ne (d : DS a ns s h) (n : h p = none) : p ≠ s := by
  obtain ⟨_, _, i, c, m, e⟩ := d
  rintro rfl; rw [n] at e; cases e
theorem DS.nea (d : DS a ns s h) (n : h p = none) : p ≠ a := by
  obtain ⟨_, e, _⟩ := d
  rintro rfl; rw [n] at e; cases e
theorem DS.put (d : DS a ns s h) (n1 : p ≠ a) (n2 : p ≠ s) : DS a ns s (up h p o) := by
  obtain ⟨x, y, i, c, m, e⟩ := d
  exact ⟨x, by rw [up_ne n1.symm]; exact y, i, c, m, by rw [up_ne n2.symm]; exact e⟩
theorem DS.new (d : DS a ns s h) (n : h p = none) : DS a ns s (up h p o) := d.put (d.nea n) (d.ne n)
theorem DS.back (d : DS a ns s h) (d' : DS a ns s h') (m : s ∈ M) (n : a ∉ M) : DS a ns s (back M h h') := by
  obtain ⟨x, y, _⟩ := d
  obtain ⟨_, _, i, c, k, e⟩ := d'
  exact ⟨x, by unfold G.back; rw [if_neg n]; exact y, i, c, k, by rw [back_in m]; exact e⟩
/-- the way out of a def whose draws changed s alone -/
theorem DS.out {Q : QV} {v : PV} (d : DS a ns s h) (d' : DS a ns s h') (k : Kp [s] h h') (q : ∀ h2, DS a ns s h2 → Fr [s] h h2 → Q v h2) : ∃ h2, Sub h2 h' ∧ Q v h2 :=
  ⟨G.back [s] h h', back_sub k, q _ (d.back d' (by simp) (by simpa using d.1)) back_fr⟩
end
end G

namespace G
open PySem PySem.Spec PyProof.Rows L2

/-! ### loops by invariants -/
def ForW (Z : ZIt) (g : ZG) (tb : ZS) (D : ZEnds) (ρ : Ev) (h1 : PH) : Prop := ∃ W : Nat → Nat → Ev → PH → Prop, (∃ m, W 0 m ρ h1) ∧ ∀ i m ρ h, W i m ρ h →
  (Z.stop i h ∧ D.nx ρ h) ∨ (Z.go i h ∧ ∃ N : Ev → PH → Prop, (∀ ρ' h', N ρ' h' → ∃ m' h2, m' < m ∧ Sub h2 h' ∧ W (i + 1) m' ρ' h2) ∧ ∀ p, Z.yld i h p → g p ρ h fun ρ2 h2 => tb { D with nx := N, ct := N, bk := D.nx } ρ2 h2)
theorem zFor_x {wz : ZSrc} {g : ZG} {tb : ZS} {D : ZEnds} {ρ : Ev} {h : PH} : zFor wz g tb D ρ h = wz ρ h fun Z h1 => ForW Z g tb D ρ h1 := rfl
def zsAnyO (a : Addr) : Option PO → PH → (ZIt → PH → Prop) → Prop
  | some (.lst _), h1, R => R (ZitL a) h1
  | some (.dic false (some lk) kvs), h1, R => R (ZitK a false lk kvs) h1
  | _, _, _ => False
def zsAnyI (p : PV) (h1 : PH) (R : ZIt → PH → Prop) : Prop := match p with
  | .tup ps => R (ZitV ps) h1
  | .ref a => zsAnyO a (h1 a) h1 R
  | _ => False
theorem zsAny_x {te : ZE} {ρ : Ev} {h : PH} {R : ZIt → PH → Prop} : zsAny te ρ h R = te ρ h fun p h1 => zsAnyI p h1 R := by
  unfold zsAny
  congr 1
  funext p h1
  cases p <;> simp only [zsAnyI]
  rename_i a
  cases h1 a with
  | none => rfl
  | some o =>
    cases o with
    | lst _ => rfl
    | dic t l _ => cases t <;> cases l <;> rfl
theorem zsAnyI_t {ps : List PV} {h : PH} {R : ZIt → PH → Prop} : zsAnyI (.tup ps) h R = R (ZitV ps) h := rfl
theorem zsAnyI_r {a : Addr} {h : PH} {R : ZIt → PH → Prop} : zsAnyI (.ref a) h R = zsAnyO a (h a) h R := rfl
theorem zsAnyO_l {a : Addr} {xs : List PV} {h : PH} {R : ZIt → PH → Prop} : zsAnyO a (some (.lst xs)) h R = R (ZitL a) h := rfl
theorem zsAnyO_d {a : Addr} {lk : Obj × HO} {kvs : List (PV × PV)} {h : PH} {R : ZIt → PH → Prop} : zsAnyO a (some (.dic false (some lk) kvs)) h R = R (ZitK a false lk kvs) h := rfl
def zsR1I (ps : List PV) (h1 : PH) (R : ZIt → PH → Prop) : Prop := match ps with
  | [.int j] => -(2 ^ 62) ≤ j ∧ j < 2 ^ 62 ∧ R (ZitR 0 j.toNat) h1
  | _ => False
theorem zsR1_x {ta : ZA} {ρ : Ev} {h : PH} {R : ZIt → PH → Prop} : zsR1 ta ρ h R = ta ρ h fun ps h1 => zsR1I ps h1 R := rfl
theorem zsR1I_i {j : Int} {h : PH} {R : ZIt → PH → Prop} : zsR1I [.int j] h R = (-(2 ^ 62) ≤ j ∧ j < 2 ^ 62 ∧ R (ZitR 0 j.toNat) h) := rfl
def zsR2I (ps : List PV) (h1 : PH) (R : ZIt → PH → Prop) : Prop := match ps with
  | [.int i, .int j] => (-(2 ^ 62) ≤ i ∧ i < 2 ^ 62 ∧ -(2 ^ 62) ≤ j ∧ j < 2 ^ 62) ∧ R (ZitR i (j - i).toNat) h1
  | _ => False
theorem zsR2_x {ta : ZA} {ρ : Ev} {h : PH} {R : ZIt → PH → Prop} : zsR2 ta ρ h R = ta ρ h fun ps h1 => zsR2I ps h1 R := rfl
theorem zsR2I_i {i j : Int} {h : PH} {R : ZIt → PH → Prop} : zsR2I [.int i, .int j] h R = ((-(2 ^ 62) ≤ i ∧ i < 2 ^ 62 ∧ -(2 ^ 62) ≤ j ∧ j < 2 ^ 62) ∧ R (ZitR i (j - i).toNat) h) := rfl
section
variable {g : ZG} {tb : ZS} {D : ZEnds} {ρ : Ev} {h : PH}
/-- what a turn's body is to reach -/
abbrev turnD (D : ZEnds) (N : Ev → PH → Prop) : ZEnds := { D with nx := fun ρ' h' => ∃ h2, Sub h2 h' ∧ N ρ' h2, ct := fun ρ' h' => ∃ h2, Sub h2 h' ∧ N ρ' h2, bk := D.nx }
theorem forW_gen {Z : ZIt} (n : Nat) (I : Nat → Ev → PH → Prop) (h0 : I 0 ρ h) (go : ∀ i ρ h, i < n → I i ρ h → Z.go i h) (stop : ∀ ρ h, I n ρ h → Z.stop n h)
    (step : ∀ i ρ h p, i < n → I i ρ h → Z.yld i h p → g p ρ h fun ρ2 h2 => tb (turnD D (I (i + 1))) ρ2 h2) (fin : ∀ ρ h, I n ρ h → D.nx ρ h) : ForW Z g tb D ρ h := by
  refine ⟨fun i m ρ h => m = n - i ∧ i ≤ n ∧ I i ρ h, ⟨n, by simp, Nat.zero_le _, h0⟩, ?_⟩
  rintro i m ρ h ⟨rfl, hi, q⟩
  by_cases hlt : i < n
  · exact .inr ⟨go i ρ h hlt q, fun ρ' h' => ∃ h2, Sub h2 h' ∧ I (i + 1) ρ' h2, fun ρ' h' ⟨h2, u, z⟩ => ⟨n - (i + 1), h2, by omega, u, rfl, hlt, z⟩, fun p y => step i ρ h p hlt q y⟩
  · have e : i = n := by omega
    subst e
    exact .inl ⟨stop ρ h q, fin ρ h q⟩
theorem forW_V {ps : List PV} (I : Nat → Ev → PH → Prop) (h0 : I 0 ρ h) (step : ∀ i ρ h p, ps[i]? = some p → I i ρ h → g p ρ h fun ρ2 h2 => tb (turnD D (I (i + 1))) ρ2 h2) (fin : ∀ ρ h, I ps.length ρ h → D.nx ρ h) : ForW (ZitV ps) g tb D ρ h :=
  forW_gen ps.length I h0 (fun _ _ _ hi _ => hi) (fun _ _ _ => Nat.le_refl _) (fun i ρ h p _ q y => step i ρ h p y q) fin
theorem forW_R {lo : Int} {n : Nat} (I : Nat → Ev → PH → Prop) (h0 : I 0 ρ h) (step : ∀ i ρ h, i < n → I i ρ h → g (.int (lo + i)) ρ h fun ρ2 h2 => tb (turnD D (I (i + 1))) ρ2 h2) (fin : ∀ ρ h, I n ρ h → D.nx ρ h) : ForW (ZitR lo n) g tb D ρ h :=
  forW_gen n I h0 (fun _ _ _ hi _ => hi) (fun _ _ _ => Nat.le_refl _) (fun i ρ h p hi q y => by have e : p = .int (lo + i) := y; subst e; exact step i ρ h hi q) fin
/-- over a list that stays -/
theorem forW_L {a : Addr} {ps : List PV} (I : Nat → Ev → PH → Prop) (h0 : I 0 ρ h) (stay : ∀ i ρ h, i ≤ ps.length → I i ρ h → h a = some (.lst ps)) (step : ∀ i ρ h p, ps[i]? = some p → I i ρ h → g p ρ h fun ρ2 h2 => tb (turnD D (I (i + 1))) ρ2 h2) (fin : ∀ ρ h, I ps.length ρ h → D.nx ρ h) : ForW (ZitL a) g tb D ρ h :=
  forW_gen ps.length I h0 (fun i ρ h hi q => ⟨ps, ps[i], stay i ρ h (Nat.le_of_lt hi) q, List.getElem?_eq_getElem hi⟩) (fun ρ h q => ⟨ps, stay _ ρ h (Nat.le_refl _) q, Nat.le_refl _⟩)
    (fun i ρ h p hi q y => step i ρ h p (y ps (stay i ρ h (Nat.le_of_lt hi) q)) q) fin
/-- over the keys of a locked dict -/
theorem forW_K {a : Addr} {t : Bool} {lk : Obj × HO} {kvs : List (PV × PV)} (I : Nat → Ev → PH → Prop) (h0 : I 0 ρ h) (stay : ∀ i ρ h, i ≤ kvs.length → I i ρ h → h a = some (.dic t (some lk) kvs)) (step : ∀ i ρ h kv, kvs[i]? = some kv → I i ρ h → g kv.1 ρ h fun ρ2 h2 => tb (turnD D (I (i + 1))) ρ2 h2)
    (fin : ∀ ρ h, I kvs.length ρ h → D.nx ρ h) : ForW (ZitK a t lk kvs) g tb D ρ h :=
  forW_gen kvs.length I h0 (fun i ρ h hi q => ⟨stay i ρ h (Nat.le_of_lt hi) q, hi⟩) (fun ρ h q => ⟨stay _ ρ h (Nat.le_refl _) q, Nat.le_refl _⟩)
    (fun i ρ h p hi q y => by obtain ⟨kv, e, rfl⟩ := y; exact step i ρ h kv e q) fin
theorem while_turn {I : Nat → Ev → PH → Prop} {m : Nat} (t : tb (turnD D (fun ρ' h2 => ∃ m', m' < m ∧ I m' ρ' h2)) ρ h) :
    ∃ N : Ev → PH → Prop, (∀ ρ' h', N ρ' h' → ∃ m' h2, m' < m ∧ Sub h2 h' ∧ I m' ρ' h2) ∧ tb { D with nx := N, ct := N, bk := D.nx } ρ h :=
  ⟨fun ρ' h' => ∃ h2, Sub h2 h' ∧ ∃ m', m' < m ∧ I m' ρ' h2, fun ρ' h' ⟨h2, u, m', l, q⟩ => ⟨m', h2, l, u, q⟩, t⟩
end

/-! ### comprehensions -/
def LcW (Z : ZIt) (g : ZG) (tt : ZT) (te : ZE) (ρ' : Ev) (h1 : PH) (Q : List PV → PH → Prop) : Prop := ∃ W : Nat → Nat → List PV → PH → Prop, (∃ m, W 0 m [] h1) ∧ ∀ i m acc h, W i m acc h →
  (Z.stop i h ∧ Q acc h) ∨ (Z.go i h ∧ acc.length < sizeLine ∧ ∃ Nx : List PV → PH → Prop, (∀ acc' h', Nx acc' h' → ∃ m' h2, m' < m ∧ Sub h2 h' ∧ W (i + 1) m' acc' h2) ∧
    ∀ p, Z.yld i h p → g p ρ' h fun ρ2 h2 => tt ρ2 h2 fun b h3 => if b = true then te ρ2 h3 fun y h4 => Nx (acc ++ [y]) h4 else Nx acc h3)
theorem zLc_x {wz : ZSrc} {g : ZG} {tt : ZT} {te : ZE} {vs : List Nat} {ρ : Ev} {h : PH} {Q : QV} : zLc wz g tt te vs ρ h Q = wz ρ h fun Z h1 => LcW Z g tt te (zwipe ρ vs) h1 fun acc h' => ∀ D, h' D = none → Q (.ref D) (up h' D (.lst acc)) := rfl
section
variable {g : ZG} {tt : ZT} {te : ZE} {ρ : Ev} {h : PH} {Q : List PV → PH → Prop}
theorem lcW_gen {Z : ZIt} (n : Nat) (hn : n ≤ sizeLine) (I : Nat → List PV → PH → Prop) (h0 : I 0 [] h) (len : ∀ i acc h, I i acc h → acc.length ≤ i) (go : ∀ i acc h, i < n → I i acc h → Z.go i h) (stop : ∀ acc h, I n acc h → Z.stop n h)
    (step : ∀ i acc h p, i < n → I i acc h → Z.yld i h p → g p ρ h fun ρ2 h2 => tt ρ2 h2 fun b h3 => if b = true then te ρ2 h3 fun y h4 => ∃ h5, Sub h5 h4 ∧ I (i + 1) (acc ++ [y]) h5 else ∃ h5, Sub h5 h3 ∧ I (i + 1) acc h5)
    (fin : ∀ acc h, I n acc h → Q acc h) : LcW Z g tt te ρ h Q := by
  refine ⟨fun i m acc h => m = n - i ∧ i ≤ n ∧ I i acc h, ⟨n, by simp, Nat.zero_le _, h0⟩, ?_⟩
  rintro i m acc h ⟨rfl, hi, q⟩
  by_cases hlt : i < n
  · refine .inr ⟨go i acc h hlt q, by have := len i acc h q; omega, fun acc' h' => ∃ h5, Sub h5 h' ∧ I (i + 1) acc' h5, fun acc' h' ⟨h2, u, z⟩ => ⟨n - (i + 1), h2, by omega, u, rfl, hlt, z⟩, fun p y => step i acc h p hlt q y⟩
  · have e : i = n := by omega
    subst e
    exact .inl ⟨stop acc h q, fin acc h q⟩
theorem lcW_V {ps : List PV} (hn : ps.length ≤ sizeLine) (I : Nat → List PV → PH → Prop) (h0 : I 0 [] h) (len : ∀ i acc h, I i acc h → acc.length ≤ i)
    (step : ∀ i acc h p, ps[i]? = some p → I i acc h → g p ρ h fun ρ2 h2 => tt ρ2 h2 fun b h3 => if b = true then te ρ2 h3 fun y h4 => ∃ h5, Sub h5 h4 ∧ I (i + 1) (acc ++ [y]) h5 else ∃ h5, Sub h5 h3 ∧ I (i + 1) acc h5)
    (fin : ∀ acc h, I ps.length acc h → Q acc h) : LcW (ZitV ps) g tt te ρ h Q := lcW_gen ps.length hn I h0 len (fun _ _ _ hi _ => hi) (fun _ _ _ => Nat.le_refl _) (fun i acc h p _ q y => step i acc h p y q) fin
theorem lcW_R {lo : Int} {n : Nat} (hn : n ≤ sizeLine) (I : Nat → List PV → PH → Prop) (h0 : I 0 [] h) (len : ∀ i acc h, I i acc h → acc.length ≤ i)
    (step : ∀ i acc h, i < n → I i acc h → g (.int (lo + i)) ρ h fun ρ2 h2 => tt ρ2 h2 fun b h3 => if b = true then te ρ2 h3 fun y h4 => ∃ h5, Sub h5 h4 ∧ I (i + 1) (acc ++ [y]) h5 else ∃ h5, Sub h5 h3 ∧ I (i + 1) acc h5)
    (fin : ∀ acc h, I n acc h → Q acc h) : LcW (ZitR lo n) g tt te ρ h Q := lcW_gen n hn I h0 len (fun _ _ _ hi _ => hi) (fun _ _ _ => Nat.le_refl _) (fun i acc h p hi q y => by have e : p = .int (lo + i) := y; subst e; exact step i acc h hi q) fin
theorem lcW_L {a : Addr} {ps : List PV} (hn : ps.length ≤ sizeLine) (I : Nat → List PV → PH → Prop) (h0 : I 0 [] h) (len : ∀ i acc h, I i acc h → acc.length ≤ i) (stay : ∀ i acc h, i ≤ ps.length → I i acc h → h a = some (.lst ps))
    (step : ∀ i acc h p, ps[i]? = some p → I i acc h → g p ρ h fun ρ2 h2 => tt ρ2 h2 fun b h3 => if b = true then te ρ2 h3 fun y h4 => ∃ h5, Sub h5 h4 ∧ I (i + 1) (acc ++ [y]) h5 else ∃ h5, Sub h5 h3 ∧ I (i + 1) acc h5)
    (fin : ∀ acc h, I ps.length acc h → Q acc h) : LcW (ZitL a) g tt te ρ h Q :=
  lcW_gen ps.length hn I h0 len (fun i acc h hi q => ⟨ps, ps[i], stay i acc h (Nat.le_of_lt hi) q, List.getElem?_eq_getElem hi⟩) (fun acc h q => ⟨ps, stay _ acc h (Nat.le_refl _) q, Nat.le_refl _⟩)
    (fun i acc h p hi q y => step i acc h p (y ps (stay i acc h (Nat.le_of_lt hi) q)) q) fin
/-- nothing but values: b tells what is kept, f what is put -/
abbrev Pure (g : ZG) (tt : ZT) (te : ZE) (ρ : Ev) (h : PH) (b : PV → Bool) (f : PV → PV) (p : PV) : Prop := ∀ (R : List PV → PH → Prop) (acc : List PV), (if b p = true then R (acc ++ [f p]) h else R acc h) →
  g p ρ h fun ρ2 h2 => tt ρ2 h2 fun b h3 => if b = true then te ρ2 h3 fun y h4 => R (acc ++ [y]) h4 else R acc h3
theorem filt_len {b : PV → Bool} {f : PV → PV} (l : List PV) (i : Nat) : (((l.take i).filter b).map f).length ≤ i := by
  rw [List.length_map]
  exact Nat.le_trans (List.length_filter_le _ _) (by rw [List.length_take]; omega)
theorem filt_step {b : PV → Bool} {f : PV → PV} {l : List PV} {i : Nat} {p : PV} (e : l[i]? = some p) : ((l.take (i + 1)).filter b).map f = if b p = true then ((l.take i).filter b).map f ++ [f p] else ((l.take i).filter b).map f := by
  rw [List.take_add_one, e]
  simp only [Option.toList_some, List.filter_append, List.map_append]
  by_cases h : b p = true
  · rw [if_pos h, List.filter_cons_of_pos h]; rfl
  · rw [if_neg h, List.filter_cons_of_neg h]; simp
theorem lcP_V {ps : List PV} (b : PV → Bool) (f : PV → PV) (hn : ps.length ≤ sizeLine) (pure : ∀ p ∈ ps, Pure g tt te ρ h b f p) (fin : Q ((ps.filter b).map f) h) : LcW (ZitV ps) g tt te ρ h Q := by
  refine lcW_V hn (fun i acc h' => h = h' ∧ acc = ((ps.take i).filter b).map f) ⟨rfl, rfl⟩ (fun i acc h' ⟨_, e⟩ => e ▸ filt_len ps i) (fun i acc h' p e ⟨e1, e2⟩ => ?_) fun acc h' ⟨e1, e2⟩ => ?_
  · subst e1 e2
    refine pure p (List.mem_of_getElem? e) (fun acc' h' => ∃ h5, Sub h5 h' ∧ h = h5 ∧ acc' = ((ps.take (i + 1)).filter b).map f) _ ?_
    rw [filt_step e]
    by_cases hb : b p = true
    · rw [if_pos hb, if_pos hb]; exact ⟨h, Sub.refl _, rfl, rfl⟩
    · rw [if_neg hb, if_neg hb]; exact ⟨h, Sub.refl _, rfl, rfl⟩
  · subst e1 e2; rw [List.take_length]; exact fin
theorem lcP_L {a : Addr} {ps : List PV} (b : PV → Bool) (f : PV → PV) (hn : ps.length ≤ sizeLine) (ha : h a = some (.lst ps)) (pure : ∀ p ∈ ps, Pure g tt te ρ h b f p) (fin : Q ((ps.filter b).map f) h) : LcW (ZitL a) g tt te ρ h Q := by
  refine lcW_L hn (fun i acc h' => h = h' ∧ acc = ((ps.take i).filter b).map f) ⟨rfl, rfl⟩ (fun i acc h' ⟨_, e⟩ => e ▸ filt_len ps i) (fun i acc h' _ ⟨e, _⟩ => e ▸ ha) (fun i acc h' p e ⟨e1, e2⟩ => ?_) fun acc h' ⟨e1, e2⟩ => ?_
  · subst e1 e2
    refine pure p (List.mem_of_getElem? e) (fun acc' h' => ∃ h5, Sub h5 h' ∧ h = h5 ∧ acc' = ((ps.take (i + 1)).filter b).map f) _ ?_
    rw [filt_step e]
    by_cases hb : b p = true
    · rw [if_pos hb, if_pos hb]; exact ⟨h, Sub.refl _, rfl, rfl⟩
    · rw [if_neg hb, if_neg hb]; exact ⟨h, Sub.refl _, rfl, rfl⟩
  · subst e1 e2; rw [List.take_length]; exact fin
theorem lcP_R {lo : Int} {n : Nat} (b : PV → Bool) (f : PV → PV) (hn : n ≤ sizeLine) (pure : ∀ i : Nat, i < n → Pure g tt te ρ h b f (.int (lo + i))) (fin : Q ((((List.range n).map fun i : Nat => PV.int (lo + i)).filter b).map f) h) : LcW (ZitR lo n) g tt te ρ h Q := by
  have hl : ((List.range n).map fun i : Nat => PV.int (lo + i)).length = n := by simp
  have base := lcP_V (ps := (List.range n).map fun i : Nat => PV.int (lo + i)) (g := g) (tt := tt) (te := te) (ρ := ρ) (h := h) (Q := Q) b f (by rw [hl]; exact hn) (fun p hp => by
    obtain ⟨i, hi, rfl⟩ := List.mem_map.mp hp
    exact pure i (List.mem_range.mp hi)) fin
  obtain ⟨W, w0, turn⟩ := base
  refine ⟨W, w0, fun i m acc h w => ?_⟩
  rcases turn i m acc h w with ⟨a, b⟩ | ⟨a, l, N, b, c⟩
  · exact .inl ⟨by simpa [ZitV, ZitR] using a, b⟩
  · have a' : i < n := by simpa [ZitV] using a
    exact .inr ⟨a', l, N, b, fun p y => c p (by
      have y' : p = .int (lo + i) := y
      subst y'
      simp [ZitV, a'])⟩
end
theorem zPairs_n {ρ : Ev} {h : PH} {Q : List (PV × PV) → PH → Prop} : zPairs [] ρ h Q = Q [] h := rfl
theorem zPairs_c {tk tv : ZE} {r : List (ZE × ZE)} {ρ : Ev} {h : PH} {Q : List (PV × PV) → PH → Prop} : zPairs ((tk, tv) :: r) ρ h Q = tk ρ h fun x h1 => tv ρ h1 fun y h2 => zPairs r ρ h2 fun ps h3 => Q ((x, y) :: ps) h3 := rfl
theorem zDispN_x {n : Nat} {trs : List (ZE × ZE)} {ρ : Ev} {h : PH} {Q : QV} : zDispN n trs ρ h Q = zPairs trs ρ h fun ps h2 => ps.length ≤ 15 ∧ (ps.all fun kv => kv.1.leaf) = true ∧ ∀ p, h2 p = none → Q (.ref p) (up h2 p (.dic false none (dputs [] ps))) := rfl
theorem zDn_x {ρ : Ev} {h : PH} {Q : QV} : zDn ρ h Q = ∃ t, ∀ p, h p = none → Q (.ref p) (up h p (.dic t none [])) := rfl
theorem cut_nn {α : Type} {xs : List α} {a b : Int} (h0 : 0 ≤ a) (h1 : 0 ≤ b) (h2 : a.toNat ≤ xs.length) : cut xs (some a) (some b) = (xs.drop a.toNat).take (b.toNat - a.toNat) := by
  have e1 : HT.sIx xs.length 0 (some a) = a.toNat := by
    show (if a < 0 then (a + (xs.length : Int)).toNat else min a.toNat xs.length) = _
    rw [if_neg (by omega)]; omega
  have e2 : HT.sIx xs.length xs.length (some b) = min b.toNat xs.length := by
    show (if b < 0 then (b + (xs.length : Int)).toNat else min b.toNat xs.length) = _
    rw [if_neg (by omega)]
  unfold cut
  rw [e1, e2]
  rcases Nat.le_total b.toNat xs.length with h | h
  · rw [Nat.min_eq_left h]
  · rw [Nat.min_eq_right h, List.take_of_length_le (by simp), List.take_of_length_le (by simp; omega)]
theorem cut_to {α : Type} {xs : List α} {b : Int} (h1 : 0 ≤ b) : cut xs none (some b) = xs.take b.toNat := by
  have e2 : HT.sIx xs.length xs.length (some b) = min b.toNat xs.length := by
    show (if b < 0 then (b + (xs.length : Int)).toNat else min b.toNat xs.length) = _
    rw [if_neg (by omega)]
  unfold cut
  rw [show HT.sIx xs.length 0 none = 0 from rfl, e2]
  rcases Nat.le_total b.toNat xs.length with h | h
  · rw [Nat.min_eq_left h]; simp
  · rw [Nat.min_eq_right h, List.take_of_length_le (by simp), List.take_of_length_le h]; simp
theorem cut_from {α : Type} {xs : List α} {a : Int} (h0 : 0 ≤ a) : cut xs (some a) none = xs.drop a.toNat := by
  have e1 : HT.sIx xs.length 0 (some a) = min a.toNat xs.length := by
    show (if a < 0 then (a + (xs.length : Int)).toNat else min a.toNat xs.length) = _
    rw [if_neg (by omega)]
  unfold cut
  rw [e1, show HT.sIx xs.length xs.length none = xs.length from rfl]
  rcases Nat.le_total a.toNat xs.length with h | h
  · rw [Nat.min_eq_left h, List.take_of_length_le (by simp)]
  · rw [Nat.min_eq_right h, List.drop_of_length_le (Nat.le_refl _), List.drop_of_length_le h]; simp
theorem dget_dput {kvs : List (PV × PV)} {k k' v : PV} : dget (dput kvs k v) k' = if k' = k then some v else dget kvs k' := by
  unfold dput
  by_cases ha : (kvs.any fun kv => decide (kv.1 = k)) = true
  · rw [if_pos ha]
    induction kvs with
    | nil => simp at ha
    | cons kv l ih =>
      by_cases e : kv.1 = k
      · by_cases e' : k' = k
        · subst e'; simp [dget, List.find?_cons, e]
        · have h1 : ¬ kv.1 = k' := fun z => e' (z.symm.trans e)
          rw [if_neg e']
          have tl : ∀ l : List (PV × PV), dget (l.map fun kv => if kv.1 = k then (kv.1, v) else kv) k' = dget l k' := by
            intro l
            induction l with
            | nil => rfl
            | cons x l ih2 =>
              by_cases hx : x.1 = k
              · have hx' : ¬ x.1 = k' := fun z => e' (z.symm.trans hx)
                simp only [List.map_cons, if_pos hx, dget, List.find?_cons, decide_eq_false hx'] at ih2 ⊢
                exact ih2
              · simp only [List.map_cons, if_neg hx, dget, List.find?_cons] at ih2 ⊢
                by_cases hx' : x.1 = k'
                · simp [hx']
                · simp only [decide_eq_false hx']; exact ih2
          exact tl (kv :: l)
      · have ha' : (l.any fun kv => decide (kv.1 = k)) = true := by simpa [e] using ha
        have ih := ih ha'
        simp only [List.map_cons, if_neg e, dget, List.find?_cons] at ih ⊢
        by_cases h1 : kv.1 = k'
        · have e' : ¬ k' = k := fun z => e (h1.trans z)
          simp [h1, e']
        · simp only [decide_eq_false h1]; exact ih
  · rw [if_neg ha]
    have hn : dget kvs k = none := by
      have := any_dget kvs k
      rw [Bool.not_eq_true] at ha
      rw [ha] at this
      cases h : dget kvs k with
      | none => rfl
      | some x => rw [h] at this; cases this
    unfold dget at hn ⊢
    rw [List.find?_append]
    by_cases e' : k' = k
    · subst e'
      rw [Option.map_eq_none_iff] at hn
      rw [hn]; simp
    · rw [if_neg e']
      cases h : kvs.find? (fun kv => decide (kv.1 = k')) with
      | none => simp; intro z; exact absurd z.symm e'
      | some x => simp
theorem len_dput_old {kvs : List (PV × PV)} {k v x : PV} (h : dget kvs k = some x) : (dput kvs k v).length = kvs.length := by
  unfold dput
  rw [any_dget, h]
  simp
end G

namespace G
open PySem PySem.Spec PyProof.Rows L2

/-! ### more of reading: dict comprehensions, while, locks, methods -/
def DcW (Z : ZIt) (g : ZG) (tt : ZT) (tk tv : ZE) (ρ' : Ev) (h1 : PH) (Q : QV) : Prop := ∃ W : Nat → Nat → List (PV × PV) → PH → Prop, (∃ m, W 0 m [] h1) ∧ ∀ i m acc h, W i m acc h →
  (Z.stop i h ∧ ∀ D, h D = none → Q (.ref D) (up h D (.dic false none acc))) ∨ (Z.go i h ∧ acc.length < sizeLine ∧ ∃ Nx : List (PV × PV) → PH → Prop, (∀ acc' h', Nx acc' h' → ∃ m' h2, m' < m ∧ Sub h2 h' ∧ W (i + 1) m' acc' h2) ∧
    ∀ p, Z.yld i h p → g p ρ' h fun ρ2 h2 => tt ρ2 h2 fun b h3 => if b = true then tk ρ2 h3 fun y h4 => tv ρ2 h4 fun z h5 => y.leaf = true ∧ Nx (dput acc y z) h5 else Nx acc h3)
theorem zDc_x {wz : ZSrc} {g : ZG} {tt : ZT} {tk tv : ZE} {vs : List Nat} {ρ : Ev} {h : PH} {Q : QV} : zDc wz g tt tk tv vs ρ h Q = wz ρ h fun Z h1 => DcW Z g tt tk tv (zwipe ρ vs) h1 Q := rfl
section
variable {g : ZG} {tt : ZT} {tk tv : ZE} {ρ : Ev} {h : PH} {Q : QV}
theorem dcW_gen {Z : ZIt} (n : Nat) (hn : n ≤ sizeLine) (I : Nat → List (PV × PV) → PH → Prop) (h0 : I 0 [] h) (len : ∀ i acc h, I i acc h → acc.length ≤ i) (go : ∀ i acc h, i < n → I i acc h → Z.go i h) (stop : ∀ acc h, I n acc h → Z.stop n h)
    (step : ∀ i acc h p, i < n → I i acc h → Z.yld i h p → g p ρ h fun ρ2 h2 => tt ρ2 h2 fun b h3 => if b = true then tk ρ2 h3 fun y h4 => tv ρ2 h4 fun z h5 => y.leaf = true ∧ ∃ h6, Sub h6 h5 ∧ I (i + 1) (dput acc y z) h6 else ∃ h5, Sub h5 h3 ∧ I (i + 1) acc h5)
    (fin : ∀ acc h, I n acc h → ∀ D, h D = none → Q (.ref D) (up h D (.dic false none acc))) : DcW Z g tt tk tv ρ h Q := by
  refine ⟨fun i m acc h => m = n - i ∧ i ≤ n ∧ I i acc h, ⟨n, by simp, Nat.zero_le _, h0⟩, ?_⟩
  rintro i m acc h ⟨rfl, hi, q⟩
  by_cases hlt : i < n
  · refine .inr ⟨go i acc h hlt q, by have := len i acc h q; omega, fun acc' h' => ∃ h5, Sub h5 h' ∧ I (i + 1) acc' h5, fun acc' h' ⟨h2, u, z⟩ => ⟨n - (i + 1), h2, by omega, u, rfl, hlt, z⟩, fun p y => step i acc h p hlt q y⟩
  · have e : i = n := by omega
    subst e
    exact .inl ⟨stop acc h q, fin acc h q⟩
theorem dcW_V {ps : List PV} (hn : ps.length ≤ sizeLine) (I : Nat → List (PV × PV) → PH → Prop) (h0 : I 0 [] h) (len : ∀ i acc h, I i acc h → acc.length ≤ i)
    (step : ∀ i acc h p, ps[i]? = some p → I i acc h → g p ρ h fun ρ2 h2 => tt ρ2 h2 fun b h3 => if b = true then tk ρ2 h3 fun y h4 => tv ρ2 h4 fun z h5 => y.leaf = true ∧ ∃ h6, Sub h6 h5 ∧ I (i + 1) (dput acc y z) h6 else ∃ h5, Sub h5 h3 ∧ I (i + 1) acc h5)
    (fin : ∀ acc h, I ps.length acc h → ∀ D, h D = none → Q (.ref D) (up h D (.dic false none acc))) : DcW (ZitV ps) g tt tk tv ρ h Q :=
  dcW_gen ps.length hn I h0 len (fun _ _ _ hi _ => hi) (fun _ _ _ => Nat.le_refl _) (fun i acc h p _ q y => step i acc h p y q) fin
theorem dcW_L {a : Addr} {ps : List PV} (hn : ps.length ≤ sizeLine) (I : Nat → List (PV × PV) → PH → Prop) (h0 : I 0 [] h) (len : ∀ i acc h, I i acc h → acc.length ≤ i) (stay : ∀ i acc h, i ≤ ps.length → I i acc h → h a = some (.lst ps))
    (step : ∀ i acc h p, ps[i]? = some p → I i acc h → g p ρ h fun ρ2 h2 => tt ρ2 h2 fun b h3 => if b = true then tk ρ2 h3 fun y h4 => tv ρ2 h4 fun z h5 => y.leaf = true ∧ ∃ h6, Sub h6 h5 ∧ I (i + 1) (dput acc y z) h6 else ∃ h5, Sub h5 h3 ∧ I (i + 1) acc h5)
    (fin : ∀ acc h, I ps.length acc h → ∀ D, h D = none → Q (.ref D) (up h D (.dic false none acc))) : DcW (ZitL a) g tt tk tv ρ h Q :=
  dcW_gen ps.length hn I h0 len (fun i acc h hi q => ⟨ps, ps[i], stay i acc h (Nat.le_of_lt hi) q, List.getElem?_eq_getElem hi⟩) (fun acc h q => ⟨ps, stay _ acc h (Nat.le_refl _) q, Nat.le_refl _⟩)
    (fun i acc h p hi q y => step i acc h p (y ps (stay i acc h (Nat.le_of_lt hi) q)) q) fin
end
theorem dget_none {kvs : List (PV × PV)} {k : PV} : dget kvs k = none ↔ k ∉ kvs.map Prod.fst := by
  unfold dget
  rw [Option.map_eq_none_iff, List.find?_eq_none]
  constructor
  · intro h hm
    obtain ⟨kv, hkv, rfl⟩ := List.mem_map.mp hm
    have := h kv hkv
    simp at this
  · intro h kv hkv e
    exact h (List.mem_map.mpr ⟨kv, hkv, by simpa using e⟩)
theorem dput_new {kvs : List (PV × PV)} {k v : PV} (h : k ∉ kvs.map Prod.fst) : dput kvs k v = kvs ++ [(k, v)] := by
  unfold dput
  rw [any_dget, dget_none.mpr h]
  rfl
theorem dget_mem {kvs : List (PV × PV)} {k v : PV} (nd : (kvs.map Prod.fst).Nodup) (h : (k, v) ∈ kvs) : dget kvs k = some v := by
  induction kvs with
  | nil => cases h
  | cons kv l ih =>
    rw [List.map_cons, List.nodup_cons] at nd
    rcases List.mem_cons.mp h with h | h
    · subst h; simp [dget, List.find?_cons]
    · have ne : ¬ kv.1 = k := fun z => nd.1 (List.mem_map.mpr ⟨_, h, z.symm⟩)
      have := ih nd.2 h
      simp only [dget, List.find?_cons, decide_eq_false ne] at this ⊢
      exact this
theorem zWhile_x {c : ZT} {tb : ZS} {D : ZEnds} {ρ : Ev} {h : PH} : zWhile c tb D ρ h = ∃ W : Nat → Ev → PH → Prop, (∃ m, W m ρ h) ∧ ∀ m ρ h, W m ρ h →
    c ρ h fun b h1 => if b = true then ∃ N : Ev → PH → Prop, (∀ ρ' h', N ρ' h' → ∃ m' h2, m' < m ∧ Sub h2 h' ∧ W m' ρ' h2) ∧ tb { D with nx := N, ct := N, bk := D.nx } ρ h1 else D.nx ρ h1 := rfl
theorem zLock_x {t : ZS} {D : ZEnds} {ρ : Ev} {h : PH} : zLock t D ρ h = ∃ a tt kvs, h a = some (.dic tt none kvs) ∧ ∀ lk, t ⟨fun ρ' h' => h' a = some (.dic tt (some lk) kvs) ∧ D.nx ρ' (up h' a (.dic tt none kvs)), fun v h' => h' a = some (.dic tt (some lk) kvs) ∧ D.rt v (up h' a (.dic tt none kvs)),
    fun ρ' h' => h' a = some (.dic tt (some lk) kvs) ∧ D.bk ρ' (up h' a (.dic tt none kvs)), fun ρ' h' => h' a = some (.dic tt (some lk) kvs) ∧ D.ct ρ' (up h' a (.dic tt none kvs))⟩ ρ (up h a (.dic tt (some lk) kvs)) := rfl
theorem zLockE_x {t : ZE} {ρ : Ev} {h : PH} {Q : QV} : zLockE t ρ h Q = ∃ a tt kvs, h a = some (.dic tt none kvs) ∧ ∀ lk, t ρ (up h a (.dic tt (some lk) kvs)) fun v h' => h' a = some (.dic tt (some lk) kvs) ∧ Q v (up h' a (.dic tt none kvs)) := rfl
def zDgetO (k x : PV) : Option PO → PH → QV → Prop
  | some (.dic t _ kvs), h, Q => keyOk t k = true ∧ Q ((dget kvs k).getD x) h
  | _, _, _ => False
theorem zDget_1 {a : Addr} {k : PV} {h : PH} {Q : QV} : zDget (.ref a) [k] h Q = zDgetO k .non (h a) h Q := by
  simp only [zDget]
  cases h a with
  | none => rfl
  | some o => cases o <;> rfl
theorem zDget_2 {a : Addr} {k x : PV} {h : PH} {Q : QV} : zDget (.ref a) [k, x] h Q = zDgetO k x (h a) h Q := by
  simp only [zDget]
  cases h a with
  | none => rfl
  | some o => cases o <;> rfl
theorem zDgetO_d {t : Bool} {l} {kvs : List (PV × PV)} {k x : PV} {h : PH} {Q : QV} : zDgetO k x (some (.dic t l kvs)) h Q = (keyOk t k = true ∧ Q ((dget kvs k).getD x) h) := rfl
def zInsO (l : Addr) (i : Int) (y : PV) : Option PO → PH → QV → Prop
  | some (.lst xs), h, Q => xs.length < sizeLine ∧ 0 ≤ i ∧ i < 2 ^ 63 ∧ Q .non (up h l (.lst (xs.take i.toNat ++ [y] ++ xs.drop i.toNat)))
  | _, _, _ => False
theorem zInsert_r {l : Addr} {i : Int} {y : PV} {h : PH} {Q : QV} : zInsert (.ref l) [.int i, y] h Q = zInsO l i y (h l) h Q := by
  simp only [zInsert]
  cases h l with
  | none => rfl
  | some o => cases o <;> rfl
theorem zInsO_l {l : Addr} {i : Int} {y : PV} {xs : List PV} {h : PH} {Q : QV} : zInsO l i y (some (.lst xs)) h Q = (xs.length < sizeLine ∧ 0 ≤ i ∧ i < 2 ^ 63 ∧ Q .non (up h l (.lst (xs.take i.toNat ++ [y] ++ xs.drop i.toNat)))) := rfl
end G

section
open PySem PySem.Spec PyProof.Rows L2 G
local macro_rules | `(tactic| simp! [$ts,*]) => `(tactic| try simp only [zEqO_l, zAddO_l, zEq_r, zEq_tt, zEq_ti, zEq_it, zIs_n, zIsN_n, zFn_x, zSeq_asg, zSeq_drop, zNext_x, zBrk_x, zCont_x, zDrop_x, zRet_x, zRetN_x, zIfS_x, zAsg_x, zgName_x, zgTup_t, zgCons_c, zgNil_n, zgSub_x, zVar_x, zC_x, z2_x, zAdd_i, zAdd_s, zAdd_t, zAdd_r, zSub_i, zDiv_i, zMod_i, zMul_i, zPow_i, zLt_i, zLe_i, zGt_i, zGe_i, zEq_str, zEq_int, zNe_str, zNe_int, zIx_r, zIx_t, zIx_s, zIxO_l, zIxO_d,   zSet_r, zSetO_l, zSetO_d, ztB_ok, ztBI_b, ztOf_x, ztAnd_x, ztOr_x, ztNot_x, ztYes_x, zTr_r, zTr_n, zTr_b, zTr_i, zTr_s, zTr_t, zTrO_l, zTrO_d, zAnd_x, zOr_x, zNt_x, zIf_x, zNeg_ok, zNegI_i, zaNil_x, zaCons_x, zTup_x, zLst_x, zSl_x, zoNone_x, zoSome_ok, zoI_i, zSlV_r, zSlV_t, zSlV_s, zSlO_l, zCall_x, zLen_r, zLen_t, zLen_s, zLenO_l, zLenO_d, zAbs_i, zInt_i, zInt_b, zMax_i, zMin_i,   zTupC_r, zTupC_t, zTupO_l, zListC_r, zListC_t, zListC_s, zListO_l, zListO_d, zSum_r, zSumO_l, zAll_r, zAllO_l, zSorted_r, zSortO_l, zInn_x, zHas_r, zHas_t, zHasO_l, zHasO_d, zMt_r, tyP_r, tyO_l, tyO_d, zAppend_r, zAppO_l, zIsa_ok, zIsa_n, zIsa_b, zIsa_i, zIsa_s, zIsa_t, up_same, up_up, at0, at1, at2, at3, at4, at5, ix0, ix1, ix2, ix3,   List.getElem?_cons_zero, List.getElem?_cons_succ, List.set_cons_zero, List.set_cons_succ, List.map_cons, List.map_nil, List.cons_append, List.nil_append, List.replicate, List.length_cons, List.length_nil, Option.some.injEq, exists_eq_left', true_and, and_true, Nat.reduceAdd, Nat.reduceSub, PO.lst.injEq, decide_true, decide_false, if_true, Bool.false_eq_true, if_false, reduceCtorEq, $ts,*])
local macro_rules | `(tactic| dsimp! [$ts,*]) => `(tactic| simp! [zDispN_x, zPairs_n, zPairs_c, zFor_x, zsAny_x, zsAnyI_t, zsAnyI_r, zsAnyO_l, zsAnyO_d, zsR1_x, zsR1I_i, zsR2_x, zsR2I_i, zLc_x, Tg.z, Tgs.z, Tgs.len, zwipe, $ts,*])
local macro_rules | `(tactic| simp_all! [$ts,*]) => `(tactic| (dsimp! [List.cons.injEq, Nat.reduceEqDiff, false_and, and_false, decide_false, $ts,*]; repeat (rw [zSeq_x]; dsimp! [List.cons.injEq, Nat.reduceEqDiff, false_and, and_false, decide_false, $ts,*])))
/-! ### toldinwaves_k78_untouched_rules: the text -/
namespace K78
open PySem PySem.Spec PyProof.Rows L2 G
def top (i : Nat) : Stmt := PySem.Challenge.pw_toldinwaves_k78_untouched_rules.main.body.getD i (.Pass ⟨0, 0, 0, 0⟩)
abbrev s_references_in : Stmt := top 1
def N_references_in : List Str := ["expression", "found", "part"]
theorem S_references_in : FnScope N_references_in ["expression"] (defScope s_references_in) := ⟨rfl, rfl, rfl, by decide +kernel, rfl, by decide +kernel, by decide +kernel⟩
abbrev s_same_rules : Stmt := top 3
def N_same_rules : List Str := ["old", "new", "theirs", "found", "row", "reference"]
theorem S_same_rules : FnScope N_same_rules ["old", "new"] (defScope s_same_rules) := ⟨rfl, rfl, rfl, by decide +kernel, rfl, by decide +kernel, by decide +kernel⟩
abbrev s_untouched : Stmt := top 4
def N_untouched : List Str := ["old", "new", "givens", "left", "going", "kept", "name", "row", "other"]
theorem S_untouched : FnScope N_untouched ["old", "new"] (defScope s_untouched) := ⟨rfl, rfl, rfl, by decide +kernel, rfl, by decide +kernel, by decide +kernel⟩
abbrev s__law_start : Stmt := top 6
def N__law_start : List Str := ["script"]
theorem S__law_start : FnScope N__law_start ["script"] (defScope s__law_start) := ⟨rfl, rfl, rfl, by decide +kernel, rfl, by decide +kernel, by decide +kernel⟩
abbrev s__law_draw : Stmt := top 7
def N__law_draw : List Str := ["state", "most", "found", "cell", "mixed"]
theorem S__law_draw : FnScope N__law_draw ["state", "most"] (defScope s__law_draw) := ⟨rfl, rfl, rfl, by decide +kernel, rfl, by decide +kernel, by decide +kernel⟩
abbrev s__law_shuffled : Stmt := top 8
def N__law_shuffled : List Str := ["state", "items", "found", "item"]
theorem S__law_shuffled : FnScope N__law_shuffled ["state", "items"] (defScope s__law_shuffled) := ⟨rfl, rfl, rfl, by decide +kernel, rfl, by decide +kernel, by decide +kernel⟩
abbrev s__law_words : Stmt := top 9
def N__law_words : List Str := ["state", "many", "letters", "start", "step", "shared", "k"]
theorem S__law_words : FnScope N__law_words ["state", "many"] (defScope s__law_words) := ⟨rfl, rfl, rfl, by decide +kernel, rfl, by decide +kernel, by decide +kernel⟩
abbrev s__law_is_int : Stmt := top 10
def N__law_is_int : List Str := ["x"]
theorem S__law_is_int : FnScope N__law_is_int ["x"] (defScope s__law_is_int) := ⟨rfl, rfl, rfl, by decide +kernel, rfl, by decide +kernel, by decide +kernel⟩
abbrev s__law_same : Stmt := top 11
def N__law_same : List Str := ["x", "y", "k"]
theorem S__law_same : FnScope N__law_same ["x", "y"] (defScope s__law_same) := ⟨rfl, rfl, rfl, by decide +kernel, rfl, by decide +kernel, by decide +kernel⟩
abbrev s__law_offsets : Stmt := top 12
def N__law_offsets : List Str := ["state", "many", "most", "k"]
theorem S__law_offsets : FnScope N__law_offsets ["state", "many", "most"] (defScope s__law_offsets) := ⟨rfl, rfl, rfl, by decide +kernel, rfl, by decide +kernel, by decide +kernel⟩
abbrev s__law_rim : Stmt := top 13
def N__law_rim : List Str := ["state"]
theorem S__law_rim : FnScope N__law_rim ["state"] (defScope s__law_rim) := ⟨rfl, rfl, rfl, by decide +kernel, rfl, by decide +kernel, by decide +kernel⟩
abbrev s__law_given_row : Stmt := top 14
def N__law_given_row : List Str := ["state", "name", "rim", "low", "high"]
theorem S__law_given_row : FnScope N__law_given_row ["state", "name"] (defScope s__law_given_row) := ⟨rfl, rfl, rfl, by decide +kernel, rfl, by decide +kernel, by decide +kernel⟩
abbrev s__law_table_world : Stmt := top 15
def N__law_table_world : List Str := ["state", "many", "rules", "givens", "words", "w"]
theorem S__law_table_world : FnScope N__law_table_world ["state", "many", "rules", "givens"] (defScope s__law_table_world) := ⟨rfl, rfl, rfl, by decide +kernel, rfl, by decide +kernel, by decide +kernel⟩
abbrev s__law_refs : Stmt := top 16
def N__law_refs : List Str := ["e", "found", "part"]
theorem S__law_refs : FnScope N__law_refs ["e"] (defScope s__law_refs) := ⟨rfl, rfl, rfl, by decide +kernel, rfl, by decide +kernel, by decide +kernel⟩
abbrev s__law_at_offsets : Stmt := top 17
def N__law_at_offsets : List Str := ["place", "offsets", "k"]
theorem S__law_at_offsets : FnScope N__law_at_offsets ["place", "offsets"] (defScope s__law_at_offsets) := ⟨rfl, rfl, rfl, by decide +kernel, rfl, by decide +kernel, by decide +kernel⟩
abbrev s__law_in_box : Stmt := top 18
def N__law_in_box : List Str := ["sizes", "place", "k"]
theorem S__law_in_box : FnScope N__law_in_box ["sizes", "place"] (defScope s__law_in_box) := ⟨rfl, rfl, rfl, by decide +kernel, rfl, by decide +kernel, by decide +kernel⟩
abbrev s__law_places : Stmt := top 19
def N__law_places : List Str := ["sizes", "found", "size", "longer", "place", "at"]
theorem S__law_places : FnScope N__law_places ["sizes"] (defScope s__law_places) := ⟨rfl, rfl, rfl, by decide +kernel, rfl, by decide +kernel, by decide +kernel⟩
abbrev s__law_row_named : Stmt := top 20
def N__law_row_named : List Str := ["table", "name", "row"]
theorem S__law_row_named : FnScope N__law_row_named ["table", "name"] (defScope s__law_row_named) := ⟨rfl, rfl, rfl, by decide +kernel, rfl, by decide +kernel, by decide +kernel⟩
abbrev s__law_given_value : Stmt := top 21
def N__law_given_value : List Str := ["table", "fields", "name", "place", "k", "at", "number"]
theorem S__law_given_value : FnScope N__law_given_value ["table", "fields", "name", "place"] (defScope s__law_given_value) := ⟨rfl, rfl, rfl, by decide +kernel, rfl, by decide +kernel, by decide +kernel⟩
abbrev s__law_holds_sign : Stmt := top 22
def N__law_holds_sign : List Str := ["sign", "one", "other"]
theorem S__law_holds_sign : FnScope N__law_holds_sign ["sign", "one", "other"] (defScope s__law_holds_sign) := ⟨rfl, rfl, rfl, by decide +kernel, rfl, by decide +kernel, by decide +kernel⟩
abbrev s__law_worth_at : Stmt := top 23
def N__law_worth_at : List Str := ["world", "e", "place", "kind", "target", "parts", "one", "other", "part"]
theorem S__law_worth_at : FnScope N__law_worth_at ["world", "e", "place"] (defScope s__law_worth_at) := ⟨rfl, rfl, rfl, by decide +kernel, rfl, by decide +kernel, by decide +kernel⟩
abbrev s__law_needs_of : Stmt := top 24
def N__law_needs_of : List Str := ["table", "sizes", "name", "place", "found", "names", "kind", "other", "offsets", "target", "row"]
theorem S__law_needs_of : FnScope N__law_needs_of ["table", "sizes", "name", "place"] (defScope s__law_needs_of) := ⟨rfl, rfl, rfl, by decide +kernel, rfl, by decide +kernel, by decide +kernel⟩
abbrev s__law_told_cells : Stmt := top 25
def N__law_told_cells : List Str := ["table", "sizes", "fields", "world", "left", "row", "needs", "name", "place", "known", "turn", "ready", "cell", "other"]
theorem S__law_told_cells : FnScope N__law_told_cells ["table", "sizes", "fields"] (defScope s__law_told_cells) := ⟨rfl, rfl, rfl, by decide +kernel, rfl, by decide +kernel, by decide +kernel⟩
abbrev s__law_sizes : Stmt := top 26
def N__law_sizes : List Str := ["state", "many", "most", "k"]
theorem S__law_sizes : FnScope N__law_sizes ["state", "many", "most"] (defScope s__law_sizes) := ⟨rfl, rfl, rfl, by decide +kernel, rfl, by decide +kernel, by decide +kernel⟩
abbrev s__law_fields : Stmt := top 27
def N__law_fields : List Str := ["state", "table", "sizes", "found", "name", "rim", "low", "high", "pairs", "place", "number"]
theorem S__law_fields : FnScope N__law_fields ["state", "table", "sizes"] (defScope s__law_fields) := ⟨rfl, rfl, rfl, by decide +kernel, rfl, by decide +kernel, by decide +kernel⟩
abbrev s__law_numbers_in : Stmt := top 28
def N__law_numbers_in : List Str := ["e", "found", "part"]
theorem S__law_numbers_in : FnScope N__law_numbers_in ["e"] (defScope s__law_numbers_in) := ⟨rfl, rfl, rfl, by decide +kernel, rfl, by decide +kernel, by decide +kernel⟩
abbrev s__law_token_count : Stmt := top 29
def N__law_token_count : List Str := ["over", "e", "kind", "total", "x", "part"]
theorem S__law_token_count : FnScope N__law_token_count ["over", "e"] (defScope s__law_token_count) := ⟨rfl, rfl, rfl, by decide +kernel, rfl, by decide +kernel, by decide +kernel⟩
abbrev s__law_can_be_read : Stmt := top 30
def N__law_can_be_read : List Str := ["over", "row", "head", "number"]
theorem S__law_can_be_read : FnScope N__law_can_be_read ["over", "row"] (defScope s__law_can_be_read) := ⟨rfl, rfl, rfl, by decide +kernel, rfl, by decide +kernel, by decide +kernel⟩
abbrev s__law_untouched : Stmt := top 31
def N__law_untouched : List Str := ["old", "new", "givens", "left", "turn", "kept", "name", "row", "e"]
theorem S__law_untouched : FnScope N__law_untouched ["old", "new"] (defScope s__law_untouched) := ⟨rfl, rfl, rfl, by decide +kernel, rfl, by decide +kernel, by decide +kernel⟩
abbrev s__law_touched_table : Stmt := top 32
def N__law_touched_table : List Str := ["state", "table", "pick", "rules", "givens", "at", "name", "rim", "e", "given", "row"]
theorem S__law_touched_table : FnScope N__law_touched_table ["state", "table"] (defScope s__law_touched_table) := ⟨rfl, rfl, rfl, by decide +kernel, rfl, by decide +kernel, by decide +kernel⟩
abbrev s__law_chain_table : Stmt := top 33
def N__law_chain_table : List Str := ["state", "w", "rules", "k", "e", "names", "name", "offsets", "givens"]
theorem S__law_chain_table : FnScope N__law_chain_table ["state"] (defScope s__law_chain_table) := ⟨rfl, rfl, rfl, by decide +kernel, rfl, by decide +kernel, by decide +kernel⟩
abbrev s_law : Stmt := top 34
def N_law : List Str := ["script", "state", "old", "turn", "new", "due", "names", "sizes", "fields", "theirs", "row", "before", "after", "name", "place", "other", "one"]
theorem S_law : FnScope N_law ["script"] (defScope s_law) := ⟨rfl, rfl, rfl, by decide +kernel, rfl, by decide +kernel, by decide +kernel⟩
theorem s_0 : Str.ofString "cell" = tS [99, 101, 108, 108] := by decide +kernel
theorem s_1 : Str.ofString "abcdefghijklmnopqrstuvwxyz" = tS [97, 98, 99, 100, 101, 102, 103, 104, 105, 106, 107, 108, 109, 110, 111, 112, 113, 114, 115, 116, 117, 118, 119, 120, 121, 122] := by decide +kernel
theorem s_2 : Str.ofString "qxz" = tS [113, 120, 122] := by decide +kernel
theorem s_3 : Str.ofString "most" = tS [109, 111, 115, 116] := by decide +kernel
theorem s_4 : Str.ofString "rule_names" = tS [114, 117, 108, 101, 95, 110, 97, 109, 101, 115] := by decide +kernel
theorem s_5 : Str.ofString "over" = tS [111, 118, 101, 114] := by decide +kernel
theorem s_6 : Str.ofString "many" = tS [109, 97, 110, 121] := by decide +kernel
theorem s_7 : Str.ofString "given_names" = tS [103, 105, 118, 101, 110, 95, 110, 97, 109, 101, 115] := by decide +kernel
theorem s_8 : Str.ofString "row" = tS [114, 111, 119] := by decide +kernel
theorem s_9 : Str.ofString "<" = tS [60] := by decide +kernel
theorem s_10 : Str.ofString "<=" = tS [60, 61] := by decide +kernel
theorem s_11 : Str.ofString ">" = tS [62] := by decide +kernel
theorem s_12 : Str.ofString ">=" = tS [62, 61] := by decide +kernel
theorem s_13 : Str.ofString "==" = tS [61, 61] := by decide +kernel
theorem s_14 : Str.ofString "number" = tS [110, 117, 109, 98, 101, 114] := by decide +kernel
theorem s_15 : Str.ofString "counter" = tS [99, 111, 117, 110, 116, 101, 114] := by decide +kernel
theorem s_16 : Str.ofString "sizes" = tS [115, 105, 122, 101, 115] := by decide +kernel
theorem s_17 : Str.ofString "table" = tS [116, 97, 98, 108, 101] := by decide +kernel
theorem s_18 : Str.ofString "known" = tS [107, 110, 111, 119, 110] := by decide +kernel
theorem s_19 : Str.ofString "fields" = tS [102, 105, 101, 108, 100, 115] := by decide +kernel
theorem s_20 : Str.ofString "negate" = tS [110, 101, 103, 97, 116, 101] := by decide +kernel
theorem s_21 : Str.ofString "scale" = tS [115, 99, 97, 108, 101] := by decide +kernel
theorem s_22 : Str.ofString "pick" = tS [112, 105, 99, 107] := by decide +kernel
theorem s_23 : Str.ofString "plus" = tS [112, 108, 117, 115] := by decide +kernel
theorem s_24 : Str.ofString "minus" = tS [109, 105, 110, 117, 115] := by decide +kernel
theorem s_25 : Str.ofString "greatest" = tS [103, 114, 101, 97, 116, 101, 115, 116] := by decide +kernel
theorem s_26 : Str.ofString "zz_z" = tS [122, 122, 95, 122] := by decide +kernel
theorem s_27 : Str.ofString "least" = tS [108, 101, 97, 115, 116] := by decide +kernel
theorem s_28 : Str.ofString "a_a" = tS [97, 95, 97] := by decide +kernel
theorem s_29 : Str.ofString "zz_i" = tS [122, 122, 95, 105] := by decide +kernel
theorem n_0 : nmOk "expression" = true := by decide +kernel
theorem n_1 : nmOk "part" = true := by decide +kernel
theorem n_2 : nmOk "found" = true := by decide +kernel
theorem n_3 : nmOk "references_in" = true := by decide +kernel
theorem n_4 : nmOk "new" = true := by decide +kernel
theorem n_5 : nmOk "row" = true := by decide +kernel
theorem n_6 : nmOk "old" = true := by decide +kernel
theorem n_7 : nmOk "theirs" = true := by decide +kernel
theorem n_8 : nmOk "reference" = true := by decide +kernel
theorem n_9 : nmOk "same_rules" = true := by decide +kernel
theorem n_10 : nmOk "going" = true := by decide +kernel
theorem n_11 : nmOk "left" = true := by decide +kernel
theorem n_12 : nmOk "name" = true := by decide +kernel
theorem n_13 : nmOk "other" = true := by decide +kernel
theorem n_14 : nmOk "givens" = true := by decide +kernel
theorem n_15 : nmOk "kept" = true := by decide +kernel
theorem n_16 : nmOk "script" = true := by decide +kernel
theorem n_17 : nmOk "state" = true := by decide +kernel
theorem n_18 : nmOk "most" = true := by decide +kernel
theorem n_19 : nmOk "cell" = true := by decide +kernel
theorem n_20 : nmOk "mixed" = true := by decide +kernel
theorem n_21 : nmOk "items" = true := by decide +kernel
theorem n_22 : nmOk "item" = true := by decide +kernel
theorem n_23 : nmOk "_law_draw" = true := by decide +kernel
theorem n_24 : nmOk "many" = true := by decide +kernel
theorem n_25 : nmOk "shared" = true := by decide +kernel
theorem n_26 : nmOk "letters" = true := by decide +kernel
theorem n_27 : nmOk "start" = true := by decide +kernel
theorem n_28 : nmOk "k" = true := by decide +kernel
theorem n_29 : nmOk "step" = true := by decide +kernel
theorem n_30 : nmOk "x" = true := by decide +kernel
theorem n_31 : nmOk "y" = true := by decide +kernel
theorem n_32 : nmOk "_law_same" = true := by decide +kernel
theorem n_33 : nmOk "_law_is_int" = true := by decide +kernel
theorem n_34 : nmOk "_law_rim" = true := by decide +kernel
theorem n_35 : nmOk "rim" = true := by decide +kernel
theorem n_36 : nmOk "high" = true := by decide +kernel
theorem n_37 : nmOk "low" = true := by decide +kernel
theorem n_38 : nmOk "rules" = true := by decide +kernel
theorem n_39 : nmOk "_law_words" = true := by decide +kernel
theorem n_40 : nmOk "words" = true := by decide +kernel
theorem n_41 : nmOk "w" = true := by decide +kernel
theorem n_42 : nmOk "e" = true := by decide +kernel
theorem n_43 : nmOk "_law_refs" = true := by decide +kernel
theorem n_44 : nmOk "place" = true := by decide +kernel
theorem n_45 : nmOk "offsets" = true := by decide +kernel
theorem n_46 : nmOk "sizes" = true := by decide +kernel
theorem n_47 : nmOk "longer" = true := by decide +kernel
theorem n_48 : nmOk "size" = true := by decide +kernel
theorem n_49 : nmOk "at" = true := by decide +kernel
theorem n_50 : nmOk "table" = true := by decide +kernel
theorem n_51 : nmOk "fields" = true := by decide +kernel
theorem n_52 : nmOk "number" = true := by decide +kernel
theorem n_53 : nmOk "sign" = true := by decide +kernel
theorem n_54 : nmOk "one" = true := by decide +kernel
theorem n_55 : nmOk "kind" = true := by decide +kernel
theorem n_56 : nmOk "_law_at_offsets" = true := by decide +kernel
theorem n_57 : nmOk "target" = true := by decide +kernel
theorem n_58 : nmOk "world" = true := by decide +kernel
theorem n_59 : nmOk "_law_in_box" = true := by decide +kernel
theorem n_60 : nmOk "_law_row_named" = true := by decide +kernel
theorem n_61 : nmOk "_law_given_value" = true := by decide +kernel
theorem n_62 : nmOk "_law_worth_at" = true := by decide +kernel
theorem n_63 : nmOk "parts" = true := by decide +kernel
theorem n_64 : nmOk "_law_holds_sign" = true := by decide +kernel
theorem n_65 : nmOk "names" = true := by decide +kernel
theorem n_66 : nmOk "_law_places" = true := by decide +kernel
theorem n_67 : nmOk "_law_needs_of" = true := by decide +kernel
theorem n_68 : nmOk "needs" = true := by decide +kernel
theorem n_69 : nmOk "known" = true := by decide +kernel
theorem n_70 : nmOk "ready" = true := by decide +kernel
theorem n_71 : nmOk "pairs" = true := by decide +kernel
theorem n_72 : nmOk "_law_numbers_in" = true := by decide +kernel
theorem n_73 : nmOk "over" = true := by decide +kernel
theorem n_74 : nmOk "_law_token_count" = true := by decide +kernel
theorem n_75 : nmOk "total" = true := by decide +kernel
theorem n_76 : nmOk "head" = true := by decide +kernel
theorem n_77 : nmOk "pick" = true := by decide +kernel
theorem n_78 : nmOk "given" = true := by decide +kernel
theorem n_79 : nmOk "_law_can_be_read" = true := by decide +kernel
theorem n_80 : nmOk "_law_table_world" = true := by decide +kernel
theorem n_81 : nmOk "_law_shuffled" = true := by decide +kernel
theorem n_82 : nmOk "_law_offsets" = true := by decide +kernel
theorem n_83 : nmOk "_law_given_row" = true := by decide +kernel
theorem n_84 : nmOk "_law_start" = true := by decide +kernel
theorem n_85 : nmOk "_law_chain_table" = true := by decide +kernel
theorem n_86 : nmOk "_law_touched_table" = true := by decide +kernel
theorem n_87 : nmOk "turn" = true := by decide +kernel
theorem n_88 : nmOk "_law_untouched" = true := by decide +kernel
theorem n_89 : nmOk "due" = true := by decide +kernel
theorem n_90 : nmOk "untouched" = true := by decide +kernel
theorem n_91 : nmOk "_law_sizes" = true := by decide +kernel
theorem n_92 : nmOk "_law_fields" = true := by decide +kernel
theorem n_93 : nmOk "_law_told_cells" = true := by decide +kernel
theorem n_94 : nmOk "before" = true := by decide +kernel
theorem n_95 : nmOk "after" = true := by decide +kernel
/-- what the defs do -/
structure Cs where
  references_in : ZC
  same_rules : ZC
  untouched : ZC
  _law_start : ZC
  _law_draw : ZC
  _law_shuffled : ZC
  _law_words : ZC
  _law_is_int : ZC
  _law_same : ZC
  _law_offsets : ZC
  _law_rim : ZC
  _law_given_row : ZC
  _law_table_world : ZC
  _law_refs : ZC
  _law_at_offsets : ZC
  _law_in_box : ZC
  _law_places : ZC
  _law_row_named : ZC
  _law_given_value : ZC
  _law_holds_sign : ZC
  _law_worth_at : ZC
  _law_needs_of : ZC
  _law_told_cells : ZC
  _law_sizes : ZC
  _law_fields : ZC
  _law_numbers_in : ZC
  _law_token_count : ZC
  _law_can_be_read : ZC
  _law_untouched : ZC
  _law_touched_table : ZC
  _law_chain_table : ZC
  law : ZC
/-- the defs can be called, and what else the bodies ask -/
structure Own (P : Program) (w : World) (K : PySem.W.Frag) (mg : Str → Option Value) (base : Heap) (k : Nat) (c : Cs) : Prop where
  len : mg "len" = none
  abs : mg "abs" = none
  sum : mg "sum" = none
  all : mg "all" = none
  max : mg "max" = none
  min : mg "min" = none
  sorted : mg "sorted" = none
  int : mg "int" = none
  tuple : mg "tuple" = none
  list : mg "list" = none
  range : mg "range" = none
  isinstance : mg "isinstance" = none
  str : mg "str" = none
  bool : mg "bool" = none
  f_references_in : QF P w K mg base k "references_in" 1 c.references_in
  f_same_rules : QF P w K mg base k "same_rules" 2 c.same_rules
  f_untouched : QF P w K mg base k "untouched" 2 c.untouched
  f__law_start : QF P w K mg base k "_law_start" 1 c._law_start
  f__law_draw : QF P w K mg base k "_law_draw" 2 c._law_draw
  f__law_shuffled : QF P w K mg base k "_law_shuffled" 2 c._law_shuffled
  f__law_words : QF P w K mg base k "_law_words" 2 c._law_words
  f__law_is_int : QF P w K mg base k "_law_is_int" 1 c._law_is_int
  f__law_same : QF P w K mg base k "_law_same" 2 c._law_same
  f__law_offsets : QF P w K mg base k "_law_offsets" 3 c._law_offsets
  f__law_rim : QF P w K mg base k "_law_rim" 1 c._law_rim
  f__law_given_row : QF P w K mg base k "_law_given_row" 2 c._law_given_row
  f__law_table_world : QF P w K mg base k "_law_table_world" 4 c._law_table_world
  f__law_refs : QF P w K mg base k "_law_refs" 1 c._law_refs
  f__law_at_offsets : QF P w K mg base k "_law_at_offsets" 2 c._law_at_offsets
  f__law_in_box : QF P w K mg base k "_law_in_box" 2 c._law_in_box
  f__law_places : QF P w K mg base k "_law_places" 1 c._law_places
  f__law_row_named : QF P w K mg base k "_law_row_named" 2 c._law_row_named
  f__law_given_value : QF P w K mg base k "_law_given_value" 4 c._law_given_value
  f__law_holds_sign : QF P w K mg base k "_law_holds_sign" 3 c._law_holds_sign
  f__law_worth_at : QF P w K mg base k "_law_worth_at" 3 c._law_worth_at
  f__law_needs_of : QF P w K mg base k "_law_needs_of" 4 c._law_needs_of
  f__law_told_cells : QF P w K mg base k "_law_told_cells" 3 c._law_told_cells
  f__law_sizes : QF P w K mg base k "_law_sizes" 3 c._law_sizes
  f__law_fields : QF P w K mg base k "_law_fields" 3 c._law_fields
  f__law_numbers_in : QF P w K mg base k "_law_numbers_in" 1 c._law_numbers_in
  f__law_token_count : QF P w K mg base k "_law_token_count" 2 c._law_token_count
  f__law_can_be_read : QF P w K mg base k "_law_can_be_read" 2 c._law_can_be_read
  f__law_untouched : QF P w K mg base k "_law_untouched" 2 c._law_untouched
  f__law_touched_table : QF P w K mg base k "_law_touched_table" 2 c._law_touched_table
  f__law_chain_table : QF P w K mg base k "_law_chain_table" 1 c._law_chain_table
  f_law : QF P w K mg base k "law" 1 c.law
def b_references_in (c : Cs) : ZS :=
    (zSeq (zIfS (ztB (z2 zEq (z2 zIx (zVar 0) (zC (.int 0))) (zC (.str [99, 101, 108, 108])))) (zRet (zLst (zaCons (zVar 0) zaNil))) zNext)
    (zSeq (zAsg (zLst zaNil) (zgName 1))
    (zSeq (zFor (zsAny (zSl (zVar 0) (zoSome (zC (.int 1))) zoNone)) (zgName 2) (zIfS (ztOf (zIsa .tuple (zVar 2))) (zDrop (zMt "list" zExtend (zVar 1) (zaCons (zCall c.references_in (zaCons (zVar 2) zaNil)) zaNil))) zNext))
    (zRet (zVar 1)))))
def b_same_rules (c : Cs) : ZS :=
    (zSeq (zAsg (zDc (zsAny (z2 zIx (zVar 1) (zC (.int 2)))) (Tg.z (.nm 4)) ztYes (z2 zIx (zVar 4) (zC (.int 0))) (zVar 4) [4]) (zgName 2))
    (zSeq (zAsg zDn (zgName 3))
    (zSeq (zFor (zsAny (z2 zIx (zVar 0) (zC (.int 2)))) (zgName 4) (zIfS (ztB (z2 zEq (zMt "dict" zDget (zVar 2) (zaCons (z2 zIx (zVar 4) (zC (.int 0))) zaNil)) (zVar 4))) (zAsg (zLc (zsAny (zCall c.references_in (zaCons (z2 zIx (zVar 4) (zC (.int 2))) zaNil))) (Tg.z (.nm 5)) ztYes (z2 zIx (zVar 5) (zC (.int 1))) [5]) (zgSub (zVar 3) (z2 zIx (zVar 4) (zC (.int 0))))) zNext))
    (zRet (zVar 3)))))
def b_untouched (c : Cs) : ZS :=
    (zSeq (zIfS (ztB (z2 (zNot zEq) (zCall zLen (zaCons (z2 zIx (zVar 0) (zC (.int 0))) zaNil)) (zCall zLen (zaCons (z2 zIx (zVar 1) (zC (.int 0))) zaNil)))) (zRet (zTup zaNil)) zNext)
    (zSeq (zAsg (zLc (zsAny (z2 zIx (zVar 0) (zC (.int 1)))) (Tg.z (.nm 7)) (ztB (z2 (zInn false) (zVar 7) (z2 zIx (zVar 1) (zC (.int 1))))) (z2 zIx (zVar 7) (zC (.int 0))) [7]) (zgName 2))
    (zSeq (zAsg (zCall c.same_rules (zaCons (zVar 0) (zaCons (zVar 1) zaNil))) (zgName 3))
    (zSeq (zAsg (zC (.bl true)) (zgName 4))
    (zSeq (zWhile (ztOf (zVar 4)) (zSeq (zAsg zDn (zgName 5))
    (zSeq (zLock (zFor (zsAny (zVar 3)) (zgName 6) (zIfS (ztOf (zCall zAll (zaCons (zLc (zsAny (z2 zIx (zVar 3) (zVar 6))) (Tg.z (.nm 8)) ztYes (zOr (z2 (zInn false) (zVar 8) (zVar 2)) (z2 (zInn false) (zVar 8) (zVar 3))) [8]) zaNil))) (zAsg (z2 zIx (zVar 3) (zVar 6)) (zgSub (zVar 5) (zVar 6))) zNext)))
    (zSeq (zAsg (z2 zLt (zCall zLen (zaCons (zVar 5) zaNil)) (zCall zLen (zaCons (zVar 3) zaNil))) (zgName 4))
    (zAsg (zVar 5) (zgName 3))))))
    (zRet (zCall zTupC (zaCons (zCall zSorted (zaCons (zCall zListC (zaCons (zVar 3) zaNil)) zaNil)) zaNil))))))))
def b__law_start (c : Cs) : ZS :=
    (zRet (zLst (zaCons (zCall zListC (zaCons (zVar 0) zaNil)) (zaCons (zC (.int 0)) (zaCons (zC (.int 0)) (zaCons (zC (.int 0)) zaNil))))))
def b__law_draw (c : Cs) : ZS :=
    (zSeq (zAsg (z2 zAdd (z2 zIx (zVar 0) (zC (.int 3))) (zC (.int 1))) (zgSub (zVar 0) (zC (.int 3))))
    (zSeq (zIfS (ztB (z2 zGt (z2 zIx (zVar 0) (zC (.int 2))) (zC (.int 0)))) (zSeq (zAsg (z2 zMod (zCall zInt (zaCons (z2 zIx (zVar 0) (zC (.int 2))) zaNil)) (zVar 1)) (zgName 2))
    (zSeq (zAsg (z2 zDiv (z2 zIx (zVar 0) (zC (.int 2))) (zVar 1)) (zgSub (zVar 0) (zC (.int 2))))
    (zRet (zVar 2)))) zNext)
    (zSeq (zAsg (zC (.int 0)) (zgName 3))
    (zSeq (zIfS (ztB (z2 zGt (zCall zLen (zaCons (z2 zIx (zVar 0) (zC (.int 0))) zaNil)) (zC (.int 0)))) (zAsg (zCall zAbs (zaCons (z2 zIx (z2 zIx (zVar 0) (zC (.int 0))) (z2 zMod (zCall zInt (zaCons (z2 zIx (zVar 0) (zC (.int 1))) zaNil)) (zCall zLen (zaCons (z2 zIx (zVar 0) (zC (.int 0))) zaNil)))) zaNil)) (zgName 3)) zNext)
    (zSeq (zAsg (z2 zAdd (z2 zIx (zVar 0) (zC (.int 1))) (zC (.int 1))) (zgSub (zVar 0) (zC (.int 1))))
    (zSeq (zIfS (ztB (z2 zGe (zVar 3) (z2 zPow (zC (.int 10)) (zC (.int 18))))) (zSeq (zAsg (z2 zDiv (zVar 3) (zVar 1)) (zgSub (zVar 0) (zC (.int 2))))
    (zRet (z2 zMod (zCall zInt (zaCons (zVar 3) zaNil)) (zVar 1)))) zNext)
    (zSeq (zAsg (z2 zMod (zCall zInt (zaCons (z2 zAdd (z2 zMul (z2 zAdd (zVar 3) (zC (.int 1))) (zC (.int 48271))) (z2 zMul (z2 zIx (zVar 0) (zC (.int 3))) (zC (.int 69621)))) zaNil)) (zC (.int 2147483647))) (zgName 4))
    (zSeq (zAsg (z2 zMod (zCall zInt (zaCons (z2 zAdd (z2 zAdd (z2 zMul (zVar 4) (zC (.int 16807))) (z2 zDiv (zVar 3) (zC (.int 97)))) (z2 zIx (zVar 0) (zC (.int 3)))) zaNil)) (zC (.int 2147483629))) (zgName 4))
    (zRet (z2 zMod (z2 zDiv (zVar 4) (zC (.int 11))) (zVar 1)))))))))))
def b__law_shuffled (c : Cs) : ZS :=
    (zSeq (zAsg (zLst zaNil) (zgName 2))
    (zSeq (zFor (zsAny (zVar 1)) (zgName 3) (zDrop (zMt "list" zInsert (zVar 2) (zaCons (zCall c._law_draw (zaCons (zVar 0) (zaCons (z2 zAdd (zCall zLen (zaCons (zVar 2) zaNil)) (zC (.int 1))) zaNil))) (zaCons (zVar 3) zaNil)))))
    (zRet (zVar 2))))
def b__law_words (c : Cs) : ZS :=
    (zSeq (zAsg (zC (.str [97, 98, 99, 100, 101, 102, 103, 104, 105, 106, 107, 108, 109, 110, 111, 112, 113, 114, 115, 116, 117, 118, 119, 120, 121, 122])) (zgName 2))
    (zSeq (zAsg (zCall c._law_draw (zaCons (zVar 0) (zaCons (zC (.int 26)) zaNil))) (zgName 3))
    (zSeq (zAsg (z2 zAdd (zC (.int 1)) (z2 zMul (zC (.int 2)) (zCall c._law_draw (zaCons (zVar 0) (zaCons (zC (.int 6)) zaNil))))) (zgName 4))
    (zSeq (zAsg (zSl (zC (.str [113, 120, 122])) zoNone (zoSome (zCall c._law_draw (zaCons (zVar 0) (zaCons (zC (.int 4)) zaNil))))) (zgName 5))
    (zSeq (zIfS (ztB (z2 zEq (zCall c._law_draw (zaCons (zVar 0) (zaCons (zC (.int 2)) zaNil))) (zC (.int 0)))) (zRet (zLc (zsR1 (zaCons (zVar 1) zaNil)) (Tg.z (.nm 6)) ztYes (z2 zAdd (zVar 5) (z2 zIx (zVar 2) (z2 zMod (zCall zInt (zaCons (z2 zAdd (zVar 3) (z2 zMul (zVar 6) (zVar 4))) zaNil)) (zC (.int 26))))) [6])) zNext)
    (zRet (zLc (zsR1 (zaCons (zVar 1) zaNil)) (Tg.z (.nm 6)) ztYes (z2 zAdd (z2 zIx (zVar 2) (z2 zMod (zCall zInt (zaCons (z2 zAdd (zVar 3) (z2 zMul (zVar 6) (zVar 4))) zaNil)) (zC (.int 26)))) (zVar 5)) [6])))))))
def b__law_is_int (c : Cs) : ZS :=
    (zRet (zAnd (zIsa .int (zVar 0)) (zNt (zIsa .bool (zVar 0)))))
def b__law_same (c : Cs) : ZS :=
    (zSeq (zIfS (ztOf (zIsa .tuple (zVar 1))) (zSeq (zIfS (ztOr (ztNot (ztOf (zIsa .tuple (zVar 0)))) (ztB (z2 (zNot zEq) (zCall zLen (zaCons (zVar 0) zaNil)) (zCall zLen (zaCons (zVar 1) zaNil))))) (zRet (zC (.bl false))) zNext)
    (zRet (zCall zAll (zaCons (zLc (zsR1 (zaCons (zCall zLen (zaCons (zVar 1) zaNil)) zaNil)) (Tg.z (.nm 2)) ztYes (zCall c._law_same (zaCons (z2 zIx (zVar 0) (zVar 2)) (zaCons (z2 zIx (zVar 1) (zVar 2)) zaNil))) [2]) zaNil)))) zNext)
    (zSeq (zIfS (ztOf (zIsa .str (zVar 1))) (zRet (zAnd (zIsa .str (zVar 0)) (z2 zEq (zVar 0) (zVar 1)))) zNext)
    (zRet (zAnd (zCall c._law_is_int (zaCons (zVar 0) zaNil)) (z2 zEq (zVar 0) (zVar 1))))))
def b__law_offsets (c : Cs) : ZS :=
    (zRet (zCall zTupC (zaCons (zLc (zsR1 (zaCons (zVar 1) zaNil)) (Tg.z (.nm 3)) ztYes (z2 zSub (zCall c._law_draw (zaCons (zVar 0) (zaCons (z2 zAdd (z2 zMul (zC (.int 2)) (zVar 2)) (zC (.int 1))) zaNil))) (zVar 2)) [3]) zaNil)))
def b__law_rim (c : Cs) : ZS :=
    (zRet (z2 zIx (zLst (zaCons (zC (.int 0)) (zaCons (zC (.int 0)) (zaCons (z2 zSub (zCall c._law_draw (zaCons (zVar 0) (zaCons (zC (.int 9)) zaNil))) (zC (.int 4))) zaNil)))) (zCall c._law_draw (zaCons (zVar 0) (zaCons (zC (.int 3)) zaNil)))))
def b__law_given_row (c : Cs) : ZS :=
    (zSeq (zAsg (zCall c._law_rim (zaCons (zVar 0) zaNil)) (zgName 2))
    (zSeq (zAsg (z2 zIx (zLst (zaCons (zTup zaNil) (zaCons (z2 zSub (zVar 2) (zCall c._law_draw (zaCons (zVar 0) (zaCons (zC (.int 4)) zaNil)))) zaNil))) (zCall c._law_draw (zaCons (zVar 0) (zaCons (zC (.int 2)) zaNil)))) (zgName 3))
    (zSeq (zAsg (z2 zIx (zLst (zaCons (zTup zaNil) (zaCons (z2 zAdd (zVar 2) (zCall c._law_draw (zaCons (zVar 0) (zaCons (zC (.int 4)) zaNil)))) zaNil))) (zCall c._law_draw (zaCons (zVar 0) (zaCons (zC (.int 2)) zaNil)))) (zgName 4))
    (zRet (zTup (zaCons (zVar 1) (zaCons (zVar 2) (zaCons (zVar 3) (zaCons (zVar 4) zaNil)))))))))
def b__law_table_world (c : Cs) : ZS :=
    (zSeq (zAsg (zCall c._law_words (zaCons (zVar 0) (zaCons (z2 zAdd (z2 zAdd (zVar 1) (zVar 2)) (zVar 3)) zaNil))) (zgName 4))
    (zSeq (zAsg (zDispN 15 [((zC (.str [109, 97, 110, 121])), (zVar 1)), ((zC (.str [111, 118, 101, 114])), (zCall zTupC (zaCons (zSl (zVar 4) zoNone (zoSome (zVar 1))) zaNil))), ((zC (.str [114, 117, 108, 101, 95, 110, 97, 109, 101, 115])), (zCall zSorted (zaCons (zSl (zVar 4) (zoSome (zVar 1)) (zoSome (z2 zAdd (zVar 1) (zVar 2)))) zaNil))), ((zC (.str [109, 111, 115, 116])), (zC (.int 2)))]) (zgName 5))
    (zSeq (zAsg (zCall zSorted (zaCons (zSl (zVar 4) (zoSome (z2 zAdd (zVar 1) (zVar 2))) zoNone) zaNil)) (zgSub (zVar 5) (zC (.str [103, 105, 118, 101, 110, 95, 110, 97, 109, 101, 115]))))
    (zSeq (zAsg (zC .non) (zgSub (zVar 5) (zC (.str [114, 111, 119]))))
    (zRet (zVar 5))))))
def b__law_refs (c : Cs) : ZS :=
    (zSeq (zIfS (ztB (z2 zEq (z2 zIx (zVar 0) (zC (.int 0))) (zC (.str [99, 101, 108, 108])))) (zRet (zLst (zaCons (zVar 0) zaNil))) zNext)
    (zSeq (zAsg (zLst zaNil) (zgName 1))
    (zSeq (zFor (zsAny (zSl (zVar 0) (zoSome (zC (.int 1))) zoNone)) (zgName 2) (zIfS (ztOf (zIsa .tuple (zVar 2))) (zAsg (z2 zAdd (zVar 1) (zCall c._law_refs (zaCons (zVar 2) zaNil))) (zgName 1)) zNext))
    (zRet (zVar 1)))))
def b__law_at_offsets (c : Cs) : ZS :=
    (zRet (zCall zTupC (zaCons (zLc (zsR1 (zaCons (zCall zLen (zaCons (zVar 0) zaNil)) zaNil)) (Tg.z (.nm 2)) ztYes (z2 zAdd (z2 zIx (zVar 0) (zVar 2)) (z2 zIx (zVar 1) (zVar 2))) [2]) zaNil)))
def b__law_in_box (c : Cs) : ZS :=
    (zRet (zCall zAll (zaCons (zLc (zsR1 (zaCons (zCall zLen (zaCons (zVar 0) zaNil)) zaNil)) (Tg.z (.nm 2)) ztYes (zAnd (z2 zLe (zC (.int 0)) (z2 zIx (zVar 1) (zVar 2))) (z2 zLt (z2 zIx (zVar 1) (zVar 2)) (z2 zIx (zVar 0) (zVar 2)))) [2]) zaNil)))
def b__law_places (c : Cs) : ZS :=
    (zSeq (zAsg (zLst (zaCons (zTup zaNil) zaNil)) (zgName 1))
    (zSeq (zFor (zsAny (zVar 0)) (zgName 2) (zSeq (zAsg (zLst zaNil) (zgName 3))
    (zSeq (zFor (zsAny (zVar 1)) (zgName 4) (zAsg (z2 zAdd (zVar 3) (zLc (zsR1 (zaCons (zVar 2) zaNil)) (Tg.z (.nm 5)) ztYes (z2 zAdd (zVar 4) (zTup (zaCons (zVar 5) zaNil))) [5])) (zgName 3)))
    (zAsg (zVar 3) (zgName 1)))))
    (zRet (zVar 1))))
def b__law_row_named (c : Cs) : ZS :=
    (zSeq (zFor (zsAny (z2 zAdd (z2 zIx (zVar 0) (zC (.int 1))) (z2 zIx (zVar 0) (zC (.int 2))))) (zgName 2) (zIfS (ztB (z2 zEq (z2 zIx (zVar 2) (zC (.int 0))) (zVar 1))) (zRet (zVar 2)) zNext))
    (zRet (zC .non)))
def b__law_given_value (c : Cs) : ZS :=
    (zSeq (zFor (zsR1 (zaCons (zCall zLen (zaCons (z2 zIx (zVar 0) (zC (.int 1))) zaNil)) zaNil)) (zgName 4) (zIfS (ztB (z2 zEq (z2 zIx (z2 zIx (z2 zIx (zVar 0) (zC (.int 1))) (zVar 4)) (zC (.int 0))) (zVar 2))) (zSeq (zFor (zsAny (z2 zIx (zVar 1) (zVar 4))) (zgTup 2 (zgCons (zgName 5) (zgCons (zgName 6) zgNil))) (zIfS (ztB (z2 zEq (zVar 5) (zVar 3))) (zRet (zVar 6)) zNext))
    (zRet (z2 zIx (z2 zIx (z2 zIx (zVar 0) (zC (.int 1))) (zVar 4)) (zC (.int 1))))) zNext))
    (zRet (zC .non)))
def b__law_holds_sign (c : Cs) : ZS :=
    (zSeq (zIfS (ztB (z2 zEq (zVar 0) (zC (.str [60])))) (zRet (z2 zLt (zVar 1) (zVar 2))) zNext)
    (zSeq (zIfS (ztB (z2 zEq (zVar 0) (zC (.str [60, 61])))) (zRet (z2 zLe (zVar 1) (zVar 2))) zNext)
    (zSeq (zIfS (ztB (z2 zEq (zVar 0) (zC (.str [62])))) (zRet (z2 zGt (zVar 1) (zVar 2))) zNext)
    (zSeq (zIfS (ztB (z2 zEq (zVar 0) (zC (.str [62, 61])))) (zRet (z2 zGe (zVar 1) (zVar 2))) zNext)
    (zSeq (zIfS (ztB (z2 zEq (zVar 0) (zC (.str [61, 61])))) (zRet (z2 zEq (zVar 1) (zVar 2))) zNext)
    (zRet (z2 (zNot zEq) (zVar 1) (zVar 2))))))))
def b__law_worth_at (c : Cs) : ZS :=
    (zSeq (zAsg (z2 zIx (zVar 1) (zC (.int 0))) (zgName 3))
    (zSeq (zIfS (ztB (z2 zEq (zVar 3) (zC (.str [110, 117, 109, 98, 101, 114])))) (zRet (z2 zIx (zVar 1) (zC (.int 1)))) zNext)
    (zSeq (zIfS (ztB (z2 zEq (zVar 3) (zC (.str [99, 111, 117, 110, 116, 101, 114])))) (zRet (z2 zIx (zVar 2) (z2 zIx (zVar 1) (zC (.int 1))))) zNext)
    (zSeq (zIfS (ztB (z2 zEq (zVar 3) (zC (.str [99, 101, 108, 108])))) (zSeq (zAsg (zCall c._law_at_offsets (zaCons (zVar 2) (zaCons (z2 zIx (zVar 1) (zC (.int 2))) zaNil))) (zgName 4))
    (zSeq (zIfS (ztNot (ztOf (zCall c._law_in_box (zaCons (z2 zIx (zVar 0) (zC (.str [115, 105, 122, 101, 115]))) (zaCons (zVar 4) zaNil))))) (zRet (z2 zIx (zCall c._law_row_named (zaCons (z2 zIx (zVar 0) (zC (.str [116, 97, 98, 108, 101]))) (zaCons (z2 zIx (zVar 1) (zC (.int 1))) zaNil))) (zC (.int 1)))) zNext)
    (zSeq (zIfS (ztB (z2 (zInn false) (zTup (zaCons (z2 zIx (zVar 1) (zC (.int 1))) (zaCons (zVar 4) zaNil))) (z2 zIx (zVar 0) (zC (.str [107, 110, 111, 119, 110]))))) (zRet (z2 zIx (z2 zIx (zVar 0) (zC (.str [107, 110, 111, 119, 110]))) (zTup (zaCons (z2 zIx (zVar 1) (zC (.int 1))) (zaCons (zVar 4) zaNil))))) zNext)
    (zRet (zCall c._law_given_value (zaCons (z2 zIx (zVar 0) (zC (.str [116, 97, 98, 108, 101]))) (zaCons (z2 zIx (zVar 0) (zC (.str [102, 105, 101, 108, 100, 115]))) (zaCons (z2 zIx (zVar 1) (zC (.int 1))) (zaCons (zVar 4) zaNil))))))))) zNext)
    (zSeq (zIfS (ztB (z2 zEq (zVar 3) (zC (.str [110, 101, 103, 97, 116, 101])))) (zRet (z2 zSub (zC (.int 0)) (zCall c._law_worth_at (zaCons (zVar 0) (zaCons (z2 zIx (zVar 1) (zC (.int 1))) (zaCons (zVar 2) zaNil)))))) zNext)
    (zSeq (zIfS (ztB (z2 zEq (zVar 3) (zC (.str [115, 99, 97, 108, 101])))) (zRet (z2 zMul (z2 zIx (zVar 1) (zC (.int 1))) (zCall c._law_worth_at (zaCons (zVar 0) (zaCons (z2 zIx (zVar 1) (zC (.int 2))) (zaCons (zVar 2) zaNil)))))) zNext)
    (zSeq (zIfS (ztB (z2 zEq (zVar 3) (zC (.str [112, 105, 99, 107])))) (zSeq (zAsg (zLc (zsAny (zSl (zVar 1) (zoSome (zC (.int 2))) zoNone)) (Tg.z (.nm 8)) ztYes (zCall c._law_worth_at (zaCons (zVar 0) (zaCons (zVar 8) (zaCons (zVar 2) zaNil)))) [8]) (zgName 5))
    (zRet (z2 zIx (zLst (zaCons (z2 zIx (zVar 5) (zC (.int 3))) (zaCons (z2 zIx (zVar 5) (zC (.int 2))) zaNil))) (zCall zInt (zaCons (zCall c._law_holds_sign (zaCons (z2 zIx (zVar 1) (zC (.int 1))) (zaCons (z2 zIx (zVar 5) (zC (.int 0))) (zaCons (z2 zIx (zVar 5) (zC (.int 1))) zaNil)))) zaNil))))) zNext)
    (zSeq (zAsg (zCall c._law_worth_at (zaCons (zVar 0) (zaCons (z2 zIx (zVar 1) (zC (.int 1))) (zaCons (zVar 2) zaNil)))) (zgName 6))
    (zSeq (zAsg (zCall c._law_worth_at (zaCons (zVar 0) (zaCons (z2 zIx (zVar 1) (zC (.int 2))) (zaCons (zVar 2) zaNil)))) (zgName 7))
    (zSeq (zIfS (ztB (z2 zEq (zVar 3) (zC (.str [112, 108, 117, 115])))) (zRet (z2 zAdd (zVar 6) (zVar 7))) zNext)
    (zSeq (zIfS (ztB (z2 zEq (zVar 3) (zC (.str [109, 105, 110, 117, 115])))) (zRet (z2 zSub (zVar 6) (zVar 7))) zNext)
    (zRet (z2 zIx (zCall zSorted (zaCons (zLst (zaCons (zVar 6) (zaCons (zVar 7) zaNil))) zaNil)) (zCall zInt (zaCons (z2 zEq (zVar 3) (zC (.str [103, 114, 101, 97, 116, 101, 115, 116]))) zaNil)))))))))))))))
def b__law_needs_of (c : Cs) : ZS :=
    (zSeq (zAsg (zLst zaNil) (zgName 4))
    (zSeq (zAsg (zLc (zsAny (z2 zIx (zVar 0) (zC (.int 2)))) (Tg.z (.nm 10)) ztYes (z2 zIx (zVar 10) (zC (.int 0))) [10]) (zgName 5))
    (zSeq (zFor (zsAny (zCall c._law_refs (zaCons (z2 zIx (zCall c._law_row_named (zaCons (zVar 0) (zaCons (zVar 2) zaNil))) (zC (.int 2))) zaNil))) (zgTup 3 (zgCons (zgName 6) (zgCons (zgName 7) (zgCons (zgName 8) zgNil)))) (zSeq (zAsg (zCall c._law_at_offsets (zaCons (zVar 3) (zaCons (zVar 8) zaNil))) (zgName 9))
    (zIfS (ztAnd (ztB (z2 (zInn false) (zVar 7) (zVar 5))) (ztAnd (ztOf (zCall c._law_in_box (zaCons (zVar 1) (zaCons (zVar 9) zaNil)))) (ztB (z2 (zInn true) (zTup (zaCons (zVar 7) (zaCons (zVar 9) zaNil))) (zVar 4))))) (zDrop (zMt "list" zAppend (zVar 4) (zaCons (zTup (zaCons (zVar 7) (zaCons (zVar 9) zaNil))) zaNil))) zNext)))
    (zRet (zVar 4)))))
def b__law_told_cells (c : Cs) : ZS :=
    (zSeq (zAsg (zDispN 15 [((zC (.str [116, 97, 98, 108, 101])), (zVar 0)), ((zC (.str [115, 105, 122, 101, 115])), (zVar 1)), ((zC (.str [102, 105, 101, 108, 100, 115])), (zVar 2)), ((zC (.str [107, 110, 111, 119, 110])), zDn)]) (zgName 3))
    (zSeq (zAsg (zLst zaNil) (zgName 4))
    (zSeq (zFor (zsAny (z2 zIx (zVar 0) (zC (.int 2)))) (zgName 5) (zAsg (z2 zAdd (zVar 4) (zLc (zsAny (zCall c._law_places (zaCons (zVar 1) zaNil))) (Tg.z (.nm 8)) ztYes (zTup (zaCons (z2 zIx (zVar 5) (zC (.int 0))) (zaCons (zVar 8) zaNil))) [8])) (zgName 4)))
    (zSeq (zAsg zDn (zgName 6))
    (zSeq (zFor (zsAny (zVar 4)) (zgTup 2 (zgCons (zgName 7) (zgCons (zgName 8) zgNil))) (zAsg (zCall c._law_needs_of (zaCons (zVar 0) (zaCons (zVar 1) (zaCons (zVar 7) (zaCons (zVar 8) zaNil))))) (zgSub (zVar 6) (zTup (zaCons (zVar 7) (zaCons (zVar 8) zaNil))))))
    (zSeq (zAsg (z2 zIx (zVar 3) (zC (.str [107, 110, 111, 119, 110]))) (zgName 9))
    (zSeq (zFor (zsR1 (zaCons (z2 zAdd (zCall zLen (zaCons (zVar 4) zaNil)) (zC (.int 1))) zaNil)) (zgName 10) (zSeq (zAsg (zLc (zsAny (zVar 4)) (Tg.z (.nm 12)) (ztOf (zCall zAll (zaCons (zLc (zsAny (z2 zIx (zVar 6) (zVar 12))) (Tg.z (.nm 13)) ztYes (z2 (zInn false) (zVar 13) (zVar 9)) [13]) zaNil))) (zVar 12) [12]) (zgName 11))
    (zSeq (zIfS (ztB (z2 zEq (zVar 11) (zLst zaNil))) zBrk zNext)
    (zSeq (zFor (zsAny (zVar 11)) (zgTup 2 (zgCons (zgName 7) (zgCons (zgName 8) zgNil))) (zAsg (zCall c._law_worth_at (zaCons (zVar 3) (zaCons (z2 zIx (zCall c._law_row_named (zaCons (zVar 0) (zaCons (zVar 7) zaNil))) (zC (.int 2))) (zaCons (zVar 8) zaNil)))) (zgSub (zVar 9) (zTup (zaCons (zVar 7) (zaCons (zVar 8) zaNil))))))
    (zAsg (zLc (zsAny (zVar 4)) (Tg.z (.nm 12)) (ztB (z2 (zInn true) (zVar 12) (zVar 9))) (zVar 12) [12]) (zgName 4))))))
    (zRet (zVar 9)))))))))
def b__law_sizes (c : Cs) : ZS :=
    (zRet (zCall zTupC (zaCons (zLc (zsR1 (zaCons (zVar 1) zaNil)) (Tg.z (.nm 3)) ztYes (z2 zAdd (zC (.int 1)) (zCall c._law_draw (zaCons (zVar 0) (zaCons (z2 zIx (zLst (zaCons (z2 zMul (zVar 2) (zC (.int 3))) (zaCons (zVar 2) (zaCons (z2 zDiv (z2 zAdd (zVar 2) (zC (.int 2))) (zC (.int 2))) zaNil)))) (z2 zSub (zVar 1) (zC (.int 1)))) zaNil)))) [3]) zaNil)))
def b__law_fields (c : Cs) : ZS :=
    (zSeq (zAsg (zLst zaNil) (zgName 3))
    (zSeq (zFor (zsAny (z2 zIx (zVar 1) (zC (.int 1)))) (zgTup 4 (zgCons (zgName 4) (zgCons (zgName 5) (zgCons (zgName 6) (zgCons (zgName 7) zgNil))))) (zSeq (zAsg (zLst zaNil) (zgName 8))
    (zSeq (zFor (zsAny (zCall c._law_places (zaCons (zVar 2) zaNil))) (zgName 9) (zIfS (ztB (z2 zEq (zCall c._law_draw (zaCons (zVar 0) (zaCons (zC (.int 2)) zaNil))) (zC (.int 0)))) (zSeq (zAsg (z2 zSub (z2 zAdd (zVar 5) (zCall c._law_draw (zaCons (zVar 0) (zaCons (zC (.int 9)) zaNil)))) (zC (.int 4))) (zgName 10))
    (zSeq (zIfS (ztB (z2 (zNot zEq) (zVar 6) (zTup zaNil))) (zAsg (zCall zMax2 (zaCons (zVar 10) (zaCons (zVar 6) zaNil))) (zgName 10)) zNext)
    (zSeq (zIfS (ztB (z2 (zNot zEq) (zVar 7) (zTup zaNil))) (zAsg (zCall zMin2 (zaCons (zVar 10) (zaCons (zVar 7) zaNil))) (zgName 10)) zNext)
    (zDrop (zMt "list" zAppend (zVar 8) (zaCons (zTup (zaCons (zVar 9) (zaCons (zVar 10) zaNil))) zaNil)))))) zNext))
    (zDrop (zMt "list" zAppend (zVar 3) (zaCons (zCall zTupC (zaCons (zVar 8) zaNil)) zaNil))))))
    (zRet (zCall zTupC (zaCons (zVar 3) zaNil)))))
def b__law_numbers_in (c : Cs) : ZS :=
    (zSeq (zIfS (ztB (z2 zEq (z2 zIx (zVar 0) (zC (.int 0))) (zC (.str [110, 117, 109, 98, 101, 114])))) (zRet (zLst (zaCons (z2 zIx (zVar 0) (zC (.int 1))) zaNil))) zNext)
    (zSeq (zAsg (zLst zaNil) (zgName 1))
    (zSeq (zIfS (ztB (z2 zEq (z2 zIx (zVar 0) (zC (.int 0))) (zC (.str [115, 99, 97, 108, 101])))) (zDrop (zMt "list" zAppend (zVar 1) (zaCons (z2 zIx (zVar 0) (zC (.int 1))) zaNil))) zNext)
    (zSeq (zFor (zsAny (zSl (zVar 0) (zoSome (zC (.int 1))) zoNone)) (zgName 2) (zIfS (ztAnd (ztOf (zIsa .tuple (zVar 2))) (ztB (z2 (zNot zEq) (z2 zIx (zVar 0) (zC (.int 0))) (zC (.str [99, 101, 108, 108]))))) (zAsg (z2 zAdd (zVar 1) (zCall c._law_numbers_in (zaCons (zVar 2) zaNil))) (zgName 1)) zNext))
    (zRet (zVar 1))))))
def b__law_token_count (c : Cs) : ZS :=
    (zSeq (zAsg (z2 zIx (zVar 1) (zC (.int 0))) (zgName 2))
    (zSeq (zIfS (ztOr (ztB (z2 zEq (zVar 2) (zC (.str [110, 117, 109, 98, 101, 114])))) (ztB (z2 zEq (zVar 2) (zC (.str [99, 111, 117, 110, 116, 101, 114]))))) (zRet (zC (.int 1))) zNext)
    (zSeq (zIfS (ztB (z2 zEq (zVar 2) (zC (.str [99, 101, 108, 108])))) (zRet (z2 zAdd (z2 zAdd (zC (.int 2)) (z2 zMul (zC (.int 2)) (zCall zLen (zaCons (zVar 0) zaNil)))) (z2 zMul (zC (.int 2)) (zCall zLen (zaCons (zLc (zsAny (z2 zIx (zVar 1) (zC (.int 2)))) (Tg.z (.nm 4)) (ztB (z2 (zNot zEq) (zVar 4) (zC (.int 0)))) (zVar 4) [4]) zaNil))))) zNext)
    (zSeq (zIfS (ztB (z2 zEq (zVar 2) (zC (.str [110, 101, 103, 97, 116, 101])))) (zRet (z2 zAdd (z2 zAdd (zC (.int 1)) (zCall c._law_token_count (zaCons (zVar 0) (zaCons (z2 zIx (zVar 1) (zC (.int 1))) zaNil)))) (z2 zMul (zC (.int 2)) (zCall zInt (zaCons (z2 (zInn false) (z2 zIx (z2 zIx (zVar 1) (zC (.int 1))) (zC (.int 0))) (zLst (zaCons (zC (.str [112, 108, 117, 115])) (zaCons (zC (.str [109, 105, 110, 117, 115])) (zaCons (zC (.str [110, 101, 103, 97, 116, 101])) zaNil))))) zaNil))))) zNext)
    (zSeq (zIfS (ztB (z2 zEq (zVar 2) (zC (.str [115, 99, 97, 108, 101])))) (zRet (z2 zAdd (z2 zAdd (zC (.int 2)) (zCall c._law_token_count (zaCons (zVar 0) (zaCons (z2 zIx (zVar 1) (zC (.int 2))) zaNil)))) (z2 zMul (zC (.int 2)) (zCall zInt (zaCons (z2 (zInn false) (z2 zIx (z2 zIx (zVar 1) (zC (.int 2))) (zC (.int 0))) (zLst (zaCons (zC (.str [112, 108, 117, 115])) (zaCons (zC (.str [109, 105, 110, 117, 115])) (zaCons (zC (.str [110, 101, 103, 97, 116, 101])) (zaCons (zC (.str [115, 99, 97, 108, 101])) zaNil)))))) zaNil))))) zNext)
    (zSeq (zAsg (zCall zSum (zaCons (zLc (zsAny (zSl (zVar 1) (zoSome (zC (.int 1))) zoNone)) (Tg.z (.nm 5)) (ztOf (zIsa .tuple (zVar 5))) (zCall c._law_token_count (zaCons (zVar 0) (zaCons (zVar 5) zaNil))) [5]) zaNil)) (zgName 3))
    (zSeq (zIfS (ztB (z2 zEq (zVar 2) (zC (.str [112, 105, 99, 107])))) (zRet (z2 zAdd (zVar 3) (zC (.int 6)))) zNext)
    (zSeq (zIfS (ztOr (ztB (z2 zEq (zVar 2) (zC (.str [112, 108, 117, 115])))) (ztB (z2 zEq (zVar 2) (zC (.str [109, 105, 110, 117, 115]))))) (zRet (z2 zAdd (z2 zAdd (zVar 3) (zC (.int 1))) (z2 zMul (zC (.int 2)) (zCall zInt (zaCons (z2 (zInn false) (z2 zIx (z2 zIx (zVar 1) (zC (.int 2))) (zC (.int 0))) (zLst (zaCons (zC (.str [112, 108, 117, 115])) (zaCons (zC (.str [109, 105, 110, 117, 115])) (zaCons (zC (.str [110, 101, 103, 97, 116, 101])) zaNil))))) zaNil))))) zNext)
    (zRet (z2 zAdd (zVar 3) (zC (.int 4))))))))))))
def b__law_can_be_read (c : Cs) : ZS :=
    (zSeq (zAsg (z2 zAdd (z2 zAdd (zC (.int 3)) (z2 zMul (zC (.int 2)) (zCall zInt (zaCons (z2 (zNot zEq) (z2 zIx (zVar 1) (zC (.int 1))) (zC (.int 0))) zaNil)))) (zCall zInt (zaCons (z2 zLt (z2 zIx (zVar 1) (zC (.int 1))) (zC (.int 0))) zaNil))) (zgName 2))
    (zSeq (zIfS (ztOr (ztB (z2 zGt (z2 zAdd (zVar 2) (zCall c._law_token_count (zaCons (zVar 0) (zaCons (z2 zIx (zVar 1) (zC (.int 2))) zaNil)))) (zC (.int 80)))) (ztB (z2 zGt (zCall zLen (zaCons (zCall c._law_refs (zaCons (z2 zIx (zVar 1) (zC (.int 2))) zaNil)) zaNil)) (zC (.int 12))))) (zRet (zC (.bl false))) zNext)
    (zRet (zCall zAll (zaCons (zLc (zsAny (zCall c._law_numbers_in (zaCons (z2 zIx (zVar 1) (zC (.int 2))) zaNil))) (Tg.z (.nm 3)) ztYes (z2 zLt (zVar 3) (z2 zPow (zC (.int 10)) (zC (.int 6)))) [3]) zaNil)))))
def b__law_untouched (c : Cs) : ZS :=
    (zSeq (zIfS (ztB (z2 (zNot zEq) (zCall zLen (zaCons (z2 zIx (zVar 0) (zC (.int 0))) zaNil)) (zCall zLen (zaCons (z2 zIx (zVar 1) (zC (.int 0))) zaNil)))) (zRet (zTup zaNil)) zNext)
    (zSeq (zAsg (zLc (zsAny (z2 zIx (zVar 0) (zC (.int 1)))) (Tg.z (.nm 7)) (ztB (z2 (zInn false) (zVar 7) (z2 zIx (zVar 1) (zC (.int 1))))) (z2 zIx (zVar 7) (zC (.int 0))) [7]) (zgName 2))
    (zSeq (zAsg (zLc (zsAny (z2 zIx (zVar 0) (zC (.int 2)))) (Tg.z (.nm 7)) (ztB (z2 (zInn false) (zVar 7) (z2 zIx (zVar 1) (zC (.int 2))))) (z2 zIx (zVar 7) (zC (.int 0))) [7]) (zgName 3))
    (zSeq (zFor (zsR1 (zaCons (z2 zAdd (zCall zLen (zaCons (zVar 3) zaNil)) (zC (.int 1))) zaNil)) (zgName 4) (zSeq (zAsg (zLst zaNil) (zgName 5))
    (zSeq (zFor (zsAny (zVar 3)) (zgName 6) (zIfS (ztOf (zCall zAll (zaCons (zLc (zsAny (zCall c._law_refs (zaCons (z2 zIx (zCall c._law_row_named (zaCons (zVar 0) (zaCons (zVar 6) zaNil))) (zC (.int 2))) zaNil))) (Tg.z (.nm 8)) ztYes (zOr (z2 (zInn false) (z2 zIx (zVar 8) (zC (.int 1))) (zVar 2)) (z2 (zInn false) (z2 zIx (zVar 8) (zC (.int 1))) (zVar 3))) [8]) zaNil))) (zDrop (zMt "list" zAppend (zVar 5) (zaCons (zVar 6) zaNil))) zNext))
    (zSeq (zIfS (ztB (z2 zEq (zCall zLen (zaCons (zVar 5) zaNil)) (zCall zLen (zaCons (zVar 3) zaNil)))) zBrk zNext)
    (zAsg (zVar 5) (zgName 3))))))
    (zRet (zCall zTupC (zaCons (zCall zSorted (zaCons (zVar 3) zaNil)) zaNil)))))))
def b__law_touched_table (c : Cs) : ZS :=
    (zSeq (zAsg (zCall c._law_draw (zaCons (zVar 0) (zaCons (zC (.int 5)) zaNil))) (zgName 2))
    (zSeq (zAsg (zCall zListC (zaCons (z2 zIx (zVar 1) (zC (.int 2))) zaNil)) (zgName 3))
    (zSeq (zAsg (zCall zListC (zaCons (z2 zIx (zVar 1) (zC (.int 1))) zaNil)) (zgName 4))
    (zSeq (zAsg (zCall c._law_draw (zaCons (zVar 0) (zaCons (zCall zLen (zaCons (zVar 3) zaNil)) zaNil))) (zgName 5))
    (zSeq (zAsg (z2 zIx (zVar 3) (zVar 5)) (zgTup 3 (zgCons (zgName 6) (zgCons (zgName 7) (zgCons (zgName 8) zgNil)))))
    (zSeq (zIfS (ztB (z2 zEq (zVar 2) (zC (.int 0)))) (zAsg (zTup (zaCons (zVar 6) (zaCons (z2 zAdd (zVar 7) (zC (.int 1))) (zaCons (zVar 8) zaNil)))) (zgSub (zVar 3) (zVar 5))) (zIfS (ztB (z2 zEq (zVar 2) (zC (.int 1)))) (zAsg (zTup (zaCons (zVar 6) (zaCons (zVar 7) (zaCons (zTup (zaCons (zC (.str [110, 117, 109, 98, 101, 114])) (zaCons (zCall c._law_draw (zaCons (zVar 0) (zaCons (zC (.int 9)) zaNil))) zaNil))) zaNil)))) (zgSub (zVar 3) (zVar 5))) (zIfS (ztAnd (ztB (z2 zEq (zVar 2) (zC (.int 2)))) (ztB (z2 (zNot zEq) (zVar 4) (zLst zaNil)))) (zSeq (zAsg (zCall c._law_draw (zaCons (zVar 0) (zaCons (zCall zLen (zaCons (zVar 4) zaNil)) zaNil))) (zgName 9))
    (zAsg (zTup (zaCons (z2 zIx (z2 zIx (zVar 4) (zVar 9)) (zC (.int 0))) (zaCons (z2 zIx (z2 zIx (zVar 4) (zVar 9)) (zC (.int 1))) (zaCons (zTup zaNil) (zaCons (zTup zaNil) zaNil))))) (zgSub (zVar 4) (zVar 9)))) (zIfS (ztB (z2 zEq (zVar 2) (zC (.int 3)))) (zIfS (ztB (z2 (zInn true) (zC (.str [122, 122, 95, 122])) (zLc (zsAny (zVar 3)) (Tg.z (.nm 10)) ztYes (z2 zIx (zVar 10) (zC (.int 0))) [10]))) (zAsg (zCall zSorted (zaCons (z2 zAdd (zVar 3) (zLst (zaCons (zTup (zaCons (zC (.str [122, 122, 95, 122])) (zaCons (zC (.int 0)) (zaCons (zTup (zaCons (zC (.str [99, 111, 117, 110, 116, 101, 114])) (zaCons (zC (.int 0)) zaNil))) zaNil)))) zaNil))) zaNil)) (zgName 3)) zNext) (zSeq (zAsg (zTup (zaCons (zVar 6) (zaCons (zVar 7) (zaCons (zTup (zaCons (zC (.str [108, 101, 97, 115, 116])) (zaCons (zVar 8) (zaCons (zTup (zaCons (zC (.str [110, 117, 109, 98, 101, 114])) (zaCons (zC (.int 99999)) zaNil))) zaNil)))) zaNil)))) (zgName 10))
    (zIfS (ztOf (zCall c._law_can_be_read (zaCons (z2 zIx (zVar 1) (zC (.int 0))) (zaCons (zVar 10) zaNil)))) (zAsg (zVar 10) (zgSub (zVar 3) (zVar 5))) zNext))))))
    (zRet (zTup (zaCons (z2 zIx (zVar 1) (zC (.int 0))) (zaCons (zCall zTupC (zaCons (zVar 4) zaNil)) (zaCons (zCall zTupC (zaCons (zVar 3) zaNil)) (zaCons (z2 zIx (zVar 1) (zC (.int 3))) zaNil))))))))))))
def b__law_chain_table (c : Cs) : ZS :=
    (zSeq (zAsg (zCall c._law_table_world (zaCons (zVar 0) (zaCons (z2 zAdd (zC (.int 1)) (zCall c._law_draw (zaCons (zVar 0) (zaCons (zC (.int 2)) zaNil)))) (zaCons (z2 zAdd (zC (.int 2)) (zCall c._law_draw (zaCons (zVar 0) (zaCons (zC (.int 3)) zaNil)))) (zaCons (z2 zAdd (zC (.int 1)) (zCall c._law_draw (zaCons (zVar 0) (zaCons (zC (.int 2)) zaNil)))) zaNil))))) (zgName 1))
    (zSeq (zAsg (zLst zaNil) (zgName 2))
    (zSeq (zFor (zsR1 (zaCons (zCall zLen (zaCons (z2 zIx (zVar 1) (zC (.str [114, 117, 108, 101, 95, 110, 97, 109, 101, 115]))) zaNil)) zaNil)) (zgName 3) (zSeq (zAsg (zTup (zaCons (zC (.str [99, 111, 117, 110, 116, 101, 114])) (zaCons (zC (.int 0)) zaNil))) (zgName 4))
    (zSeq (zAsg (z2 zAdd (zSl (z2 zIx (zVar 1) (zC (.str [114, 117, 108, 101, 95, 110, 97, 109, 101, 115]))) zoNone (zoSome (z2 zAdd (zVar 3) (zCall c._law_draw (zaCons (zVar 0) (zaCons (zC (.int 2)) zaNil)))))) (zSl (z2 zIx (zVar 1) (zC (.str [103, 105, 118, 101, 110, 95, 110, 97, 109, 101, 115]))) zoNone (zoSome (zCall c._law_draw (zaCons (zVar 0) (zaCons (zC (.int 2)) zaNil)))))) (zgName 5))
    (zSeq (zFor (zsAny (zSl (zCall c._law_shuffled (zaCons (zVar 0) (zaCons (zVar 5) zaNil))) zoNone (zoSome (zC (.int 2))))) (zgName 6) (zSeq (zAsg (z2 zAdd (zTup (zaCons (z2 zSub (zNeg (zC (.int 1))) (zCall c._law_draw (zaCons (zVar 0) (zaCons (zC (.int 2)) zaNil)))) zaNil)) (zCall c._law_offsets (zaCons (zVar 0) (zaCons (z2 zSub (z2 zIx (zVar 1) (zC (.str [109, 97, 110, 121]))) (zC (.int 1))) (zaCons (zC (.int 1)) zaNil))))) (zgName 7))
    (zAsg (zTup (zaCons (z2 zIx (zLst (zaCons (zC (.str [112, 108, 117, 115])) (zaCons (zC (.str [109, 105, 110, 117, 115])) (zaCons (zC (.str [103, 114, 101, 97, 116, 101, 115, 116])) zaNil)))) (zCall c._law_draw (zaCons (zVar 0) (zaCons (zC (.int 3)) zaNil)))) (zaCons (zVar 4) (zaCons (zTup (zaCons (zC (.str [99, 101, 108, 108])) (zaCons (zVar 6) (zaCons (zVar 7) zaNil)))) zaNil)))) (zgName 4))))
    (zDrop (zMt "list" zAppend (zVar 2) (zaCons (zTup (zaCons (z2 zIx (z2 zIx (zVar 1) (zC (.str [114, 117, 108, 101, 95, 110, 97, 109, 101, 115]))) (zVar 3)) (zaCons (zCall c._law_rim (zaCons (zVar 0) zaNil)) (zaCons (zVar 4) zaNil)))) zaNil)))))))
    (zSeq (zAsg (zCall zTupC (zaCons (zLc (zsAny (z2 zIx (zVar 1) (zC (.str [103, 105, 118, 101, 110, 95, 110, 97, 109, 101, 115])))) (Tg.z (.nm 6)) ztYes (zCall c._law_given_row (zaCons (zVar 0) (zaCons (zVar 6) zaNil))) [6]) zaNil)) (zgName 8))
    (zRet (zTup (zaCons (z2 zIx (zVar 1) (zC (.str [111, 118, 101, 114]))) (zaCons (zVar 8) (zaCons (zCall zTupC (zaCons (zVar 2) zaNil)) (zaCons (zTup zaNil) zaNil))))))))))
def b_law (c : Cs) : ZS :=
    (zSeq (zAsg (zCall c._law_start (zaCons (zVar 0) zaNil)) (zgName 1))
    (zSeq (zAsg (zCall c._law_chain_table (zaCons (zVar 1) zaNil)) (zgName 2))
    (zSeq (zFor (zsR1 (zaCons (zC (.int 3)) zaNil)) (zgName 3) (zSeq (zAsg (zCall c._law_touched_table (zaCons (zVar 1) (zaCons (zVar 2) zaNil))) (zgName 4))
    (zSeq (zIfS (ztB (z2 zEq (zVar 3) (zC (.int 2)))) (zAsg (zCall c._law_touched_table (zaCons (zVar 1) (zaCons (zVar 4) zaNil))) (zgName 4)) zNext)
    (zSeq (zAsg (zCall c._law_untouched (zaCons (zVar 2) (zaCons (zVar 4) zaNil))) (zgName 5))
    (zSeq (zIfS (ztNot (ztOf (zCall c._law_same (zaCons (zCall c.untouched (zaCons (zVar 2) (zaCons (zVar 4) zaNil))) (zaCons (zVar 5) zaNil))))) (zRet (zC (.bl false))) zNext)
    (zSeq (zAsg (zLc (zsAny (z2 zIx (zVar 2) (zC (.int 1)))) (Tg.z (.nm 10)) (ztB (z2 (zInn false) (zVar 10) (z2 zIx (zVar 4) (zC (.int 1))))) (z2 zIx (zVar 10) (zC (.int 0))) [10]) (zgName 6))
    (zSeq (zAsg (zCall c._law_sizes (zaCons (zVar 1) (zaCons (zCall zLen (zaCons (z2 zIx (zVar 2) (zC (.int 0))) zaNil)) (zaCons (zC (.int 3)) zaNil)))) (zgName 7))
    (zSeq (zAsg (zCall c._law_fields (zaCons (zVar 1) (zaCons (zVar 2) (zaCons (zVar 7) zaNil)))) (zgName 8))
    (zSeq (zAsg (zLst zaNil) (zgName 9))
    (zSeq (zFor (zsAny (z2 zIx (zVar 4) (zC (.int 1)))) (zgName 10) (zIfS (ztB (z2 (zInn false) (z2 zIx (zVar 10) (zC (.int 0))) (zVar 6))) (zDrop (zMt "list" zAppend (zVar 9) (zaCons (z2 zIx (zVar 8) (zMt "list" zIndex (zLc (zsAny (z2 zIx (zVar 2) (zC (.int 1)))) (Tg.z (.nm 16)) ztYes (z2 zIx (zVar 16) (zC (.int 0))) [16]) (zaCons (z2 zIx (zVar 10) (zC (.int 0))) zaNil))) zaNil))) (zDrop (zMt "list" zAppend (zVar 9) (zaCons (zCall zTupC (zaCons (zLc (zsAny (zCall c._law_places (zaCons (zVar 7) zaNil))) (Tg.z (.nm 14)) ztYes (zTup (zaCons (zVar 14) (zaCons (z2 zAdd (z2 zIx (zVar 10) (zC (.int 1))) (zC (.int 3))) zaNil))) [14]) zaNil)) zaNil)))))
    (zSeq (zAsg (zCall c._law_told_cells (zaCons (zVar 2) (zaCons (zVar 7) (zaCons (zVar 8) zaNil)))) (zgName 11))
    (zSeq (zAsg (zCall c._law_told_cells (zaCons (zVar 4) (zaCons (zVar 7) (zaCons (zCall zTupC (zaCons (zVar 9) zaNil)) zaNil)))) (zgName 12))
    (zFor (zsAny (zVar 5)) (zgName 13) (zFor (zsAny (zCall c._law_places (zaCons (zVar 7) zaNil))) (zgName 14) (zIfS (ztB (z2 (zNot zEq) (z2 zIx (zVar 11) (zTup (zaCons (zVar 13) (zaCons (zVar 14) zaNil)))) (z2 zIx (zVar 12) (zTup (zaCons (zVar 13) (zaCons (zVar 14) zaNil)))))) (zRet (zC (.bl false))) zNext)))))))))))))))
    (zSeq (zIfS (ztNot (ztOf (zCall c._law_same (zaCons (zCall c.untouched (zaCons (zVar 2) (zaCons (zVar 2) zaNil))) (zaCons (zCall zTupC (zaCons (zLc (zsAny (z2 zIx (zVar 2) (zC (.int 2)))) (Tg.z (.nm 10)) ztYes (z2 zIx (zVar 10) (zC (.int 0))) [10]) zaNil)) zaNil))))) (zRet (zC (.bl false))) zNext)
    (zSeq (zAsg (zTup (zaCons (z2 zAdd (z2 zIx (zVar 2) (zC (.int 0))) (zTup (zaCons (zC (.str [122, 122, 95, 105])) zaNil))) (zaCons (zTup zaNil) (zaCons (zTup (zaCons (zTup (zaCons (zC (.str [97, 95, 97])) (zaCons (zC (.int 0)) (zaCons (zTup (zaCons (zC (.str [110, 117, 109, 98, 101, 114])) (zaCons (zC (.int 1)) zaNil))) zaNil)))) zaNil)) (zaCons (zTup zaNil) zaNil))))) (zgName 15))
    (zRet (zAnd (zCall c._law_same (zaCons (zCall c.untouched (zaCons (zVar 2) (zaCons (zVar 15) zaNil))) (zaCons (zTup zaNil) zaNil))) (zCall c._law_same (zaCons (zCall c.untouched (zaCons (zVar 15) (zaCons (zVar 15) zaNil))) (zaCons (zTup (zaCons (zC (.str [97, 95, 97])) zaNil)) zaNil))))))))))
section
variable {P : Program} {w : World} {K : PySem.W.Frag} {mg : Str → Option Value} {base : Heap} {k : Nat} {c : Cs} {f : Addr} {cdv : Value} {A : Around} {outer : List Env} {s : Shared} {H : Hp} {E : XK}
theorem d_references_in (e : Own P w K mg base k c) (hr : Room k (A.deeper (envOfC "references_in" (defScope s_references_in) s.heap.objs.size f cdv))) : QSs (cxOf CX0 P w K mg base N_references_in "references_in" (defScope s_references_in) f cdv A outer s H E).nox (defBody s_references_in) (b_references_in c) := by
  have hu := G.hu_of hr
  exact (qss_cons (qs_if (qt_cmp (q_eq hu) (q_ix hu (qv (i := 0) n_0 rfl (.inl rfl)) qe_int (fun _ _ => rfl)) (q_str s_0) (nomark _)) (qss_one (qs_ret (qe_lst (qa_cons (qv (i := 0) n_0 rfl (.inl rfl)) qa_nil rfl)))) qss_nil)
    (qss_cons (qs_set (i := 1) S_references_in.nd rfl (.inl rfl) (qe_lst qa_nil) rfl (.inl rfl))
    (qss_cons (qs_for PassesOwn.never rfl (qi_any (qe_sl (qv (i := 0) n_0 rfl (.inl rfl)) (qp_some qe_int) qp_none)) (qg_name (i := 2) S_references_in.nd rfl (.inl rfl) (.inl rfl)) (qss_one (qs_if (qt_of (q_isa .tuple rfl e.isinstance rfl e.tuple (qv (i := 2) n_1 rfl (.inl rfl)) rfl rfl rfl) (fun _ => rfl)) (qss_one (qs_expr (q_extend (qv (i := 1) n_2 rfl (.inl rfl)) (qa_cons (q_own e.f_references_in hr n_3 rfl (qa_cons (qv (i := 2) n_1 rfl (.inl rfl)) qa_nil rfl) rfl rfl) qa_nil rfl) rfl rfl rfl rfl rfl) rfl)) qss_nil)) (fun _ => rfl))
    (qss_one (qs_ret (qv (i := 1) n_2 rfl (.inl rfl)))))))
theorem d_same_rules (e : Own P w K mg base k c) (hr : Room k (A.deeper (envOfC "same_rules" (defScope s_same_rules) s.heap.objs.size f cdv))) : QSs (cxOf CX0 P w K mg base N_same_rules "same_rules" (defScope s_same_rules) f cdv A outer s H E).nox (defBody s_same_rules) (b_same_rules c) := by
  have hu := G.hu_of hr
  exact (qss_cons (qs_setDc (i := 2) rfl S_same_rules.nd rfl rfl (sw_trueD rfl rfl rfl (by decide +kernel)) (own := [("row", 4)]) (t := (.nm 4)) (qi_any (q_ix hu (qv (i := 1) n_4 rfl (.inl rfl)) qe_int (fun _ _ => rfl))) (by show blkC N_same_rules (defScope s_same_rules) _ _ = true; decide +kernel) (by decide) (fun _ _ _ _ _ => (pg_name (i := 4) S_same_rules.nd rfl (.inl rfl) (.inr rfl))) (fun _ _ _ _ _ => qts_nil) (fun _ _ _ _ _ => (q_ix hu (qv (i := 4) n_5 rfl (.inl rfl)) qe_int (fun _ _ => rfl))) (fun _ _ _ _ _ => (qv (i := 4) n_5 rfl (.inl rfl))) (fun _ => rfl))
    (qss_cons (qs_set (i := 3) S_same_rules.nd rfl (.inl rfl) qe_dn rfl (.inl rfl))
    (qss_cons (qs_for PassesOwn.never rfl (qi_any (q_ix hu (qv (i := 0) n_6 rfl (.inl rfl)) qe_int (fun _ _ => rfl))) (qg_name (i := 4) S_same_rules.nd rfl (.inl rfl) (.inl rfl)) (qss_one (qs_if (qt_cmp (q_eq hu) (q_get (qv (i := 2) n_7 rfl (.inl rfl)) (qa_cons (q_ix hu (qv (i := 4) n_5 rfl (.inl rfl)) qe_int (fun _ _ => rfl)) qa_nil rfl) rfl rfl rfl rfl hu rfl) (qv (i := 4) n_5 rfl (.inl rfl)) (nomark _)) (qss_one (qs_asg (qe_lc rfl S_same_rules.nd (own := [("reference", 5)]) (t := (.nm 5)) (qi_any (q_own e.f_references_in hr n_3 rfl (qa_cons (q_ix hu (qv (i := 4) n_5 rfl (.inl rfl)) qe_int (fun _ _ => rfl)) qa_nil rfl) rfl rfl)) (by show blkC N_same_rules (defScope s_same_rules) _ _ = true; decide +kernel) (by decide) (fun _ _ _ _ _ => (pg_name (i := 5) S_same_rules.nd rfl (.inl rfl) (.inr rfl))) (fun _ _ _ _ _ => qts_nil) (fun _ _ _ _ _ => (q_ix hu (qv (i := 5) n_8 rfl (.inl rfl)) qe_int (fun _ _ => rfl))) (fun _ => rfl)) (qg_sub' hu (qv (i := 3) n_2 rfl (.inl rfl)) (q_ix hu (qv (i := 4) n_5 rfl (.inl rfl)) qe_int (fun _ _ => rfl)) (fun _ => rfl)) rfl rfl rfl)) qss_nil)) (fun _ => rfl))
    (qss_one (qs_ret (qv (i := 3) n_2 rfl (.inl rfl)))))))
theorem d_untouched (e : Own P w K mg base k c) (hr : Room k (A.deeper (envOfC "untouched" (defScope s_untouched) s.heap.objs.size f cdv))) : QSs (cxOf CX0 P w K mg base N_untouched "untouched" (defScope s_untouched) f cdv A outer s H E).nox (defBody s_untouched) (b_untouched c) := by
  have hu := G.hu_of hr
  exact (qss_cons (qs_if (qt_cmp (q_ne hu) (q_len (qa_cons (q_ix hu (qv (i := 0) n_6 rfl (.inl rfl)) qe_int (fun _ _ => rfl)) qa_nil rfl) rfl rfl rfl e.len) (q_len (qa_cons (q_ix hu (qv (i := 1) n_4 rfl (.inr (.inl rfl))) qe_int (fun _ _ => rfl)) qa_nil rfl) rfl rfl rfl e.len) (nomark _)) (qss_one (qs_ret (qe_tup qa_nil))) qss_nil)
    (qss_cons (qs_set (i := 2) S_untouched.nd rfl (.inr rfl) (qe_lc rfl S_untouched.nd (own := [("row", 7)]) (t := (.nm 7)) (qi_any (q_ix hu (qv (i := 0) n_6 rfl (.inl rfl)) qe_int (fun _ _ => rfl))) (by show blkC N_untouched (defScope s_untouched) _ _ = true; decide +kernel) (by decide) (fun _ _ _ _ _ => (pg_name (i := 7) S_untouched.nd rfl (.inl rfl) (.inr rfl))) (fun _ _ _ _ _ => (qts_one (qt_cmp (qo_in hu) (qv (i := 7) n_5 rfl (.inl rfl)) (q_ix hu (qv (i := 1) n_4 rfl (.inr (.inl rfl))) qe_int (fun _ _ => rfl)) (by with_unfolding_all rfl)))) (fun _ _ _ _ _ => (q_ix hu (qv (i := 7) n_5 rfl (.inl rfl)) qe_int (fun _ _ => rfl))) (fun _ => rfl)) rfl (.inl rfl))
    (qss_cons (qs_set (i := 3) S_untouched.nd rfl (.inr rfl) (q_own e.f_same_rules hr n_9 rfl (qa_cons (qv (i := 0) n_6 rfl (.inl rfl)) (qa_cons (qv (i := 1) n_4 rfl (.inr (.inl rfl))) qa_nil rfl) rfl) rfl rfl) rfl (.inl rfl))
    (qss_cons (qs_set (i := 4) S_untouched.nd rfl (.inl rfl) qe_bl rfl (.inl rfl))
    (qss_cons (qs_while PassesOwn.never (qt_of (qv (i := 4) n_10 rfl (.inl rfl)) (fun _ => rfl)) (qss_cons (qs_set (i := 5) S_untouched.nd rfl (.inl rfl) qe_dn rfl (.inl rfl))
    (qss_cons (qs_lock (qs_for PassesOwn.never rfl (qi_any (qv (i := 3) n_11 rfl (.inr (.inl rfl)))) (qg_name (i := 6) S_untouched.nd rfl (.inl rfl) (.inl rfl)) (qss_one (qs_if (qt_of (q_all (qa_cons (qe_lc rfl S_untouched.nd (own := [("other", 8)]) (t := (.nm 8)) (qi_any (q_ix hu (qv (i := 3) n_11 rfl (.inr (.inl rfl))) (qv (i := 6) n_12 rfl (.inl rfl)) (fun _ _ => rfl))) (by show blkC N_untouched (defScope s_untouched) _ _ = true; decide +kernel) (by decide) (fun _ _ _ _ _ => (pg_name (i := 8) S_untouched.nd rfl (.inl rfl) (.inr rfl))) (fun _ _ _ _ _ => qts_nil) (fun _ _ _ _ _ => (qe_or (qe_cmp (qo_in hu) (qv (i := 8) n_13 rfl (.inl rfl)) (qv (i := 2) n_14 rfl (.inr (.inl rfl))) (by with_unfolding_all rfl)) (qe_one (qe_cmp (qo_in hu) (qv (i := 8) n_13 rfl (.inl rfl)) (qv (i := 3) n_11 rfl (.inr (.inl rfl))) (by with_unfolding_all rfl))))) (fun _ => rfl)) qa_nil rfl) rfl rfl rfl rfl e.all) (fun _ => rfl)) (qss_one (qs_asg (q_ix hu (qv (i := 3) n_11 rfl (.inr (.inl rfl))) (qv (i := 6) n_12 rfl (.inl rfl)) (fun _ _ => rfl)) (qg_sub' hu (qv (i := 5) n_15 rfl (.inl rfl)) (qv (i := 6) n_12 rfl (.inl rfl)) (fun _ => rfl)) rfl rfl rfl)) qss_nil)) (fun _ => rfl)))
    (qss_cons (qs_set (i := 4) S_untouched.nd rfl (.inl rfl) (qe_cmp qo_lt (q_len (qa_cons (qv (i := 5) n_15 rfl (.inl rfl)) qa_nil rfl) rfl rfl rfl e.len) (q_len (qa_cons (qv (i := 3) n_11 rfl (.inr (.inl rfl))) qa_nil rfl) rfl rfl rfl e.len) (nomark _)) rfl (.inl rfl))
    (qss_one (qs_set (i := 3) S_untouched.nd rfl (.inr rfl) (qv (i := 5) n_15 rfl (.inl rfl)) rfl (.inl rfl)))))))
    (qss_one (qs_ret (q_tuple (qa_cons (q_sorted (qa_cons (q_list (qa_cons (qv (i := 3) n_11 rfl (.inr (.inl rfl))) qa_nil rfl) rfl rfl rfl rfl e.list) qa_nil rfl) rfl rfl hu rfl e.sorted) qa_nil rfl) rfl rfl rfl e.tuple))))))))
theorem d__law_start (e : Own P w K mg base k c) (hr : Room k (A.deeper (envOfC "_law_start" (defScope s__law_start) s.heap.objs.size f cdv))) : QSs (cxOf CX0 P w K mg base N__law_start "_law_start" (defScope s__law_start) f cdv A outer s H E).nox (defBody s__law_start) (b__law_start c) := by
  have hu := G.hu_of hr
  exact (qss_one (qs_ret (qe_lst (qa_cons (q_list (qa_cons (qv (i := 0) n_16 rfl (.inl rfl)) qa_nil rfl) rfl rfl rfl rfl e.list) (qa_cons qe_int (qa_cons qe_int (qa_cons qe_int qa_nil rfl) rfl) rfl) rfl))))
theorem d__law_draw (e : Own P w K mg base k c) (hr : Room k (A.deeper (envOfC "_law_draw" (defScope s__law_draw) s.heap.objs.size f cdv))) : QSs (cxOf CX0 P w K mg base N__law_draw "_law_draw" (defScope s__law_draw) f cdv A outer s H E).nox (defBody s__law_draw) (b__law_draw c) := by
  have hu := G.hu_of hr
  exact (qss_cons (qs_asg (qe_op qo_add (q_ix hu (qv (i := 0) n_17 rfl (.inl rfl)) qe_int (fun _ _ => rfl)) qe_int) (qg_sub' hu (qv (i := 0) n_17 rfl (.inl rfl)) qe_int (fun _ => rfl)) rfl rfl rfl)
    (qss_cons (qs_if (qt_cmp qo_gt (q_ix hu (qv (i := 0) n_17 rfl (.inl rfl)) qe_int (fun _ _ => rfl)) qe_int (nomark _)) (qss_cons (qs_set (i := 2) S__law_draw.nd rfl (.inl rfl) (qe_op qo_mod (q_int (qa_cons (q_ix hu (qv (i := 0) n_17 rfl (.inl rfl)) qe_int (fun _ _ => rfl)) qa_nil rfl) rfl rfl rfl e.int) (qv (i := 1) n_18 rfl (.inl rfl))) rfl (.inl rfl))
    (qss_cons (qs_asg (qe_op qo_div (q_ix hu (qv (i := 0) n_17 rfl (.inl rfl)) qe_int (fun _ _ => rfl)) (qv (i := 1) n_18 rfl (.inl rfl))) (qg_sub' hu (qv (i := 0) n_17 rfl (.inl rfl)) qe_int (fun _ => rfl)) rfl rfl rfl)
    (qss_one (qs_ret (qv (i := 2) n_2 rfl (.inl rfl)))))) qss_nil)
    (qss_cons (qs_set (i := 3) S__law_draw.nd rfl (.inl rfl) qe_int rfl (.inl rfl))
    (qss_cons (qs_if (qt_cmp qo_gt (q_len (qa_cons (q_ix hu (qv (i := 0) n_17 rfl (.inl rfl)) qe_int (fun _ _ => rfl)) qa_nil rfl) rfl rfl rfl e.len) qe_int (nomark _)) (qss_one (qs_set (i := 3) S__law_draw.nd rfl (.inl rfl) (q_abs (qa_cons (q_ix hu (q_ix hu (qv (i := 0) n_17 rfl (.inl rfl)) qe_int (fun _ _ => rfl)) (qe_op qo_mod (q_int (qa_cons (q_ix hu (qv (i := 0) n_17 rfl (.inl rfl)) qe_int (fun _ _ => rfl)) qa_nil rfl) rfl rfl rfl e.int) (q_len (qa_cons (q_ix hu (qv (i := 0) n_17 rfl (.inl rfl)) qe_int (fun _ _ => rfl)) qa_nil rfl) rfl rfl rfl e.len)) (fun _ _ => rfl)) qa_nil rfl) rfl rfl rfl e.abs) rfl (.inl rfl))) qss_nil)
    (qss_cons (qs_asg (qe_op qo_add (q_ix hu (qv (i := 0) n_17 rfl (.inl rfl)) qe_int (fun _ _ => rfl)) qe_int) (qg_sub' hu (qv (i := 0) n_17 rfl (.inl rfl)) qe_int (fun _ => rfl)) rfl rfl rfl)
    (qss_cons (qs_if (qt_cmp qo_ge (qv (i := 3) n_19 rfl (.inl rfl)) (qe_op qo_pow qe_int qe_int) (nomark _)) (qss_cons (qs_asg (qe_op qo_div (qv (i := 3) n_19 rfl (.inl rfl)) (qv (i := 1) n_18 rfl (.inl rfl))) (qg_sub' hu (qv (i := 0) n_17 rfl (.inl rfl)) qe_int (fun _ => rfl)) rfl rfl rfl)
    (qss_one (qs_ret (qe_op qo_mod (q_int (qa_cons (qv (i := 3) n_19 rfl (.inl rfl)) qa_nil rfl) rfl rfl rfl e.int) (qv (i := 1) n_18 rfl (.inl rfl)))))) qss_nil)
    (qss_cons (qs_set (i := 4) S__law_draw.nd rfl (.inl rfl) (qe_op qo_mod (q_int (qa_cons (qe_op qo_add (qe_op qo_mul (qe_op qo_add (qv (i := 3) n_19 rfl (.inl rfl)) qe_int) qe_int) (qe_op qo_mul (q_ix hu (qv (i := 0) n_17 rfl (.inl rfl)) qe_int (fun _ _ => rfl)) qe_int)) qa_nil rfl) rfl rfl rfl e.int) qe_int) rfl (.inl rfl))
    (qss_cons (qs_set (i := 4) S__law_draw.nd rfl (.inl rfl) (qe_op qo_mod (q_int (qa_cons (qe_op qo_add (qe_op qo_add (qe_op qo_mul (qv (i := 4) n_20 rfl (.inl rfl)) qe_int) (qe_op qo_div (qv (i := 3) n_19 rfl (.inl rfl)) qe_int)) (q_ix hu (qv (i := 0) n_17 rfl (.inl rfl)) qe_int (fun _ _ => rfl))) qa_nil rfl) rfl rfl rfl e.int) qe_int) rfl (.inl rfl))
    (qss_one (qs_ret (qe_op qo_mod (qe_op qo_div (qv (i := 4) n_20 rfl (.inl rfl)) qe_int) (qv (i := 1) n_18 rfl (.inl rfl)))))))))))))
theorem d__law_shuffled (e : Own P w K mg base k c) (hr : Room k (A.deeper (envOfC "_law_shuffled" (defScope s__law_shuffled) s.heap.objs.size f cdv))) : QSs (cxOf CX0 P w K mg base N__law_shuffled "_law_shuffled" (defScope s__law_shuffled) f cdv A outer s H E).nox (defBody s__law_shuffled) (b__law_shuffled c) := by
  have hu := G.hu_of hr
  exact (qss_cons (qs_set (i := 2) S__law_shuffled.nd rfl (.inl rfl) (qe_lst qa_nil) rfl (.inl rfl))
    (qss_cons (qs_for PassesOwn.never rfl (qi_any (qv (i := 1) n_21 rfl (.inl rfl))) (qg_name (i := 3) S__law_shuffled.nd rfl (.inl rfl) (.inl rfl)) (qss_one (qs_expr (q_insert (qv (i := 2) n_2 rfl (.inl rfl)) (qa_cons (q_own e.f__law_draw hr n_23 rfl (qa_cons (qv (i := 0) n_17 rfl (.inl rfl)) (qa_cons (qe_op qo_add (q_len (qa_cons (qv (i := 2) n_2 rfl (.inl rfl)) qa_nil rfl) rfl rfl rfl e.len) qe_int) qa_nil rfl) rfl) rfl rfl) (qa_cons (qv (i := 3) n_22 rfl (.inl rfl)) qa_nil rfl) rfl) rfl rfl rfl rfl rfl) rfl)) (fun _ => rfl))
    (qss_one (qs_ret (qv (i := 2) n_2 rfl (.inl rfl))))))
theorem d__law_words (e : Own P w K mg base k c) (hr : Room k (A.deeper (envOfC "_law_words" (defScope s__law_words) s.heap.objs.size f cdv))) : QSs (cxOf CX0 P w K mg base N__law_words "_law_words" (defScope s__law_words) f cdv A outer s H E).nox (defBody s__law_words) (b__law_words c) := by
  have hu := G.hu_of hr
  exact (qss_cons (qs_set (i := 2) S__law_words.nd rfl (.inr rfl) (q_str s_1) rfl (.inl rfl))
    (qss_cons (qs_set (i := 3) S__law_words.nd rfl (.inr rfl) (q_own e.f__law_draw hr n_23 rfl (qa_cons (qv (i := 0) n_17 rfl (.inl rfl)) (qa_cons qe_int qa_nil rfl) rfl) rfl rfl) rfl (.inl rfl))
    (qss_cons (qs_set (i := 4) S__law_words.nd rfl (.inr rfl) (qe_op qo_add qe_int (qe_op qo_mul qe_int (q_own e.f__law_draw hr n_23 rfl (qa_cons (qv (i := 0) n_17 rfl (.inl rfl)) (qa_cons qe_int qa_nil rfl) rfl) rfl rfl))) rfl (.inl rfl))
    (qss_cons (qs_set (i := 5) S__law_words.nd rfl (.inr rfl) (qe_sl (q_str s_2) qp_none (qp_some (q_own e.f__law_draw hr n_23 rfl (qa_cons (qv (i := 0) n_17 rfl (.inl rfl)) (qa_cons qe_int qa_nil rfl) rfl) rfl rfl))) rfl (.inl rfl))
    (qss_cons (qs_if (qt_cmp (q_eq hu) (q_own e.f__law_draw hr n_23 rfl (qa_cons (qv (i := 0) n_17 rfl (.inl rfl)) (qa_cons qe_int qa_nil rfl) rfl) rfl rfl) qe_int (nomark _)) (qss_one (qs_ret (qe_lc rfl S__law_words.nd (own := [("k", 6)]) (t := (.nm 6)) (qi_r1 rfl e.range (qa_cons (qv (i := 1) n_24 rfl (.inl rfl)) qa_nil rfl) rfl) (by show blkC N__law_words (defScope s__law_words) _ _ = true; decide +kernel) (by decide) (fun _ _ _ _ _ => (pg_name (i := 6) S__law_words.nd rfl (.inl rfl) (.inr rfl))) (fun _ _ _ _ _ => qts_nil) (fun _ _ _ _ _ => (qe_op qo_add (qv (i := 5) n_25 rfl (.inr (.inl rfl))) (q_ix hu (qv (i := 2) n_26 rfl (.inr (.inl rfl))) (qe_op qo_mod (q_int (qa_cons (qe_op qo_add (qv (i := 3) n_27 rfl (.inr (.inl rfl))) (qe_op qo_mul (qv (i := 6) n_28 rfl (.inl rfl)) (qv (i := 4) n_29 rfl (.inr (.inl rfl))))) qa_nil rfl) rfl rfl rfl e.int) qe_int) (fun _ _ => rfl)))) (fun _ => rfl)))) qss_nil)
    (qss_one (qs_ret (qe_lc rfl S__law_words.nd (own := [("k", 6)]) (t := (.nm 6)) (qi_r1 rfl e.range (qa_cons (qv (i := 1) n_24 rfl (.inl rfl)) qa_nil rfl) rfl) (by show blkC N__law_words (defScope s__law_words) _ _ = true; decide +kernel) (by decide) (fun _ _ _ _ _ => (pg_name (i := 6) S__law_words.nd rfl (.inl rfl) (.inr rfl))) (fun _ _ _ _ _ => qts_nil) (fun _ _ _ _ _ => (qe_op qo_add (q_ix hu (qv (i := 2) n_26 rfl (.inr (.inl rfl))) (qe_op qo_mod (q_int (qa_cons (qe_op qo_add (qv (i := 3) n_27 rfl (.inr (.inl rfl))) (qe_op qo_mul (qv (i := 6) n_28 rfl (.inl rfl)) (qv (i := 4) n_29 rfl (.inr (.inl rfl))))) qa_nil rfl) rfl rfl rfl e.int) qe_int) (fun _ _ => rfl)) (qv (i := 5) n_25 rfl (.inr (.inl rfl))))) (fun _ => rfl)))))))))
theorem d__law_is_int (e : Own P w K mg base k c) (hr : Room k (A.deeper (envOfC "_law_is_int" (defScope s__law_is_int) s.heap.objs.size f cdv))) : QSs (cxOf CX0 P w K mg base N__law_is_int "_law_is_int" (defScope s__law_is_int) f cdv A outer s H E).nox (defBody s__law_is_int) (b__law_is_int c) := by
  have hu := G.hu_of hr
  exact (qss_one (qs_ret (qe_and (q_isa .int rfl e.isinstance rfl e.int (qv (i := 0) n_30 rfl (.inl rfl)) rfl rfl rfl) (qe_one (qe_not (q_isa .bool rfl e.isinstance rfl e.bool (qv (i := 0) n_30 rfl (.inl rfl)) rfl rfl rfl))))))
theorem d__law_same (e : Own P w K mg base k c) (hr : Room k (A.deeper (envOfC "_law_same" (defScope s__law_same) s.heap.objs.size f cdv))) : QSs (cxOf CX0 P w K mg base N__law_same "_law_same" (defScope s__law_same) f cdv A outer s H E).nox (defBody s__law_same) (b__law_same c) := by
  have hu := G.hu_of hr
  exact (qss_cons (qs_if (qt_of (q_isa .tuple rfl e.isinstance rfl e.tuple (qv (i := 1) n_31 rfl (.inr (.inl rfl))) rfl rfl rfl) (fun _ => rfl)) (qss_cons (qs_if (q_w (qw_or (qt_not (qt_of (q_isa .tuple rfl e.isinstance rfl e.tuple (qv (i := 0) n_30 rfl (.inr (.inl rfl))) rfl rfl rfl) (fun _ => rfl))) (qw_or1 (qt_cmp (q_ne hu) (q_len (qa_cons (qv (i := 0) n_30 rfl (.inr (.inl rfl))) qa_nil rfl) rfl rfl rfl e.len) (q_len (qa_cons (qv (i := 1) n_31 rfl (.inr (.inl rfl))) qa_nil rfl) rfl rfl rfl e.len) (nomark _))))) (qss_one (qs_ret qe_bl)) qss_nil)
    (qss_one (qs_ret (q_all (qa_cons (qe_lc rfl S__law_same.nd (own := [("k", 2)]) (t := (.nm 2)) (qi_r1 rfl e.range (qa_cons (q_len (qa_cons (qv (i := 1) n_31 rfl (.inr (.inl rfl))) qa_nil rfl) rfl rfl rfl e.len) qa_nil rfl) rfl) (by show blkC N__law_same (defScope s__law_same) _ _ = true; decide +kernel) (by decide) (fun _ _ _ _ _ => (pg_name (i := 2) S__law_same.nd rfl (.inl rfl) (.inr rfl))) (fun _ _ _ _ _ => qts_nil) (fun _ _ _ _ _ => (q_own e.f__law_same hr n_32 rfl (qa_cons (q_ix hu (qv (i := 0) n_30 rfl (.inr (.inl rfl))) (qv (i := 2) n_28 rfl (.inl rfl)) (fun _ _ => rfl)) (qa_cons (q_ix hu (qv (i := 1) n_31 rfl (.inr (.inl rfl))) (qv (i := 2) n_28 rfl (.inl rfl)) (fun _ _ => rfl)) qa_nil rfl) rfl) rfl rfl)) (fun _ => rfl)) qa_nil rfl) rfl rfl rfl rfl e.all)))) qss_nil)
    (qss_cons (qs_if (qt_of (q_isa .str rfl e.isinstance rfl e.str (qv (i := 1) n_31 rfl (.inr (.inl rfl))) rfl rfl rfl) (fun _ => rfl)) (qss_one (qs_ret (qe_and (q_isa .str rfl e.isinstance rfl e.str (qv (i := 0) n_30 rfl (.inr (.inl rfl))) rfl rfl rfl) (qe_one (qe_cmp (q_eq hu) (qv (i := 0) n_30 rfl (.inr (.inl rfl))) (qv (i := 1) n_31 rfl (.inr (.inl rfl))) (nomark _)))))) qss_nil)
    (qss_one (qs_ret (qe_and (q_own e.f__law_is_int hr n_33 rfl (qa_cons (qv (i := 0) n_30 rfl (.inr (.inl rfl))) qa_nil rfl) rfl rfl) (qe_one (qe_cmp (q_eq hu) (qv (i := 0) n_30 rfl (.inr (.inl rfl))) (qv (i := 1) n_31 rfl (.inr (.inl rfl))) (nomark _))))))))
theorem d__law_offsets (e : Own P w K mg base k c) (hr : Room k (A.deeper (envOfC "_law_offsets" (defScope s__law_offsets) s.heap.objs.size f cdv))) : QSs (cxOf CX0 P w K mg base N__law_offsets "_law_offsets" (defScope s__law_offsets) f cdv A outer s H E).nox (defBody s__law_offsets) (b__law_offsets c) := by
  have hu := G.hu_of hr
  exact (qss_one (qs_ret (q_tuple (qa_cons (qe_lc rfl S__law_offsets.nd (own := [("k", 3)]) (t := (.nm 3)) (qi_r1 rfl e.range (qa_cons (qv (i := 1) n_24 rfl (.inl rfl)) qa_nil rfl) rfl) (by show blkC N__law_offsets (defScope s__law_offsets) _ _ = true; decide +kernel) (by decide) (fun _ _ _ _ _ => (pg_name (i := 3) S__law_offsets.nd rfl (.inl rfl) (.inr rfl))) (fun _ _ _ _ _ => qts_nil) (fun _ _ _ _ _ => (qe_op qo_sub (q_own e.f__law_draw hr n_23 rfl (qa_cons (qv (i := 0) n_17 rfl (.inr (.inl rfl))) (qa_cons (qe_op qo_add (qe_op qo_mul qe_int (qv (i := 2) n_18 rfl (.inr (.inl rfl)))) qe_int) qa_nil rfl) rfl) rfl rfl) (qv (i := 2) n_18 rfl (.inr (.inl rfl))))) (fun _ => rfl)) qa_nil rfl) rfl rfl rfl e.tuple)))
theorem d__law_rim (e : Own P w K mg base k c) (hr : Room k (A.deeper (envOfC "_law_rim" (defScope s__law_rim) s.heap.objs.size f cdv))) : QSs (cxOf CX0 P w K mg base N__law_rim "_law_rim" (defScope s__law_rim) f cdv A outer s H E).nox (defBody s__law_rim) (b__law_rim c) := by
  have hu := G.hu_of hr
  exact (qss_one (qs_ret (q_ix hu (qe_lst (qa_cons qe_int (qa_cons qe_int (qa_cons (qe_op qo_sub (q_own e.f__law_draw hr n_23 rfl (qa_cons (qv (i := 0) n_17 rfl (.inl rfl)) (qa_cons qe_int qa_nil rfl) rfl) rfl rfl) qe_int) qa_nil rfl) rfl) rfl)) (q_own e.f__law_draw hr n_23 rfl (qa_cons (qv (i := 0) n_17 rfl (.inl rfl)) (qa_cons qe_int qa_nil rfl) rfl) rfl rfl) (fun _ _ => rfl))))
theorem d__law_given_row (e : Own P w K mg base k c) (hr : Room k (A.deeper (envOfC "_law_given_row" (defScope s__law_given_row) s.heap.objs.size f cdv))) : QSs (cxOf CX0 P w K mg base N__law_given_row "_law_given_row" (defScope s__law_given_row) f cdv A outer s H E).nox (defBody s__law_given_row) (b__law_given_row c) := by
  have hu := G.hu_of hr
  exact (qss_cons (qs_set (i := 2) S__law_given_row.nd rfl (.inl rfl) (q_own e.f__law_rim hr n_34 rfl (qa_cons (qv (i := 0) n_17 rfl (.inl rfl)) qa_nil rfl) rfl rfl) rfl (.inl rfl))
    (qss_cons (qs_set (i := 3) S__law_given_row.nd rfl (.inl rfl) (q_ix hu (qe_lst (qa_cons (qe_tup qa_nil) (qa_cons (qe_op qo_sub (qv (i := 2) n_35 rfl (.inl rfl)) (q_own e.f__law_draw hr n_23 rfl (qa_cons (qv (i := 0) n_17 rfl (.inl rfl)) (qa_cons qe_int qa_nil rfl) rfl) rfl rfl)) qa_nil rfl) rfl)) (q_own e.f__law_draw hr n_23 rfl (qa_cons (qv (i := 0) n_17 rfl (.inl rfl)) (qa_cons qe_int qa_nil rfl) rfl) rfl rfl) (fun _ _ => rfl)) rfl (.inl rfl))
    (qss_cons (qs_set (i := 4) S__law_given_row.nd rfl (.inl rfl) (q_ix hu (qe_lst (qa_cons (qe_tup qa_nil) (qa_cons (qe_op qo_add (qv (i := 2) n_35 rfl (.inl rfl)) (q_own e.f__law_draw hr n_23 rfl (qa_cons (qv (i := 0) n_17 rfl (.inl rfl)) (qa_cons qe_int qa_nil rfl) rfl) rfl rfl)) qa_nil rfl) rfl)) (q_own e.f__law_draw hr n_23 rfl (qa_cons (qv (i := 0) n_17 rfl (.inl rfl)) (qa_cons qe_int qa_nil rfl) rfl) rfl rfl) (fun _ _ => rfl)) rfl (.inl rfl))
    (qss_one (qs_ret (qe_tup (qa_cons (qv (i := 1) n_12 rfl (.inl rfl)) (qa_cons (qv (i := 2) n_35 rfl (.inl rfl)) (qa_cons (qv (i := 3) n_37 rfl (.inl rfl)) (qa_cons (qv (i := 4) n_36 rfl (.inl rfl)) qa_nil rfl) rfl) rfl) rfl)))))))
theorem d__law_table_world (e : Own P w K mg base k c) (hr : Room k (A.deeper (envOfC "_law_table_world" (defScope s__law_table_world) s.heap.objs.size f cdv))) : QSs (cxOf CX0 P w K mg base N__law_table_world "_law_table_world" (defScope s__law_table_world) f cdv A outer s H E).nox (defBody s__law_table_world) (b__law_table_world c) := by
  have hu := G.hu_of hr
  exact (qss_cons (qs_set (i := 4) S__law_table_world.nd rfl (.inl rfl) (q_own e.f__law_words hr n_39 rfl (qa_cons (qv (i := 0) n_17 rfl (.inl rfl)) (qa_cons (qe_op qo_add (qe_op qo_add (qv (i := 1) n_24 rfl (.inl rfl)) (qv (i := 2) n_38 rfl (.inl rfl))) (qv (i := 3) n_14 rfl (.inl rfl))) qa_nil rfl) rfl) rfl rfl) rfl (.inl rfl))
    (qss_cons (qs_set (i := 5) S__law_table_world.nd rfl (.inl rfl) (qe_disp (qps_cons (q_str s_6) (qv (i := 1) n_24 rfl (.inl rfl)) (qps_cons (q_str s_5) (q_tuple (qa_cons (qe_sl (qv (i := 4) n_40 rfl (.inl rfl)) qp_none (qp_some (qv (i := 1) n_24 rfl (.inl rfl)))) qa_nil rfl) rfl rfl rfl e.tuple) (qps_cons (q_str s_4) (q_sorted (qa_cons (qe_sl (qv (i := 4) n_40 rfl (.inl rfl)) (qp_some (qv (i := 1) n_24 rfl (.inl rfl))) (qp_some (qe_op qo_add (qv (i := 1) n_24 rfl (.inl rfl)) (qv (i := 2) n_38 rfl (.inl rfl))))) qa_nil rfl) rfl rfl hu rfl e.sorted) (qps_cons (q_str s_3) qe_int qps_nil)))) rfl rfl (fun z => by cases z) (by decide)) rfl (.inl rfl))
    (qss_cons (qs_asg (q_sorted (qa_cons (qe_sl (qv (i := 4) n_40 rfl (.inl rfl)) (qp_some (qe_op qo_add (qv (i := 1) n_24 rfl (.inl rfl)) (qv (i := 2) n_38 rfl (.inl rfl)))) qp_none) qa_nil rfl) rfl rfl hu rfl e.sorted) (qg_sub' hu (qv (i := 5) n_41 rfl (.inl rfl)) (q_str s_7) (fun _ => rfl)) rfl rfl rfl)
    (qss_cons (qs_asg qe_non (qg_sub' hu (qv (i := 5) n_41 rfl (.inl rfl)) (q_str s_8) (fun _ => rfl)) rfl rfl rfl)
    (qss_one (qs_ret (qv (i := 5) n_41 rfl (.inl rfl))))))))
theorem d__law_refs (e : Own P w K mg base k c) (hr : Room k (A.deeper (envOfC "_law_refs" (defScope s__law_refs) s.heap.objs.size f cdv))) : QSs (cxOf CX0 P w K mg base N__law_refs "_law_refs" (defScope s__law_refs) f cdv A outer s H E).nox (defBody s__law_refs) (b__law_refs c) := by
  have hu := G.hu_of hr
  exact (qss_cons (qs_if (qt_cmp (q_eq hu) (q_ix hu (qv (i := 0) n_42 rfl (.inl rfl)) qe_int (fun _ _ => rfl)) (q_str s_0) (nomark _)) (qss_one (qs_ret (qe_lst (qa_cons (qv (i := 0) n_42 rfl (.inl rfl)) qa_nil rfl)))) qss_nil)
    (qss_cons (qs_set (i := 1) S__law_refs.nd rfl (.inl rfl) (qe_lst qa_nil) rfl (.inl rfl))
    (qss_cons (qs_for PassesOwn.never rfl (qi_any (qe_sl (qv (i := 0) n_42 rfl (.inl rfl)) (qp_some qe_int) qp_none)) (qg_name (i := 2) S__law_refs.nd rfl (.inl rfl) (.inl rfl)) (qss_one (qs_if (qt_of (q_isa .tuple rfl e.isinstance rfl e.tuple (qv (i := 2) n_1 rfl (.inl rfl)) rfl rfl rfl) (fun _ => rfl)) (qss_one (qs_set (i := 1) S__law_refs.nd rfl (.inl rfl) (qe_op qo_add (qv (i := 1) n_2 rfl (.inl rfl)) (q_own e.f__law_refs hr n_43 rfl (qa_cons (qv (i := 2) n_1 rfl (.inl rfl)) qa_nil rfl) rfl rfl)) rfl (.inl rfl))) qss_nil)) (fun _ => rfl))
    (qss_one (qs_ret (qv (i := 1) n_2 rfl (.inl rfl)))))))
theorem d__law_at_offsets (e : Own P w K mg base k c) (hr : Room k (A.deeper (envOfC "_law_at_offsets" (defScope s__law_at_offsets) s.heap.objs.size f cdv))) : QSs (cxOf CX0 P w K mg base N__law_at_offsets "_law_at_offsets" (defScope s__law_at_offsets) f cdv A outer s H E).nox (defBody s__law_at_offsets) (b__law_at_offsets c) := by
  have hu := G.hu_of hr
  exact (qss_one (qs_ret (q_tuple (qa_cons (qe_lc rfl S__law_at_offsets.nd (own := [("k", 2)]) (t := (.nm 2)) (qi_r1 rfl e.range (qa_cons (q_len (qa_cons (qv (i := 0) n_44 rfl (.inr (.inl rfl))) qa_nil rfl) rfl rfl rfl e.len) qa_nil rfl) rfl) (by show blkC N__law_at_offsets (defScope s__law_at_offsets) _ _ = true; decide +kernel) (by decide) (fun _ _ _ _ _ => (pg_name (i := 2) S__law_at_offsets.nd rfl (.inl rfl) (.inr rfl))) (fun _ _ _ _ _ => qts_nil) (fun _ _ _ _ _ => (qe_op qo_add (q_ix hu (qv (i := 0) n_44 rfl (.inr (.inl rfl))) (qv (i := 2) n_28 rfl (.inl rfl)) (fun _ _ => rfl)) (q_ix hu (qv (i := 1) n_45 rfl (.inr (.inl rfl))) (qv (i := 2) n_28 rfl (.inl rfl)) (fun _ _ => rfl)))) (fun _ => rfl)) qa_nil rfl) rfl rfl rfl e.tuple)))
theorem d__law_in_box (e : Own P w K mg base k c) (hr : Room k (A.deeper (envOfC "_law_in_box" (defScope s__law_in_box) s.heap.objs.size f cdv))) : QSs (cxOf CX0 P w K mg base N__law_in_box "_law_in_box" (defScope s__law_in_box) f cdv A outer s H E).nox (defBody s__law_in_box) (b__law_in_box c) := by
  have hu := G.hu_of hr
  exact (qss_one (qs_ret (q_all (qa_cons (qe_lc rfl S__law_in_box.nd (own := [("k", 2)]) (t := (.nm 2)) (qi_r1 rfl e.range (qa_cons (q_len (qa_cons (qv (i := 0) n_46 rfl (.inr (.inl rfl))) qa_nil rfl) rfl rfl rfl e.len) qa_nil rfl) rfl) (by show blkC N__law_in_box (defScope s__law_in_box) _ _ = true; decide +kernel) (by decide) (fun _ _ _ _ _ => (pg_name (i := 2) S__law_in_box.nd rfl (.inl rfl) (.inr rfl))) (fun _ _ _ _ _ => qts_nil) (fun _ _ _ _ _ => (qe_and (qe_cmp qo_le qe_int (q_ix hu (qv (i := 1) n_44 rfl (.inr (.inl rfl))) (qv (i := 2) n_28 rfl (.inl rfl)) (fun _ _ => rfl)) (nomark _)) (qe_one (qe_cmp qo_lt (q_ix hu (qv (i := 1) n_44 rfl (.inr (.inl rfl))) (qv (i := 2) n_28 rfl (.inl rfl)) (fun _ _ => rfl)) (q_ix hu (qv (i := 0) n_46 rfl (.inr (.inl rfl))) (qv (i := 2) n_28 rfl (.inl rfl)) (fun _ _ => rfl)) (nomark _))))) (fun _ => rfl)) qa_nil rfl) rfl rfl rfl rfl e.all)))
theorem d__law_places (e : Own P w K mg base k c) (hr : Room k (A.deeper (envOfC "_law_places" (defScope s__law_places) s.heap.objs.size f cdv))) : QSs (cxOf CX0 P w K mg base N__law_places "_law_places" (defScope s__law_places) f cdv A outer s H E).nox (defBody s__law_places) (b__law_places c) := by
  have hu := G.hu_of hr
  exact (qss_cons (qs_set (i := 1) S__law_places.nd rfl (.inl rfl) (qe_lst (qa_cons (qe_tup qa_nil) qa_nil rfl)) rfl (.inl rfl))
    (qss_cons (qs_for PassesOwn.never rfl (qi_any (qv (i := 0) n_46 rfl (.inl rfl))) (qg_name (i := 2) S__law_places.nd rfl (.inl rfl) (.inl rfl)) (qss_cons (qs_set (i := 3) S__law_places.nd rfl (.inl rfl) (qe_lst qa_nil) rfl (.inl rfl))
    (qss_cons (qs_for PassesOwn.never rfl (qi_any (qv (i := 1) n_2 rfl (.inl rfl))) (qg_name (i := 4) S__law_places.nd rfl (.inr rfl) (.inl rfl)) (qss_one (qs_set (i := 3) S__law_places.nd rfl (.inl rfl) (qe_op qo_add (qv (i := 3) n_47 rfl (.inl rfl)) (qe_lc rfl S__law_places.nd (own := [("at", 5)]) (t := (.nm 5)) (qi_r1 rfl e.range (qa_cons (qv (i := 2) n_48 rfl (.inl rfl)) qa_nil rfl) rfl) (by show blkC N__law_places (defScope s__law_places) _ _ = true; decide +kernel) (by decide) (fun _ _ _ _ _ => (pg_name (i := 5) S__law_places.nd rfl (.inl rfl) (.inr rfl))) (fun _ _ _ _ _ => qts_nil) (fun _ _ _ _ _ => (qe_op qo_add (qv (i := 4) n_44 rfl (.inr (.inl rfl))) (qe_tup (qa_cons (qv (i := 5) n_49 rfl (.inl rfl)) qa_nil rfl)))) (fun _ => rfl))) rfl (.inl rfl))) (fun _ => rfl))
    (qss_one (qs_set (i := 1) S__law_places.nd rfl (.inl rfl) (qv (i := 3) n_47 rfl (.inl rfl)) rfl (.inl rfl))))) (fun _ => rfl))
    (qss_one (qs_ret (qv (i := 1) n_2 rfl (.inl rfl))))))
theorem d__law_row_named (e : Own P w K mg base k c) (hr : Room k (A.deeper (envOfC "_law_row_named" (defScope s__law_row_named) s.heap.objs.size f cdv))) : QSs (cxOf CX0 P w K mg base N__law_row_named "_law_row_named" (defScope s__law_row_named) f cdv A outer s H E).nox (defBody s__law_row_named) (b__law_row_named c) := by
  have hu := G.hu_of hr
  exact (qss_cons (qs_for PassesOwn.never rfl (qi_any (qe_op qo_add (q_ix hu (qv (i := 0) n_50 rfl (.inl rfl)) qe_int (fun _ _ => rfl)) (q_ix hu (qv (i := 0) n_50 rfl (.inl rfl)) qe_int (fun _ _ => rfl)))) (qg_name (i := 2) S__law_row_named.nd rfl (.inl rfl) (.inl rfl)) (qss_one (qs_if (qt_cmp (q_eq hu) (q_ix hu (qv (i := 2) n_5 rfl (.inl rfl)) qe_int (fun _ _ => rfl)) (qv (i := 1) n_12 rfl (.inl rfl)) (nomark _)) (qss_one (qs_ret (qv (i := 2) n_5 rfl (.inl rfl)))) qss_nil)) (fun _ => rfl))
    (qss_one (qs_ret qe_non)))
theorem d__law_given_value (e : Own P w K mg base k c) (hr : Room k (A.deeper (envOfC "_law_given_value" (defScope s__law_given_value) s.heap.objs.size f cdv))) : QSs (cxOf CX0 P w K mg base N__law_given_value "_law_given_value" (defScope s__law_given_value) f cdv A outer s H E).nox (defBody s__law_given_value) (b__law_given_value c) := by
  have hu := G.hu_of hr
  exact (qss_cons (qs_for PassesOwn.never rfl (qi_r1 rfl e.range (qa_cons (q_len (qa_cons (q_ix hu (qv (i := 0) n_50 rfl (.inl rfl)) qe_int (fun _ _ => rfl)) qa_nil rfl) rfl rfl rfl e.len) qa_nil rfl) rfl) (qg_name (i := 4) S__law_given_value.nd rfl (.inl rfl) (.inl rfl)) (qss_one (qs_if (qt_cmp (q_eq hu) (q_ix hu (q_ix hu (q_ix hu (qv (i := 0) n_50 rfl (.inl rfl)) qe_int (fun _ _ => rfl)) (qv (i := 4) n_28 rfl (.inl rfl)) (fun _ _ => rfl)) qe_int (fun _ _ => rfl)) (qv (i := 2) n_12 rfl (.inl rfl)) (nomark _)) (qss_cons (qs_for PassesOwn.never rfl (qi_any (q_ix hu (qv (i := 1) n_51 rfl (.inl rfl)) (qv (i := 4) n_28 rfl (.inl rfl)) (fun _ _ => rfl))) (qg_tup rfl (qgs_cons (qg_name (i := 5) S__law_given_value.nd rfl (.inl rfl) (.inl rfl)) (qgs_cons (qg_name (i := 6) S__law_given_value.nd rfl (.inl rfl) (.inl rfl)) qgs_nil rfl) rfl) rfl rfl) (qss_one (qs_if (qt_cmp (q_eq hu) (qv (i := 5) n_49 rfl (.inl rfl)) (qv (i := 3) n_44 rfl (.inl rfl)) (nomark _)) (qss_one (qs_ret (qv (i := 6) n_52 rfl (.inl rfl)))) qss_nil)) (fun _ => rfl))
    (qss_one (qs_ret (q_ix hu (q_ix hu (q_ix hu (qv (i := 0) n_50 rfl (.inl rfl)) qe_int (fun _ _ => rfl)) (qv (i := 4) n_28 rfl (.inl rfl)) (fun _ _ => rfl)) qe_int (fun _ _ => rfl))))) qss_nil)) (fun _ => rfl))
    (qss_one (qs_ret qe_non)))
theorem d__law_holds_sign (e : Own P w K mg base k c) (hr : Room k (A.deeper (envOfC "_law_holds_sign" (defScope s__law_holds_sign) s.heap.objs.size f cdv))) : QSs (cxOf CX0 P w K mg base N__law_holds_sign "_law_holds_sign" (defScope s__law_holds_sign) f cdv A outer s H E).nox (defBody s__law_holds_sign) (b__law_holds_sign c) := by
  have hu := G.hu_of hr
  exact (qss_cons (qs_if (qt_cmp (q_eq hu) (qv (i := 0) n_53 rfl (.inl rfl)) (q_str s_9) (nomark _)) (qss_one (qs_ret (qe_cmp qo_lt (qv (i := 1) n_54 rfl (.inl rfl)) (qv (i := 2) n_13 rfl (.inl rfl)) (nomark _)))) qss_nil)
    (qss_cons (qs_if (qt_cmp (q_eq hu) (qv (i := 0) n_53 rfl (.inl rfl)) (q_str s_10) (nomark _)) (qss_one (qs_ret (qe_cmp qo_le (qv (i := 1) n_54 rfl (.inl rfl)) (qv (i := 2) n_13 rfl (.inl rfl)) (nomark _)))) qss_nil)
    (qss_cons (qs_if (qt_cmp (q_eq hu) (qv (i := 0) n_53 rfl (.inl rfl)) (q_str s_11) (nomark _)) (qss_one (qs_ret (qe_cmp qo_gt (qv (i := 1) n_54 rfl (.inl rfl)) (qv (i := 2) n_13 rfl (.inl rfl)) (nomark _)))) qss_nil)
    (qss_cons (qs_if (qt_cmp (q_eq hu) (qv (i := 0) n_53 rfl (.inl rfl)) (q_str s_12) (nomark _)) (qss_one (qs_ret (qe_cmp qo_ge (qv (i := 1) n_54 rfl (.inl rfl)) (qv (i := 2) n_13 rfl (.inl rfl)) (nomark _)))) qss_nil)
    (qss_cons (qs_if (qt_cmp (q_eq hu) (qv (i := 0) n_53 rfl (.inl rfl)) (q_str s_13) (nomark _)) (qss_one (qs_ret (qe_cmp (q_eq hu) (qv (i := 1) n_54 rfl (.inl rfl)) (qv (i := 2) n_13 rfl (.inl rfl)) (nomark _)))) qss_nil)
    (qss_one (qs_ret (qe_cmp (q_ne hu) (qv (i := 1) n_54 rfl (.inl rfl)) (qv (i := 2) n_13 rfl (.inl rfl)) (nomark _)))))))))
theorem d__law_worth_at (e : Own P w K mg base k c) (hr : Room k (A.deeper (envOfC "_law_worth_at" (defScope s__law_worth_at) s.heap.objs.size f cdv))) : QSs (cxOf CX0 P w K mg base N__law_worth_at "_law_worth_at" (defScope s__law_worth_at) f cdv A outer s H E).nox (defBody s__law_worth_at) (b__law_worth_at c) := by
  have hu := G.hu_of hr
  exact (qss_cons (qs_set (i := 3) S__law_worth_at.nd rfl (.inl rfl) (q_ix hu (qv (i := 1) n_42 rfl (.inl rfl)) qe_int (fun _ _ => rfl)) rfl (.inl rfl))
    (qss_cons (qs_if (qt_cmp (q_eq hu) (qv (i := 3) n_55 rfl (.inl rfl)) (q_str s_14) (nomark _)) (qss_one (qs_ret (q_ix hu (qv (i := 1) n_42 rfl (.inl rfl)) qe_int (fun _ _ => rfl)))) qss_nil)
    (qss_cons (qs_if (qt_cmp (q_eq hu) (qv (i := 3) n_55 rfl (.inl rfl)) (q_str s_15) (nomark _)) (qss_one (qs_ret (q_ix hu (qv (i := 2) n_44 rfl (.inr (.inl rfl))) (q_ix hu (qv (i := 1) n_42 rfl (.inl rfl)) qe_int (fun _ _ => rfl)) (fun _ _ => rfl)))) qss_nil)
    (qss_cons (qs_if (qt_cmp (q_eq hu) (qv (i := 3) n_55 rfl (.inl rfl)) (q_str s_0) (nomark _)) (qss_cons (qs_set (i := 4) S__law_worth_at.nd rfl (.inl rfl) (q_own e.f__law_at_offsets hr n_56 rfl (qa_cons (qv (i := 2) n_44 rfl (.inr (.inl rfl))) (qa_cons (q_ix hu (qv (i := 1) n_42 rfl (.inl rfl)) qe_int (fun _ _ => rfl)) qa_nil rfl) rfl) rfl rfl) rfl (.inl rfl))
    (qss_cons (qs_if (qt_not (qt_of (q_own e.f__law_in_box hr n_59 rfl (qa_cons (q_ix hu (qv (i := 0) n_58 rfl (.inr (.inl rfl))) (q_str s_16) (fun _ _ => rfl)) (qa_cons (qv (i := 4) n_57 rfl (.inl rfl)) qa_nil rfl) rfl) rfl rfl) (fun _ => rfl))) (qss_one (qs_ret (q_ix hu (q_own e.f__law_row_named hr n_60 rfl (qa_cons (q_ix hu (qv (i := 0) n_58 rfl (.inr (.inl rfl))) (q_str s_17) (fun _ _ => rfl)) (qa_cons (q_ix hu (qv (i := 1) n_42 rfl (.inl rfl)) qe_int (fun _ _ => rfl)) qa_nil rfl) rfl) rfl rfl) qe_int (fun _ _ => rfl)))) qss_nil)
    (qss_cons (qs_if (qt_cmp (qo_in hu) (qe_tup (qa_cons (q_ix hu (qv (i := 1) n_42 rfl (.inl rfl)) qe_int (fun _ _ => rfl)) (qa_cons (qv (i := 4) n_57 rfl (.inl rfl)) qa_nil rfl) rfl)) (q_ix hu (qv (i := 0) n_58 rfl (.inr (.inl rfl))) (q_str s_18) (fun _ _ => rfl)) (by with_unfolding_all rfl)) (qss_one (qs_ret (q_ix hu (q_ix hu (qv (i := 0) n_58 rfl (.inr (.inl rfl))) (q_str s_18) (fun _ _ => rfl)) (qe_tup (qa_cons (q_ix hu (qv (i := 1) n_42 rfl (.inl rfl)) qe_int (fun _ _ => rfl)) (qa_cons (qv (i := 4) n_57 rfl (.inl rfl)) qa_nil rfl) rfl)) (fun _ _ => rfl)))) qss_nil)
    (qss_one (qs_ret (q_own e.f__law_given_value hr n_61 rfl (qa_cons (q_ix hu (qv (i := 0) n_58 rfl (.inr (.inl rfl))) (q_str s_17) (fun _ _ => rfl)) (qa_cons (q_ix hu (qv (i := 0) n_58 rfl (.inr (.inl rfl))) (q_str s_19) (fun _ _ => rfl)) (qa_cons (q_ix hu (qv (i := 1) n_42 rfl (.inl rfl)) qe_int (fun _ _ => rfl)) (qa_cons (qv (i := 4) n_57 rfl (.inl rfl)) qa_nil rfl) rfl) rfl) rfl) rfl rfl)))))) qss_nil)
    (qss_cons (qs_if (qt_cmp (q_eq hu) (qv (i := 3) n_55 rfl (.inl rfl)) (q_str s_20) (nomark _)) (qss_one (qs_ret (qe_op qo_sub qe_int (q_own e.f__law_worth_at hr n_62 rfl (qa_cons (qv (i := 0) n_58 rfl (.inr (.inl rfl))) (qa_cons (q_ix hu (qv (i := 1) n_42 rfl (.inl rfl)) qe_int (fun _ _ => rfl)) (qa_cons (qv (i := 2) n_44 rfl (.inr (.inl rfl))) qa_nil rfl) rfl) rfl) rfl rfl)))) qss_nil)
    (qss_cons (qs_if (qt_cmp (q_eq hu) (qv (i := 3) n_55 rfl (.inl rfl)) (q_str s_21) (nomark _)) (qss_one (qs_ret (qe_op qo_mul (q_ix hu (qv (i := 1) n_42 rfl (.inl rfl)) qe_int (fun _ _ => rfl)) (q_own e.f__law_worth_at hr n_62 rfl (qa_cons (qv (i := 0) n_58 rfl (.inr (.inl rfl))) (qa_cons (q_ix hu (qv (i := 1) n_42 rfl (.inl rfl)) qe_int (fun _ _ => rfl)) (qa_cons (qv (i := 2) n_44 rfl (.inr (.inl rfl))) qa_nil rfl) rfl) rfl) rfl rfl)))) qss_nil)
    (qss_cons (qs_if (qt_cmp (q_eq hu) (qv (i := 3) n_55 rfl (.inl rfl)) (q_str s_22) (nomark _)) (qss_cons (qs_setLc (i := 5) rfl S__law_worth_at.nd rfl rfl (sw_true rfl rfl rfl (by decide +kernel)) (own := [("part", 8)]) (t := (.nm 8)) (qi_any (qe_sl (qv (i := 1) n_42 rfl (.inl rfl)) (qp_some qe_int) qp_none)) (by show blkC N__law_worth_at (defScope s__law_worth_at) _ _ = true; decide +kernel) (by decide) (fun _ _ _ _ _ => (pg_name (i := 8) S__law_worth_at.nd rfl (.inl rfl) (.inr rfl))) (fun _ _ _ _ _ => qts_nil) (fun _ _ _ _ _ => (q_own e.f__law_worth_at hr n_62 rfl (qa_cons (qv (i := 0) n_58 rfl (.inr (.inl rfl))) (qa_cons (qv (i := 8) n_1 rfl (.inl rfl)) (qa_cons (qv (i := 2) n_44 rfl (.inr (.inl rfl))) qa_nil rfl) rfl) rfl) rfl rfl)) (fun _ => rfl))
    (qss_one (qs_ret (q_ix hu (qe_lst (qa_cons (q_ix hu (qv (i := 5) n_63 rfl (.inl rfl)) qe_int (fun _ _ => rfl)) (qa_cons (q_ix hu (qv (i := 5) n_63 rfl (.inl rfl)) qe_int (fun _ _ => rfl)) qa_nil rfl) rfl)) (q_int (qa_cons (q_own e.f__law_holds_sign hr n_64 rfl (qa_cons (q_ix hu (qv (i := 1) n_42 rfl (.inl rfl)) qe_int (fun _ _ => rfl)) (qa_cons (q_ix hu (qv (i := 5) n_63 rfl (.inl rfl)) qe_int (fun _ _ => rfl)) (qa_cons (q_ix hu (qv (i := 5) n_63 rfl (.inl rfl)) qe_int (fun _ _ => rfl)) qa_nil rfl) rfl) rfl) rfl rfl) qa_nil rfl) rfl rfl rfl e.int) (fun _ _ => rfl))))) qss_nil)
    (qss_cons (qs_set (i := 6) S__law_worth_at.nd rfl (.inl rfl) (q_own e.f__law_worth_at hr n_62 rfl (qa_cons (qv (i := 0) n_58 rfl (.inr (.inl rfl))) (qa_cons (q_ix hu (qv (i := 1) n_42 rfl (.inl rfl)) qe_int (fun _ _ => rfl)) (qa_cons (qv (i := 2) n_44 rfl (.inr (.inl rfl))) qa_nil rfl) rfl) rfl) rfl rfl) rfl (.inl rfl))
    (qss_cons (qs_set (i := 7) S__law_worth_at.nd rfl (.inl rfl) (q_own e.f__law_worth_at hr n_62 rfl (qa_cons (qv (i := 0) n_58 rfl (.inr (.inl rfl))) (qa_cons (q_ix hu (qv (i := 1) n_42 rfl (.inl rfl)) qe_int (fun _ _ => rfl)) (qa_cons (qv (i := 2) n_44 rfl (.inr (.inl rfl))) qa_nil rfl) rfl) rfl) rfl rfl) rfl (.inl rfl))
    (qss_cons (qs_if (qt_cmp (q_eq hu) (qv (i := 3) n_55 rfl (.inl rfl)) (q_str s_23) (nomark _)) (qss_one (qs_ret (qe_op qo_add (qv (i := 6) n_54 rfl (.inl rfl)) (qv (i := 7) n_13 rfl (.inl rfl))))) qss_nil)
    (qss_cons (qs_if (qt_cmp (q_eq hu) (qv (i := 3) n_55 rfl (.inl rfl)) (q_str s_24) (nomark _)) (qss_one (qs_ret (qe_op qo_sub (qv (i := 6) n_54 rfl (.inl rfl)) (qv (i := 7) n_13 rfl (.inl rfl))))) qss_nil)
    (qss_one (qs_ret (q_ix hu (q_sorted (qa_cons (qe_lst (qa_cons (qv (i := 6) n_54 rfl (.inl rfl)) (qa_cons (qv (i := 7) n_13 rfl (.inl rfl)) qa_nil rfl) rfl)) qa_nil rfl) rfl rfl hu rfl e.sorted) (q_int (qa_cons (qe_cmp (q_eq hu) (qv (i := 3) n_55 rfl (.inl rfl)) (q_str s_25) (nomark _)) qa_nil rfl) rfl rfl rfl e.int) (fun _ _ => rfl)))))))))))))))
theorem d__law_needs_of (e : Own P w K mg base k c) (hr : Room k (A.deeper (envOfC "_law_needs_of" (defScope s__law_needs_of) s.heap.objs.size f cdv))) : QSs (cxOf CX0 P w K mg base N__law_needs_of "_law_needs_of" (defScope s__law_needs_of) f cdv A outer s H E).nox (defBody s__law_needs_of) (b__law_needs_of c) := by
  have hu := G.hu_of hr
  exact (qss_cons (qs_set (i := 4) S__law_needs_of.nd rfl (.inl rfl) (qe_lst qa_nil) rfl (.inl rfl))
    (qss_cons (qs_setLc (i := 5) rfl S__law_needs_of.nd rfl rfl (sw_true rfl rfl rfl (by decide +kernel)) (own := [("row", 10)]) (t := (.nm 10)) (qi_any (q_ix hu (qv (i := 0) n_50 rfl (.inl rfl)) qe_int (fun _ _ => rfl))) (by show blkC N__law_needs_of (defScope s__law_needs_of) _ _ = true; decide +kernel) (by decide) (fun _ _ _ _ _ => (pg_name (i := 10) S__law_needs_of.nd rfl (.inl rfl) (.inr rfl))) (fun _ _ _ _ _ => qts_nil) (fun _ _ _ _ _ => (q_ix hu (qv (i := 10) n_5 rfl (.inl rfl)) qe_int (fun _ _ => rfl))) (fun _ => rfl))
    (qss_cons (qs_for PassesOwn.never rfl (qi_any (q_own e.f__law_refs hr n_43 rfl (qa_cons (q_ix hu (q_own e.f__law_row_named hr n_60 rfl (qa_cons (qv (i := 0) n_50 rfl (.inl rfl)) (qa_cons (qv (i := 2) n_12 rfl (.inl rfl)) qa_nil rfl) rfl) rfl rfl) qe_int (fun _ _ => rfl)) qa_nil rfl) rfl rfl)) (qg_tup rfl (qgs_cons (qg_name (i := 6) S__law_needs_of.nd rfl (.inl rfl) (.inl rfl)) (qgs_cons (qg_name (i := 7) S__law_needs_of.nd rfl (.inl rfl) (.inl rfl)) (qgs_cons (qg_name (i := 8) S__law_needs_of.nd rfl (.inl rfl) (.inl rfl)) qgs_nil rfl) rfl) rfl) rfl rfl) (qss_cons (qs_set (i := 9) S__law_needs_of.nd rfl (.inl rfl) (q_own e.f__law_at_offsets hr n_56 rfl (qa_cons (qv (i := 3) n_44 rfl (.inl rfl)) (qa_cons (qv (i := 8) n_45 rfl (.inl rfl)) qa_nil rfl) rfl) rfl rfl) rfl (.inl rfl))
    (qss_one (qs_if (q_w (qw_and (qt_cmp (qo_in hu) (qv (i := 7) n_13 rfl (.inl rfl)) (qv (i := 5) n_65 rfl (.inl rfl)) (by with_unfolding_all rfl)) (qw_and (qt_of (q_own e.f__law_in_box hr n_59 rfl (qa_cons (qv (i := 1) n_46 rfl (.inl rfl)) (qa_cons (qv (i := 9) n_57 rfl (.inl rfl)) qa_nil rfl) rfl) rfl rfl) (fun _ => rfl)) (qw_and1 (qt_cmp (qo_notIn hu) (qe_tup (qa_cons (qv (i := 7) n_13 rfl (.inl rfl)) (qa_cons (qv (i := 9) n_57 rfl (.inl rfl)) qa_nil rfl) rfl)) (qv (i := 4) n_2 rfl (.inl rfl)) (by with_unfolding_all rfl)))))) (qss_one (qs_expr (q_append (qv (i := 4) n_2 rfl (.inl rfl)) (qa_cons (qe_tup (qa_cons (qv (i := 7) n_13 rfl (.inl rfl)) (qa_cons (qv (i := 9) n_57 rfl (.inl rfl)) qa_nil rfl) rfl)) qa_nil rfl) rfl rfl rfl rfl rfl) rfl)) qss_nil))) (fun _ => rfl))
    (qss_one (qs_ret (qv (i := 4) n_2 rfl (.inl rfl)))))))
theorem d__law_told_cells (e : Own P w K mg base k c) (hr : Room k (A.deeper (envOfC "_law_told_cells" (defScope s__law_told_cells) s.heap.objs.size f cdv))) : QSs (cxOf CX0 P w K mg base N__law_told_cells "_law_told_cells" (defScope s__law_told_cells) f cdv A outer s H E).nox (defBody s__law_told_cells) (b__law_told_cells c) := by
  have hu := G.hu_of hr
  exact (qss_cons (qs_set (i := 3) S__law_told_cells.nd rfl (.inl rfl) (qe_disp (qps_cons (q_str s_17) (qv (i := 0) n_50 rfl (.inl rfl)) (qps_cons (q_str s_16) (qv (i := 1) n_46 rfl (.inl rfl)) (qps_cons (q_str s_19) (qv (i := 2) n_51 rfl (.inl rfl)) (qps_cons (q_str s_18) qe_dn qps_nil)))) rfl rfl (fun z => by cases z) (by decide)) rfl (.inl rfl))
    (qss_cons (qs_set (i := 4) S__law_told_cells.nd rfl (.inl rfl) (qe_lst qa_nil) rfl (.inl rfl))
    (qss_cons (qs_for PassesOwn.never rfl (qi_any (q_ix hu (qv (i := 0) n_50 rfl (.inl rfl)) qe_int (fun _ _ => rfl))) (qg_name (i := 5) S__law_told_cells.nd rfl (.inr rfl) (.inl rfl)) (qss_one (qs_set (i := 4) S__law_told_cells.nd rfl (.inl rfl) (qe_op qo_add (qv (i := 4) n_11 rfl (.inl rfl)) (qe_lc rfl S__law_told_cells.nd (own := [("place", 8)]) (t := (.nm 8)) (qi_any (q_own e.f__law_places hr n_66 rfl (qa_cons (qv (i := 1) n_46 rfl (.inl rfl)) qa_nil rfl) rfl rfl)) (by show blkC N__law_told_cells (defScope s__law_told_cells) _ _ = true; decide +kernel) (by decide) (fun _ _ _ _ _ => (pg_name (i := 8) S__law_told_cells.nd rfl (.inl rfl) (.inr rfl))) (fun _ _ _ _ _ => qts_nil) (fun _ _ _ _ _ => (qe_tup (qa_cons (q_ix hu (qv (i := 5) n_5 rfl (.inr (.inl rfl))) qe_int (fun _ _ => rfl)) (qa_cons (qv (i := 8) n_44 rfl (.inl rfl)) qa_nil rfl) rfl))) (fun _ => rfl))) rfl (.inl rfl))) (fun _ => rfl))
    (qss_cons (qs_set (i := 6) S__law_told_cells.nd rfl (.inr rfl) qe_dn rfl (.inl rfl))
    (qss_cons (qs_for PassesOwn.never rfl (qi_any (qv (i := 4) n_11 rfl (.inl rfl))) (qg_tup rfl (qgs_cons (qg_name (i := 7) S__law_told_cells.nd rfl (.inl rfl) (.inl rfl)) (qgs_cons (qg_name (i := 8) S__law_told_cells.nd rfl (.inl rfl) (.inl rfl)) qgs_nil rfl) rfl) rfl rfl) (qss_one (qs_asg (q_own e.f__law_needs_of hr n_67 rfl (qa_cons (qv (i := 0) n_50 rfl (.inl rfl)) (qa_cons (qv (i := 1) n_46 rfl (.inl rfl)) (qa_cons (qv (i := 7) n_12 rfl (.inl rfl)) (qa_cons (qv (i := 8) n_44 rfl (.inl rfl)) qa_nil rfl) rfl) rfl) rfl) rfl rfl) (qg_sub' hu (qv (i := 6) n_68 rfl (.inr (.inl rfl))) (qe_tup (qa_cons (qv (i := 7) n_12 rfl (.inl rfl)) (qa_cons (qv (i := 8) n_44 rfl (.inl rfl)) qa_nil rfl) rfl)) (fun _ => rfl)) rfl rfl rfl)) (fun _ => rfl))
    (qss_cons (qs_set (i := 9) S__law_told_cells.nd rfl (.inr rfl) (q_ix hu (qv (i := 3) n_58 rfl (.inl rfl)) (q_str s_18) (fun _ _ => rfl)) rfl (.inl rfl))
    (qss_cons (qs_for PassesOwn.never rfl (qi_r1 rfl e.range (qa_cons (qe_op qo_add (q_len (qa_cons (qv (i := 4) n_11 rfl (.inl rfl)) qa_nil rfl) rfl rfl rfl e.len) qe_int) qa_nil rfl) rfl) (qg_name (i := 10) S__law_told_cells.nd rfl (.inl rfl) (.inl rfl)) (qss_cons (qs_setLc (i := 11) rfl S__law_told_cells.nd rfl rfl (sw_true rfl rfl rfl (by decide +kernel)) (own := [("cell", 12)]) (t := (.nm 12)) (qi_any (qv (i := 4) n_11 rfl (.inl rfl))) (by show blkC N__law_told_cells (defScope s__law_told_cells) _ _ = true; decide +kernel) (by decide) (fun _ _ _ _ _ => (pg_name (i := 12) S__law_told_cells.nd rfl (.inl rfl) (.inr rfl))) (fun _ _ _ _ _ => (qts_one (qt_of (q_all (qa_cons (qe_lc rfl S__law_told_cells.nd (own := [("other", 13)]) (t := (.nm 13)) (qi_any (q_ix hu (qv (i := 6) n_68 rfl (.inr (.inl rfl))) (qv (i := 12) n_19 rfl (.inl rfl)) (fun _ _ => rfl))) (by show blkC N__law_told_cells (relS _ (defScope s__law_told_cells)) _ _ = true; decide +kernel) (by decide) (fun _ _ _ _ _ => (pg_name (i := 13) S__law_told_cells.nd rfl (.inl rfl) (.inr rfl))) (fun _ _ _ _ _ => qts_nil) (fun _ _ _ _ _ => (qe_cmp (qo_in hu) (qv (i := 13) n_13 rfl (.inl rfl)) (qv (i := 9) n_69 rfl (.inr (.inl rfl))) (by with_unfolding_all rfl))) (fun _ => rfl)) qa_nil rfl) rfl rfl rfl rfl e.all) (fun _ => rfl)))) (fun _ _ _ _ _ => (qv (i := 12) n_19 rfl (.inl rfl))) (fun _ => rfl))
    (qss_cons (qs_if (qt_cmp (q_eq hu) (qv (i := 11) n_70 rfl (.inl rfl)) (qe_lst qa_nil) (nomark _)) (qss_one qs_brk) qss_nil)
    (qss_cons (qs_for PassesOwn.never rfl (qi_any (qv (i := 11) n_70 rfl (.inl rfl))) (qg_tup rfl (qgs_cons (qg_name (i := 7) S__law_told_cells.nd rfl (.inl rfl) (.inl rfl)) (qgs_cons (qg_name (i := 8) S__law_told_cells.nd rfl (.inl rfl) (.inl rfl)) qgs_nil rfl) rfl) rfl rfl) (qss_one (qs_asg (q_own e.f__law_worth_at hr n_62 rfl (qa_cons (qv (i := 3) n_58 rfl (.inl rfl)) (qa_cons (q_ix hu (q_own e.f__law_row_named hr n_60 rfl (qa_cons (qv (i := 0) n_50 rfl (.inl rfl)) (qa_cons (qv (i := 7) n_12 rfl (.inl rfl)) qa_nil rfl) rfl) rfl rfl) qe_int (fun _ _ => rfl)) (qa_cons (qv (i := 8) n_44 rfl (.inl rfl)) qa_nil rfl) rfl) rfl) rfl rfl) (qg_sub' hu (qv (i := 9) n_69 rfl (.inr (.inl rfl))) (qe_tup (qa_cons (qv (i := 7) n_12 rfl (.inl rfl)) (qa_cons (qv (i := 8) n_44 rfl (.inl rfl)) qa_nil rfl) rfl)) (fun _ => rfl)) rfl rfl rfl)) (fun _ => rfl))
    (qss_one (qs_setLc (i := 4) rfl S__law_told_cells.nd rfl rfl (sw_true rfl rfl rfl (by decide +kernel)) (own := [("cell", 12)]) (t := (.nm 12)) (qi_any (qv (i := 4) n_11 rfl (.inl rfl))) (by show blkC N__law_told_cells (defScope s__law_told_cells) _ _ = true; decide +kernel) (by decide) (fun _ _ _ _ _ => (pg_name (i := 12) S__law_told_cells.nd rfl (.inl rfl) (.inr rfl))) (fun _ _ _ _ _ => (qts_one (qt_cmp (qo_notIn hu) (qv (i := 12) n_19 rfl (.inl rfl)) (qv (i := 9) n_69 rfl (.inr (.inl rfl))) (by with_unfolding_all rfl)))) (fun _ _ _ _ _ => (qv (i := 12) n_19 rfl (.inl rfl))) (fun _ => rfl)))))) (fun _ => rfl))
    (qss_one (qs_ret (qv (i := 9) n_69 rfl (.inr (.inl rfl))))))))))))
theorem d__law_sizes (e : Own P w K mg base k c) (hr : Room k (A.deeper (envOfC "_law_sizes" (defScope s__law_sizes) s.heap.objs.size f cdv))) : QSs (cxOf CX0 P w K mg base N__law_sizes "_law_sizes" (defScope s__law_sizes) f cdv A outer s H E).nox (defBody s__law_sizes) (b__law_sizes c) := by
  have hu := G.hu_of hr
  exact (qss_one (qs_ret (q_tuple (qa_cons (qe_lc rfl S__law_sizes.nd (own := [("k", 3)]) (t := (.nm 3)) (qi_r1 rfl e.range (qa_cons (qv (i := 1) n_24 rfl (.inr (.inl rfl))) qa_nil rfl) rfl) (by show blkC N__law_sizes (defScope s__law_sizes) _ _ = true; decide +kernel) (by decide) (fun _ _ _ _ _ => (pg_name (i := 3) S__law_sizes.nd rfl (.inl rfl) (.inr rfl))) (fun _ _ _ _ _ => qts_nil) (fun _ _ _ _ _ => (qe_op qo_add qe_int (q_own e.f__law_draw hr n_23 rfl (qa_cons (qv (i := 0) n_17 rfl (.inr (.inl rfl))) (qa_cons (q_ix hu (qe_lst (qa_cons (qe_op qo_mul (qv (i := 2) n_18 rfl (.inr (.inl rfl))) qe_int) (qa_cons (qv (i := 2) n_18 rfl (.inr (.inl rfl))) (qa_cons (qe_op qo_div (qe_op qo_add (qv (i := 2) n_18 rfl (.inr (.inl rfl))) qe_int) qe_int) qa_nil rfl) rfl) rfl)) (qe_op qo_sub (qv (i := 1) n_24 rfl (.inr (.inl rfl))) qe_int) (fun _ _ => rfl)) qa_nil rfl) rfl) rfl rfl))) (fun _ => rfl)) qa_nil rfl) rfl rfl rfl e.tuple)))
theorem d__law_fields (e : Own P w K mg base k c) (hr : Room k (A.deeper (envOfC "_law_fields" (defScope s__law_fields) s.heap.objs.size f cdv))) : QSs (cxOf CX0 P w K mg base N__law_fields "_law_fields" (defScope s__law_fields) f cdv A outer s H E).nox (defBody s__law_fields) (b__law_fields c) := by
  have hu := G.hu_of hr
  exact (qss_cons (qs_set (i := 3) S__law_fields.nd rfl (.inl rfl) (qe_lst qa_nil) rfl (.inl rfl))
    (qss_cons (qs_for PassesOwn.never rfl (qi_any (q_ix hu (qv (i := 1) n_50 rfl (.inl rfl)) qe_int (fun _ _ => rfl))) (qg_tup rfl (qgs_cons (qg_name (i := 4) S__law_fields.nd rfl (.inl rfl) (.inl rfl)) (qgs_cons (qg_name (i := 5) S__law_fields.nd rfl (.inl rfl) (.inl rfl)) (qgs_cons (qg_name (i := 6) S__law_fields.nd rfl (.inl rfl) (.inl rfl)) (qgs_cons (qg_name (i := 7) S__law_fields.nd rfl (.inl rfl) (.inl rfl)) qgs_nil rfl) rfl) rfl) rfl) rfl rfl) (qss_cons (qs_set (i := 8) S__law_fields.nd rfl (.inl rfl) (qe_lst qa_nil) rfl (.inl rfl))
    (qss_cons (qs_for PassesOwn.never rfl (qi_any (q_own e.f__law_places hr n_66 rfl (qa_cons (qv (i := 2) n_46 rfl (.inl rfl)) qa_nil rfl) rfl rfl)) (qg_name (i := 9) S__law_fields.nd rfl (.inl rfl) (.inl rfl)) (qss_one (qs_if (qt_cmp (q_eq hu) (q_own e.f__law_draw hr n_23 rfl (qa_cons (qv (i := 0) n_17 rfl (.inl rfl)) (qa_cons qe_int qa_nil rfl) rfl) rfl rfl) qe_int (nomark _)) (qss_cons (qs_set (i := 10) S__law_fields.nd rfl (.inl rfl) (qe_op qo_sub (qe_op qo_add (qv (i := 5) n_35 rfl (.inl rfl)) (q_own e.f__law_draw hr n_23 rfl (qa_cons (qv (i := 0) n_17 rfl (.inl rfl)) (qa_cons qe_int qa_nil rfl) rfl) rfl rfl)) qe_int) rfl (.inl rfl))
    (qss_cons (qs_if (qt_cmp (q_ne hu) (qv (i := 6) n_37 rfl (.inl rfl)) (qe_tup qa_nil) (nomark _)) (qss_one (qs_set (i := 10) S__law_fields.nd rfl (.inl rfl) (q_max (qa_cons (qv (i := 10) n_52 rfl (.inl rfl)) (qa_cons (qv (i := 6) n_37 rfl (.inl rfl)) qa_nil rfl) rfl) rfl rfl rfl rfl e.max) rfl (.inl rfl))) qss_nil)
    (qss_cons (qs_if (qt_cmp (q_ne hu) (qv (i := 7) n_36 rfl (.inl rfl)) (qe_tup qa_nil) (nomark _)) (qss_one (qs_set (i := 10) S__law_fields.nd rfl (.inl rfl) (q_min (qa_cons (qv (i := 10) n_52 rfl (.inl rfl)) (qa_cons (qv (i := 7) n_36 rfl (.inl rfl)) qa_nil rfl) rfl) rfl rfl rfl rfl e.min) rfl (.inl rfl))) qss_nil)
    (qss_one (qs_expr (q_append (qv (i := 8) n_71 rfl (.inl rfl)) (qa_cons (qe_tup (qa_cons (qv (i := 9) n_44 rfl (.inl rfl)) (qa_cons (qv (i := 10) n_52 rfl (.inl rfl)) qa_nil rfl) rfl)) qa_nil rfl) rfl rfl rfl rfl rfl) rfl))))) qss_nil)) (fun _ => rfl))
    (qss_one (qs_expr (q_append (qv (i := 3) n_2 rfl (.inl rfl)) (qa_cons (q_tuple (qa_cons (qv (i := 8) n_71 rfl (.inl rfl)) qa_nil rfl) rfl rfl rfl e.tuple) qa_nil rfl) rfl rfl rfl rfl rfl) rfl)))) (fun _ => rfl))
    (qss_one (qs_ret (q_tuple (qa_cons (qv (i := 3) n_2 rfl (.inl rfl)) qa_nil rfl) rfl rfl rfl e.tuple)))))
theorem d__law_numbers_in (e : Own P w K mg base k c) (hr : Room k (A.deeper (envOfC "_law_numbers_in" (defScope s__law_numbers_in) s.heap.objs.size f cdv))) : QSs (cxOf CX0 P w K mg base N__law_numbers_in "_law_numbers_in" (defScope s__law_numbers_in) f cdv A outer s H E).nox (defBody s__law_numbers_in) (b__law_numbers_in c) := by
  have hu := G.hu_of hr
  exact (qss_cons (qs_if (qt_cmp (q_eq hu) (q_ix hu (qv (i := 0) n_42 rfl (.inl rfl)) qe_int (fun _ _ => rfl)) (q_str s_14) (nomark _)) (qss_one (qs_ret (qe_lst (qa_cons (q_ix hu (qv (i := 0) n_42 rfl (.inl rfl)) qe_int (fun _ _ => rfl)) qa_nil rfl)))) qss_nil)
    (qss_cons (qs_set (i := 1) S__law_numbers_in.nd rfl (.inl rfl) (qe_lst qa_nil) rfl (.inl rfl))
    (qss_cons (qs_if (qt_cmp (q_eq hu) (q_ix hu (qv (i := 0) n_42 rfl (.inl rfl)) qe_int (fun _ _ => rfl)) (q_str s_21) (nomark _)) (qss_one (qs_expr (q_append (qv (i := 1) n_2 rfl (.inl rfl)) (qa_cons (q_ix hu (qv (i := 0) n_42 rfl (.inl rfl)) qe_int (fun _ _ => rfl)) qa_nil rfl) rfl rfl rfl rfl rfl) rfl)) qss_nil)
    (qss_cons (qs_for PassesOwn.never rfl (qi_any (qe_sl (qv (i := 0) n_42 rfl (.inl rfl)) (qp_some qe_int) qp_none)) (qg_name (i := 2) S__law_numbers_in.nd rfl (.inl rfl) (.inl rfl)) (qss_one (qs_if (q_w (qw_and (qt_of (q_isa .tuple rfl e.isinstance rfl e.tuple (qv (i := 2) n_1 rfl (.inl rfl)) rfl rfl rfl) (fun _ => rfl)) (qw_and1 (qt_cmp (q_ne hu) (q_ix hu (qv (i := 0) n_42 rfl (.inl rfl)) qe_int (fun _ _ => rfl)) (q_str s_0) (nomark _))))) (qss_one (qs_set (i := 1) S__law_numbers_in.nd rfl (.inl rfl) (qe_op qo_add (qv (i := 1) n_2 rfl (.inl rfl)) (q_own e.f__law_numbers_in hr n_72 rfl (qa_cons (qv (i := 2) n_1 rfl (.inl rfl)) qa_nil rfl) rfl rfl)) rfl (.inl rfl))) qss_nil)) (fun _ => rfl))
    (qss_one (qs_ret (qv (i := 1) n_2 rfl (.inl rfl))))))))
theorem d__law_token_count (e : Own P w K mg base k c) (hr : Room k (A.deeper (envOfC "_law_token_count" (defScope s__law_token_count) s.heap.objs.size f cdv))) : QSs (cxOf CX0 P w K mg base N__law_token_count "_law_token_count" (defScope s__law_token_count) f cdv A outer s H E).nox (defBody s__law_token_count) (b__law_token_count c) := by
  have hu := G.hu_of hr
  exact (qss_cons (qs_set (i := 2) S__law_token_count.nd rfl (.inl rfl) (q_ix hu (qv (i := 1) n_42 rfl (.inl rfl)) qe_int (fun _ _ => rfl)) rfl (.inl rfl))
    (qss_cons (qs_if (q_w (qw_or (qt_cmp (q_eq hu) (qv (i := 2) n_55 rfl (.inl rfl)) (q_str s_14) (nomark _)) (qw_or1 (qt_cmp (q_eq hu) (qv (i := 2) n_55 rfl (.inl rfl)) (q_str s_15) (nomark _))))) (qss_one (qs_ret qe_int)) qss_nil)
    (qss_cons (qs_if (qt_cmp (q_eq hu) (qv (i := 2) n_55 rfl (.inl rfl)) (q_str s_0) (nomark _)) (qss_one (qs_ret (qe_op qo_add (qe_op qo_add qe_int (qe_op qo_mul qe_int (q_len (qa_cons (qv (i := 0) n_73 rfl (.inr (.inl rfl))) qa_nil rfl) rfl rfl rfl e.len))) (qe_op qo_mul qe_int (q_len (qa_cons (qe_lc rfl S__law_token_count.nd (own := [("x", 4)]) (t := (.nm 4)) (qi_any (q_ix hu (qv (i := 1) n_42 rfl (.inl rfl)) qe_int (fun _ _ => rfl))) (by show blkC N__law_token_count (defScope s__law_token_count) _ _ = true; decide +kernel) (by decide) (fun _ _ _ _ _ => (pg_name (i := 4) S__law_token_count.nd rfl (.inl rfl) (.inr rfl))) (fun _ _ _ _ _ => (qts_one (qt_cmp (q_ne hu) (qv (i := 4) n_30 rfl (.inl rfl)) qe_int (nomark _)))) (fun _ _ _ _ _ => (qv (i := 4) n_30 rfl (.inl rfl))) (fun _ => rfl)) qa_nil rfl) rfl rfl rfl e.len))))) qss_nil)
    (qss_cons (qs_if (qt_cmp (q_eq hu) (qv (i := 2) n_55 rfl (.inl rfl)) (q_str s_20) (nomark _)) (qss_one (qs_ret (qe_op qo_add (qe_op qo_add qe_int (q_own e.f__law_token_count hr n_74 rfl (qa_cons (qv (i := 0) n_73 rfl (.inr (.inl rfl))) (qa_cons (q_ix hu (qv (i := 1) n_42 rfl (.inl rfl)) qe_int (fun _ _ => rfl)) qa_nil rfl) rfl) rfl rfl)) (qe_op qo_mul qe_int (q_int (qa_cons (qe_cmp (qo_in hu) (q_ix hu (q_ix hu (qv (i := 1) n_42 rfl (.inl rfl)) qe_int (fun _ _ => rfl)) qe_int (fun _ _ => rfl)) (qe_lst (qa_cons (q_str s_23) (qa_cons (q_str s_24) (qa_cons (q_str s_20) qa_nil rfl) rfl) rfl)) (by with_unfolding_all rfl)) qa_nil rfl) rfl rfl rfl e.int))))) qss_nil)
    (qss_cons (qs_if (qt_cmp (q_eq hu) (qv (i := 2) n_55 rfl (.inl rfl)) (q_str s_21) (nomark _)) (qss_one (qs_ret (qe_op qo_add (qe_op qo_add qe_int (q_own e.f__law_token_count hr n_74 rfl (qa_cons (qv (i := 0) n_73 rfl (.inr (.inl rfl))) (qa_cons (q_ix hu (qv (i := 1) n_42 rfl (.inl rfl)) qe_int (fun _ _ => rfl)) qa_nil rfl) rfl) rfl rfl)) (qe_op qo_mul qe_int (q_int (qa_cons (qe_cmp (qo_in hu) (q_ix hu (q_ix hu (qv (i := 1) n_42 rfl (.inl rfl)) qe_int (fun _ _ => rfl)) qe_int (fun _ _ => rfl)) (qe_lst (qa_cons (q_str s_23) (qa_cons (q_str s_24) (qa_cons (q_str s_20) (qa_cons (q_str s_21) qa_nil rfl) rfl) rfl) rfl)) (by with_unfolding_all rfl)) qa_nil rfl) rfl rfl rfl e.int))))) qss_nil)
    (qss_cons (qs_set (i := 3) S__law_token_count.nd rfl (.inl rfl) (q_sum (qa_cons (qe_lc rfl S__law_token_count.nd (own := [("part", 5)]) (t := (.nm 5)) (qi_any (qe_sl (qv (i := 1) n_42 rfl (.inl rfl)) (qp_some qe_int) qp_none)) (by show blkC N__law_token_count (defScope s__law_token_count) _ _ = true; decide +kernel) (by decide) (fun _ _ _ _ _ => (pg_name (i := 5) S__law_token_count.nd rfl (.inl rfl) (.inr rfl))) (fun _ _ _ _ _ => (qts_one (qt_of (q_isa .tuple rfl e.isinstance rfl e.tuple (qv (i := 5) n_1 rfl (.inl rfl)) rfl rfl rfl) (fun _ => rfl)))) (fun _ _ _ _ _ => (q_own e.f__law_token_count hr n_74 rfl (qa_cons (qv (i := 0) n_73 rfl (.inr (.inl rfl))) (qa_cons (qv (i := 5) n_1 rfl (.inl rfl)) qa_nil rfl) rfl) rfl rfl)) (fun _ => rfl)) qa_nil rfl) rfl rfl rfl rfl e.sum) rfl (.inl rfl))
    (qss_cons (qs_if (qt_cmp (q_eq hu) (qv (i := 2) n_55 rfl (.inl rfl)) (q_str s_22) (nomark _)) (qss_one (qs_ret (qe_op qo_add (qv (i := 3) n_75 rfl (.inl rfl)) qe_int))) qss_nil)
    (qss_cons (qs_if (q_w (qw_or (qt_cmp (q_eq hu) (qv (i := 2) n_55 rfl (.inl rfl)) (q_str s_23) (nomark _)) (qw_or1 (qt_cmp (q_eq hu) (qv (i := 2) n_55 rfl (.inl rfl)) (q_str s_24) (nomark _))))) (qss_one (qs_ret (qe_op qo_add (qe_op qo_add (qv (i := 3) n_75 rfl (.inl rfl)) qe_int) (qe_op qo_mul qe_int (q_int (qa_cons (qe_cmp (qo_in hu) (q_ix hu (q_ix hu (qv (i := 1) n_42 rfl (.inl rfl)) qe_int (fun _ _ => rfl)) qe_int (fun _ _ => rfl)) (qe_lst (qa_cons (q_str s_23) (qa_cons (q_str s_24) (qa_cons (q_str s_20) qa_nil rfl) rfl) rfl)) (by with_unfolding_all rfl)) qa_nil rfl) rfl rfl rfl e.int))))) qss_nil)
    (qss_one (qs_ret (qe_op qo_add (qv (i := 3) n_75 rfl (.inl rfl)) qe_int)))))))))))
theorem d__law_can_be_read (e : Own P w K mg base k c) (hr : Room k (A.deeper (envOfC "_law_can_be_read" (defScope s__law_can_be_read) s.heap.objs.size f cdv))) : QSs (cxOf CX0 P w K mg base N__law_can_be_read "_law_can_be_read" (defScope s__law_can_be_read) f cdv A outer s H E).nox (defBody s__law_can_be_read) (b__law_can_be_read c) := by
  have hu := G.hu_of hr
  exact (qss_cons (qs_set (i := 2) S__law_can_be_read.nd rfl (.inl rfl) (qe_op qo_add (qe_op qo_add qe_int (qe_op qo_mul qe_int (q_int (qa_cons (qe_cmp (q_ne hu) (q_ix hu (qv (i := 1) n_5 rfl (.inl rfl)) qe_int (fun _ _ => rfl)) qe_int (nomark _)) qa_nil rfl) rfl rfl rfl e.int))) (q_int (qa_cons (qe_cmp qo_lt (q_ix hu (qv (i := 1) n_5 rfl (.inl rfl)) qe_int (fun _ _ => rfl)) qe_int (nomark _)) qa_nil rfl) rfl rfl rfl e.int)) rfl (.inl rfl))
    (qss_cons (qs_if (q_w (qw_or (qt_cmp qo_gt (qe_op qo_add (qv (i := 2) n_76 rfl (.inl rfl)) (q_own e.f__law_token_count hr n_74 rfl (qa_cons (qv (i := 0) n_73 rfl (.inl rfl)) (qa_cons (q_ix hu (qv (i := 1) n_5 rfl (.inl rfl)) qe_int (fun _ _ => rfl)) qa_nil rfl) rfl) rfl rfl)) qe_int (nomark _)) (qw_or1 (qt_cmp qo_gt (q_len (qa_cons (q_own e.f__law_refs hr n_43 rfl (qa_cons (q_ix hu (qv (i := 1) n_5 rfl (.inl rfl)) qe_int (fun _ _ => rfl)) qa_nil rfl) rfl rfl) qa_nil rfl) rfl rfl rfl e.len) qe_int (nomark _))))) (qss_one (qs_ret qe_bl)) qss_nil)
    (qss_one (qs_ret (q_all (qa_cons (qe_lc rfl S__law_can_be_read.nd (own := [("number", 3)]) (t := (.nm 3)) (qi_any (q_own e.f__law_numbers_in hr n_72 rfl (qa_cons (q_ix hu (qv (i := 1) n_5 rfl (.inl rfl)) qe_int (fun _ _ => rfl)) qa_nil rfl) rfl rfl)) (by show blkC N__law_can_be_read (defScope s__law_can_be_read) _ _ = true; decide +kernel) (by decide) (fun _ _ _ _ _ => (pg_name (i := 3) S__law_can_be_read.nd rfl (.inl rfl) (.inr rfl))) (fun _ _ _ _ _ => qts_nil) (fun _ _ _ _ _ => (qe_cmp qo_lt (qv (i := 3) n_52 rfl (.inl rfl)) (qe_op qo_pow qe_int qe_int) (nomark _))) (fun _ => rfl)) qa_nil rfl) rfl rfl rfl rfl e.all)))))
theorem d__law_untouched (e : Own P w K mg base k c) (hr : Room k (A.deeper (envOfC "_law_untouched" (defScope s__law_untouched) s.heap.objs.size f cdv))) : QSs (cxOf CX0 P w K mg base N__law_untouched "_law_untouched" (defScope s__law_untouched) f cdv A outer s H E).nox (defBody s__law_untouched) (b__law_untouched c) := by
  have hu := G.hu_of hr
  exact (qss_cons (qs_if (qt_cmp (q_ne hu) (q_len (qa_cons (q_ix hu (qv (i := 0) n_6 rfl (.inl rfl)) qe_int (fun _ _ => rfl)) qa_nil rfl) rfl rfl rfl e.len) (q_len (qa_cons (q_ix hu (qv (i := 1) n_4 rfl (.inr (.inl rfl))) qe_int (fun _ _ => rfl)) qa_nil rfl) rfl rfl rfl e.len) (nomark _)) (qss_one (qs_ret (qe_tup qa_nil))) qss_nil)
    (qss_cons (qs_set (i := 2) S__law_untouched.nd rfl (.inr rfl) (qe_lc rfl S__law_untouched.nd (own := [("row", 7)]) (t := (.nm 7)) (qi_any (q_ix hu (qv (i := 0) n_6 rfl (.inl rfl)) qe_int (fun _ _ => rfl))) (by show blkC N__law_untouched (defScope s__law_untouched) _ _ = true; decide +kernel) (by decide) (fun _ _ _ _ _ => (pg_name (i := 7) S__law_untouched.nd rfl (.inl rfl) (.inr rfl))) (fun _ _ _ _ _ => (qts_one (qt_cmp (qo_in hu) (qv (i := 7) n_5 rfl (.inl rfl)) (q_ix hu (qv (i := 1) n_4 rfl (.inr (.inl rfl))) qe_int (fun _ _ => rfl)) (by with_unfolding_all rfl)))) (fun _ _ _ _ _ => (q_ix hu (qv (i := 7) n_5 rfl (.inl rfl)) qe_int (fun _ _ => rfl))) (fun _ => rfl)) rfl (.inl rfl))
    (qss_cons (qs_set (i := 3) S__law_untouched.nd rfl (.inr rfl) (qe_lc rfl S__law_untouched.nd (own := [("row", 7)]) (t := (.nm 7)) (qi_any (q_ix hu (qv (i := 0) n_6 rfl (.inl rfl)) qe_int (fun _ _ => rfl))) (by show blkC N__law_untouched (defScope s__law_untouched) _ _ = true; decide +kernel) (by decide) (fun _ _ _ _ _ => (pg_name (i := 7) S__law_untouched.nd rfl (.inl rfl) (.inr rfl))) (fun _ _ _ _ _ => (qts_one (qt_cmp (qo_in hu) (qv (i := 7) n_5 rfl (.inl rfl)) (q_ix hu (qv (i := 1) n_4 rfl (.inr (.inl rfl))) qe_int (fun _ _ => rfl)) (by with_unfolding_all rfl)))) (fun _ _ _ _ _ => (q_ix hu (qv (i := 7) n_5 rfl (.inl rfl)) qe_int (fun _ _ => rfl))) (fun _ => rfl)) rfl (.inl rfl))
    (qss_cons (qs_for PassesOwn.never rfl (qi_r1 rfl e.range (qa_cons (qe_op qo_add (q_len (qa_cons (qv (i := 3) n_11 rfl (.inr (.inl rfl))) qa_nil rfl) rfl rfl rfl e.len) qe_int) qa_nil rfl) rfl) (qg_name (i := 4) S__law_untouched.nd rfl (.inl rfl) (.inl rfl)) (qss_cons (qs_set (i := 5) S__law_untouched.nd rfl (.inl rfl) (qe_lst qa_nil) rfl (.inl rfl))
    (qss_cons (qs_for PassesOwn.never rfl (qi_any (qv (i := 3) n_11 rfl (.inr (.inl rfl)))) (qg_name (i := 6) S__law_untouched.nd rfl (.inl rfl) (.inl rfl)) (qss_one (qs_if (qt_of (q_all (qa_cons (qe_lc rfl S__law_untouched.nd (own := [("e", 8)]) (t := (.nm 8)) (qi_any (q_own e.f__law_refs hr n_43 rfl (qa_cons (q_ix hu (q_own e.f__law_row_named hr n_60 rfl (qa_cons (qv (i := 0) n_6 rfl (.inl rfl)) (qa_cons (qv (i := 6) n_12 rfl (.inl rfl)) qa_nil rfl) rfl) rfl rfl) qe_int (fun _ _ => rfl)) qa_nil rfl) rfl rfl)) (by show blkC N__law_untouched (defScope s__law_untouched) _ _ = true; decide +kernel) (by decide) (fun _ _ _ _ _ => (pg_name (i := 8) S__law_untouched.nd rfl (.inl rfl) (.inr rfl))) (fun _ _ _ _ _ => qts_nil) (fun _ _ _ _ _ => (qe_or (qe_cmp (qo_in hu) (q_ix hu (qv (i := 8) n_42 rfl (.inl rfl)) qe_int (fun _ _ => rfl)) (qv (i := 2) n_14 rfl (.inr (.inl rfl))) (by with_unfolding_all rfl)) (qe_one (qe_cmp (qo_in hu) (q_ix hu (qv (i := 8) n_42 rfl (.inl rfl)) qe_int (fun _ _ => rfl)) (qv (i := 3) n_11 rfl (.inr (.inl rfl))) (by with_unfolding_all rfl))))) (fun _ => rfl)) qa_nil rfl) rfl rfl rfl rfl e.all) (fun _ => rfl)) (qss_one (qs_expr (q_append (qv (i := 5) n_15 rfl (.inl rfl)) (qa_cons (qv (i := 6) n_12 rfl (.inl rfl)) qa_nil rfl) rfl rfl rfl rfl rfl) rfl)) qss_nil)) (fun _ => rfl))
    (qss_cons (qs_if (qt_cmp (q_eq hu) (q_len (qa_cons (qv (i := 5) n_15 rfl (.inl rfl)) qa_nil rfl) rfl rfl rfl e.len) (q_len (qa_cons (qv (i := 3) n_11 rfl (.inr (.inl rfl))) qa_nil rfl) rfl rfl rfl e.len) (nomark _)) (qss_one qs_brk) qss_nil)
    (qss_one (qs_set (i := 3) S__law_untouched.nd rfl (.inr rfl) (qv (i := 5) n_15 rfl (.inl rfl)) rfl (.inl rfl)))))) (fun _ => rfl))
    (qss_one (qs_ret (q_tuple (qa_cons (q_sorted (qa_cons (qv (i := 3) n_11 rfl (.inr (.inl rfl))) qa_nil rfl) rfl rfl hu rfl e.sorted) qa_nil rfl) rfl rfl rfl e.tuple)))))))
theorem d__law_touched_table (e : Own P w K mg base k c) (hr : Room k (A.deeper (envOfC "_law_touched_table" (defScope s__law_touched_table) s.heap.objs.size f cdv))) : QSs (cxOf CX0 P w K mg base N__law_touched_table "_law_touched_table" (defScope s__law_touched_table) f cdv A outer s H E).nox (defBody s__law_touched_table) (b__law_touched_table c) := by
  have hu := G.hu_of hr
  exact (qss_cons (qs_set (i := 2) S__law_touched_table.nd rfl (.inl rfl) (q_own e.f__law_draw hr n_23 rfl (qa_cons (qv (i := 0) n_17 rfl (.inl rfl)) (qa_cons qe_int qa_nil rfl) rfl) rfl rfl) rfl (.inl rfl))
    (qss_cons (qs_set (i := 3) S__law_touched_table.nd rfl (.inl rfl) (q_list (qa_cons (q_ix hu (qv (i := 1) n_50 rfl (.inl rfl)) qe_int (fun _ _ => rfl)) qa_nil rfl) rfl rfl rfl rfl e.list) rfl (.inl rfl))
    (qss_cons (qs_set (i := 4) S__law_touched_table.nd rfl (.inl rfl) (q_list (qa_cons (q_ix hu (qv (i := 1) n_50 rfl (.inl rfl)) qe_int (fun _ _ => rfl)) qa_nil rfl) rfl rfl rfl rfl e.list) rfl (.inl rfl))
    (qss_cons (qs_set (i := 5) S__law_touched_table.nd rfl (.inl rfl) (q_own e.f__law_draw hr n_23 rfl (qa_cons (qv (i := 0) n_17 rfl (.inl rfl)) (qa_cons (q_len (qa_cons (qv (i := 3) n_38 rfl (.inl rfl)) qa_nil rfl) rfl rfl rfl e.len) qa_nil rfl) rfl) rfl rfl) rfl (.inl rfl))
    (qss_cons (qs_asg (q_ix hu (qv (i := 3) n_38 rfl (.inl rfl)) (qv (i := 5) n_49 rfl (.inl rfl)) (fun _ _ => rfl)) (qg_tup rfl (qgs_cons (qg_name (i := 6) S__law_touched_table.nd rfl (.inl rfl) (.inl rfl)) (qgs_cons (qg_name (i := 7) S__law_touched_table.nd rfl (.inl rfl) (.inl rfl)) (qgs_cons (qg_name (i := 8) S__law_touched_table.nd rfl (.inl rfl) (.inl rfl)) qgs_nil rfl) rfl) rfl) rfl rfl) rfl rfl rfl)
    (qss_cons (qs_if (qt_cmp (q_eq hu) (qv (i := 2) n_77 rfl (.inl rfl)) qe_int (nomark _)) (qss_one (qs_asg (qe_tup (qa_cons (qv (i := 6) n_12 rfl (.inl rfl)) (qa_cons (qe_op qo_add (qv (i := 7) n_35 rfl (.inl rfl)) qe_int) (qa_cons (qv (i := 8) n_42 rfl (.inl rfl)) qa_nil rfl) rfl) rfl)) (qg_sub' hu (qv (i := 3) n_38 rfl (.inl rfl)) (qv (i := 5) n_49 rfl (.inl rfl)) (fun _ => rfl)) rfl rfl rfl)) (qss_one (qs_if (qt_cmp (q_eq hu) (qv (i := 2) n_77 rfl (.inl rfl)) qe_int (nomark _)) (qss_one (qs_asg (qe_tup (qa_cons (qv (i := 6) n_12 rfl (.inl rfl)) (qa_cons (qv (i := 7) n_35 rfl (.inl rfl)) (qa_cons (qe_tup (qa_cons (q_str s_14) (qa_cons (q_own e.f__law_draw hr n_23 rfl (qa_cons (qv (i := 0) n_17 rfl (.inl rfl)) (qa_cons qe_int qa_nil rfl) rfl) rfl rfl) qa_nil rfl) rfl)) qa_nil rfl) rfl) rfl)) (qg_sub' hu (qv (i := 3) n_38 rfl (.inl rfl)) (qv (i := 5) n_49 rfl (.inl rfl)) (fun _ => rfl)) rfl rfl rfl)) (qss_one (qs_if (q_w (qw_and (qt_cmp (q_eq hu) (qv (i := 2) n_77 rfl (.inl rfl)) qe_int (nomark _)) (qw_and1 (qt_cmp (q_ne hu) (qv (i := 4) n_14 rfl (.inl rfl)) (qe_lst qa_nil) (nomark _))))) (qss_cons (qs_set (i := 9) S__law_touched_table.nd rfl (.inl rfl) (q_own e.f__law_draw hr n_23 rfl (qa_cons (qv (i := 0) n_17 rfl (.inl rfl)) (qa_cons (q_len (qa_cons (qv (i := 4) n_14 rfl (.inl rfl)) qa_nil rfl) rfl rfl rfl e.len) qa_nil rfl) rfl) rfl rfl) rfl (.inl rfl))
    (qss_one (qs_asg (qe_tup (qa_cons (q_ix hu (q_ix hu (qv (i := 4) n_14 rfl (.inl rfl)) (qv (i := 9) n_78 rfl (.inl rfl)) (fun _ _ => rfl)) qe_int (fun _ _ => rfl)) (qa_cons (q_ix hu (q_ix hu (qv (i := 4) n_14 rfl (.inl rfl)) (qv (i := 9) n_78 rfl (.inl rfl)) (fun _ _ => rfl)) qe_int (fun _ _ => rfl)) (qa_cons (qe_tup qa_nil) (qa_cons (qe_tup qa_nil) qa_nil rfl) rfl) rfl) rfl)) (qg_sub' hu (qv (i := 4) n_14 rfl (.inl rfl)) (qv (i := 9) n_78 rfl (.inl rfl)) (fun _ => rfl)) rfl rfl rfl))) (qss_one (qs_if (qt_cmp (q_eq hu) (qv (i := 2) n_77 rfl (.inl rfl)) qe_int (nomark _)) (qss_one (qs_if (qt_cmp (qo_notIn hu) (q_str s_26) (qe_lc rfl S__law_touched_table.nd (own := [("row", 10)]) (t := (.nm 10)) (qi_any (qv (i := 3) n_38 rfl (.inl rfl))) (by show blkC N__law_touched_table (defScope s__law_touched_table) _ _ = true; decide +kernel) (by decide) (fun _ _ _ _ _ => (pg_name (i := 10) S__law_touched_table.nd rfl (.inl rfl) (.inr rfl))) (fun _ _ _ _ _ => qts_nil) (fun _ _ _ _ _ => (q_ix hu (qv (i := 10) n_5 rfl (.inl rfl)) qe_int (fun _ _ => rfl))) (fun _ => rfl)) (by with_unfolding_all rfl)) (qss_one (qs_set (i := 3) S__law_touched_table.nd rfl (.inl rfl) (q_sorted (qa_cons (qe_op qo_add (qv (i := 3) n_38 rfl (.inl rfl)) (qe_lst (qa_cons (qe_tup (qa_cons (q_str s_26) (qa_cons qe_int (qa_cons (qe_tup (qa_cons (q_str s_15) (qa_cons qe_int qa_nil rfl) rfl)) qa_nil rfl) rfl) rfl)) qa_nil rfl))) qa_nil rfl) rfl rfl hu rfl e.sorted) rfl (.inl rfl))) qss_nil)) (qss_cons (qs_set (i := 10) S__law_touched_table.nd rfl (.inl rfl) (qe_tup (qa_cons (qv (i := 6) n_12 rfl (.inl rfl)) (qa_cons (qv (i := 7) n_35 rfl (.inl rfl)) (qa_cons (qe_tup (qa_cons (q_str s_27) (qa_cons (qv (i := 8) n_42 rfl (.inl rfl)) (qa_cons (qe_tup (qa_cons (q_str s_14) (qa_cons qe_int qa_nil rfl) rfl)) qa_nil rfl) rfl) rfl)) qa_nil rfl) rfl) rfl)) rfl (.inl rfl))
    (qss_one (qs_if (qt_of (q_own e.f__law_can_be_read hr n_79 rfl (qa_cons (q_ix hu (qv (i := 1) n_50 rfl (.inl rfl)) qe_int (fun _ _ => rfl)) (qa_cons (qv (i := 10) n_5 rfl (.inl rfl)) qa_nil rfl) rfl) rfl rfl) (fun _ => rfl)) (qss_one (qs_asg (qv (i := 10) n_5 rfl (.inl rfl)) (qg_sub' hu (qv (i := 3) n_38 rfl (.inl rfl)) (qv (i := 5) n_49 rfl (.inl rfl)) (fun _ => rfl)) rfl rfl rfl)) qss_nil))))))))))
    (qss_one (qs_ret (qe_tup (qa_cons (q_ix hu (qv (i := 1) n_50 rfl (.inl rfl)) qe_int (fun _ _ => rfl)) (qa_cons (q_tuple (qa_cons (qv (i := 4) n_14 rfl (.inl rfl)) qa_nil rfl) rfl rfl rfl e.tuple) (qa_cons (q_tuple (qa_cons (qv (i := 3) n_38 rfl (.inl rfl)) qa_nil rfl) rfl rfl rfl e.tuple) (qa_cons (q_ix hu (qv (i := 1) n_50 rfl (.inl rfl)) qe_int (fun _ _ => rfl)) qa_nil rfl) rfl) rfl) rfl))))))))))
theorem d__law_chain_table (e : Own P w K mg base k c) (hr : Room k (A.deeper (envOfC "_law_chain_table" (defScope s__law_chain_table) s.heap.objs.size f cdv))) : QSs (cxOf CX0 P w K mg base N__law_chain_table "_law_chain_table" (defScope s__law_chain_table) f cdv A outer s H E).nox (defBody s__law_chain_table) (b__law_chain_table c) := by
  have hu := G.hu_of hr
  exact (qss_cons (qs_set (i := 1) S__law_chain_table.nd rfl (.inl rfl) (q_own e.f__law_table_world hr n_80 rfl (qa_cons (qv (i := 0) n_17 rfl (.inr (.inl rfl))) (qa_cons (qe_op qo_add qe_int (q_own e.f__law_draw hr n_23 rfl (qa_cons (qv (i := 0) n_17 rfl (.inr (.inl rfl))) (qa_cons qe_int qa_nil rfl) rfl) rfl rfl)) (qa_cons (qe_op qo_add qe_int (q_own e.f__law_draw hr n_23 rfl (qa_cons (qv (i := 0) n_17 rfl (.inr (.inl rfl))) (qa_cons qe_int qa_nil rfl) rfl) rfl rfl)) (qa_cons (qe_op qo_add qe_int (q_own e.f__law_draw hr n_23 rfl (qa_cons (qv (i := 0) n_17 rfl (.inr (.inl rfl))) (qa_cons qe_int qa_nil rfl) rfl) rfl rfl)) qa_nil rfl) rfl) rfl) rfl) rfl rfl) rfl (.inl rfl))
    (qss_cons (qs_set (i := 2) S__law_chain_table.nd rfl (.inl rfl) (qe_lst qa_nil) rfl (.inl rfl))
    (qss_cons (qs_for PassesOwn.never rfl (qi_r1 rfl e.range (qa_cons (q_len (qa_cons (q_ix hu (qv (i := 1) n_41 rfl (.inl rfl)) (q_str s_4) (fun _ _ => rfl)) qa_nil rfl) rfl rfl rfl e.len) qa_nil rfl) rfl) (qg_name (i := 3) S__law_chain_table.nd rfl (.inl rfl) (.inl rfl)) (qss_cons (qs_set (i := 4) S__law_chain_table.nd rfl (.inl rfl) (qe_tup (qa_cons (q_str s_15) (qa_cons qe_int qa_nil rfl) rfl)) rfl (.inl rfl))
    (qss_cons (qs_set (i := 5) S__law_chain_table.nd rfl (.inl rfl) (qe_op qo_add (qe_sl (q_ix hu (qv (i := 1) n_41 rfl (.inl rfl)) (q_str s_4) (fun _ _ => rfl)) qp_none (qp_some (qe_op qo_add (qv (i := 3) n_28 rfl (.inl rfl)) (q_own e.f__law_draw hr n_23 rfl (qa_cons (qv (i := 0) n_17 rfl (.inr (.inl rfl))) (qa_cons qe_int qa_nil rfl) rfl) rfl rfl)))) (qe_sl (q_ix hu (qv (i := 1) n_41 rfl (.inl rfl)) (q_str s_7) (fun _ _ => rfl)) qp_none (qp_some (q_own e.f__law_draw hr n_23 rfl (qa_cons (qv (i := 0) n_17 rfl (.inr (.inl rfl))) (qa_cons qe_int qa_nil rfl) rfl) rfl rfl)))) rfl (.inl rfl))
    (qss_cons (qs_for PassesOwn.never rfl (qi_any (qe_sl (q_own e.f__law_shuffled hr n_81 rfl (qa_cons (qv (i := 0) n_17 rfl (.inr (.inl rfl))) (qa_cons (qv (i := 5) n_65 rfl (.inl rfl)) qa_nil rfl) rfl) rfl rfl) qp_none (qp_some qe_int))) (qg_name (i := 6) S__law_chain_table.nd rfl (.inl rfl) (.inl rfl)) (qss_cons (qs_set (i := 7) S__law_chain_table.nd rfl (.inl rfl) (qe_op qo_add (qe_tup (qa_cons (qe_op qo_sub (qe_neg qe_int) (q_own e.f__law_draw hr n_23 rfl (qa_cons (qv (i := 0) n_17 rfl (.inr (.inl rfl))) (qa_cons qe_int qa_nil rfl) rfl) rfl rfl)) qa_nil rfl)) (q_own e.f__law_offsets hr n_82 rfl (qa_cons (qv (i := 0) n_17 rfl (.inr (.inl rfl))) (qa_cons (qe_op qo_sub (q_ix hu (qv (i := 1) n_41 rfl (.inl rfl)) (q_str s_6) (fun _ _ => rfl)) qe_int) (qa_cons qe_int qa_nil rfl) rfl) rfl) rfl rfl)) rfl (.inl rfl))
    (qss_one (qs_set (i := 4) S__law_chain_table.nd rfl (.inl rfl) (qe_tup (qa_cons (q_ix hu (qe_lst (qa_cons (q_str s_23) (qa_cons (q_str s_24) (qa_cons (q_str s_25) qa_nil rfl) rfl) rfl)) (q_own e.f__law_draw hr n_23 rfl (qa_cons (qv (i := 0) n_17 rfl (.inr (.inl rfl))) (qa_cons qe_int qa_nil rfl) rfl) rfl rfl) (fun _ _ => rfl)) (qa_cons (qv (i := 4) n_42 rfl (.inl rfl)) (qa_cons (qe_tup (qa_cons (q_str s_0) (qa_cons (qv (i := 6) n_12 rfl (.inl rfl)) (qa_cons (qv (i := 7) n_45 rfl (.inl rfl)) qa_nil rfl) rfl) rfl)) qa_nil rfl) rfl) rfl)) rfl (.inl rfl)))) (fun _ => rfl))
    (qss_one (qs_expr (q_append (qv (i := 2) n_38 rfl (.inl rfl)) (qa_cons (qe_tup (qa_cons (q_ix hu (q_ix hu (qv (i := 1) n_41 rfl (.inl rfl)) (q_str s_4) (fun _ _ => rfl)) (qv (i := 3) n_28 rfl (.inl rfl)) (fun _ _ => rfl)) (qa_cons (q_own e.f__law_rim hr n_34 rfl (qa_cons (qv (i := 0) n_17 rfl (.inr (.inl rfl))) qa_nil rfl) rfl rfl) (qa_cons (qv (i := 4) n_42 rfl (.inl rfl)) qa_nil rfl) rfl) rfl)) qa_nil rfl) rfl rfl rfl rfl rfl) rfl))))) (fun _ => rfl))
    (qss_cons (qs_set (i := 8) S__law_chain_table.nd rfl (.inl rfl) (q_tuple (qa_cons (qe_lc rfl S__law_chain_table.nd (own := [("name", 6)]) (t := (.nm 6)) (qi_any (q_ix hu (qv (i := 1) n_41 rfl (.inl rfl)) (q_str s_7) (fun _ _ => rfl))) (by show blkC N__law_chain_table (defScope s__law_chain_table) _ _ = true; decide +kernel) (by decide) (fun _ _ _ _ _ => (pg_name (i := 6) S__law_chain_table.nd rfl (.inl rfl) (.inr rfl))) (fun _ _ _ _ _ => qts_nil) (fun _ _ _ _ _ => (q_own e.f__law_given_row hr n_83 rfl (qa_cons (qv (i := 0) n_17 rfl (.inr (.inl rfl))) (qa_cons (qv (i := 6) n_12 rfl (.inl rfl)) qa_nil rfl) rfl) rfl rfl)) (fun _ => rfl)) qa_nil rfl) rfl rfl rfl e.tuple) rfl (.inl rfl))
    (qss_one (qs_ret (qe_tup (qa_cons (q_ix hu (qv (i := 1) n_41 rfl (.inl rfl)) (q_str s_5) (fun _ _ => rfl)) (qa_cons (qv (i := 8) n_14 rfl (.inl rfl)) (qa_cons (q_tuple (qa_cons (qv (i := 2) n_38 rfl (.inl rfl)) qa_nil rfl) rfl rfl rfl e.tuple) (qa_cons (qe_tup qa_nil) qa_nil rfl) rfl) rfl) rfl))))))))
theorem d_law (e : Own P w K mg base k c) (hr : Room k (A.deeper (envOfC "law" (defScope s_law) s.heap.objs.size f cdv))) : QSs (cxOf CX0 P w K mg base N_law "law" (defScope s_law) f cdv A outer s H E).nox (defBody s_law) (b_law c) := by
  have hu := G.hu_of hr
  exact (qss_cons (qs_set (i := 1) S_law.nd rfl (.inl rfl) (q_own e.f__law_start hr n_84 rfl (qa_cons (qv (i := 0) n_16 rfl (.inl rfl)) qa_nil rfl) rfl rfl) rfl (.inl rfl))
    (qss_cons (qs_set (i := 2) S_law.nd rfl (.inl rfl) (q_own e.f__law_chain_table hr n_85 rfl (qa_cons (qv (i := 1) n_17 rfl (.inl rfl)) qa_nil rfl) rfl rfl) rfl (.inl rfl))
    (qss_cons (qs_for PassesOwn.never rfl (qi_r1 rfl e.range (qa_cons qe_int qa_nil rfl) rfl) (qg_name (i := 3) S_law.nd rfl (.inl rfl) (.inl rfl)) (qss_cons (qs_set (i := 4) S_law.nd rfl (.inr rfl) (q_own e.f__law_touched_table hr n_86 rfl (qa_cons (qv (i := 1) n_17 rfl (.inl rfl)) (qa_cons (qv (i := 2) n_6 rfl (.inl rfl)) qa_nil rfl) rfl) rfl rfl) rfl (.inl rfl))
    (qss_cons (qs_if (qt_cmp (q_eq hu) (qv (i := 3) n_87 rfl (.inl rfl)) qe_int (nomark _)) (qss_one (qs_set (i := 4) S_law.nd rfl (.inr rfl) (q_own e.f__law_touched_table hr n_86 rfl (qa_cons (qv (i := 1) n_17 rfl (.inl rfl)) (qa_cons (qv (i := 4) n_4 rfl (.inr (.inl rfl))) qa_nil rfl) rfl) rfl rfl) rfl (.inl rfl))) qss_nil)
    (qss_cons (qs_set (i := 5) S_law.nd rfl (.inl rfl) (q_own e.f__law_untouched hr n_88 rfl (qa_cons (qv (i := 2) n_6 rfl (.inl rfl)) (qa_cons (qv (i := 4) n_4 rfl (.inr (.inl rfl))) qa_nil rfl) rfl) rfl rfl) rfl (.inl rfl))
    (qss_cons (qs_if (qt_not (qt_of (q_own e.f__law_same hr n_32 rfl (qa_cons (q_own e.f_untouched hr n_90 rfl (qa_cons (qv (i := 2) n_6 rfl (.inl rfl)) (qa_cons (qv (i := 4) n_4 rfl (.inr (.inl rfl))) qa_nil rfl) rfl) rfl rfl) (qa_cons (qv (i := 5) n_89 rfl (.inl rfl)) qa_nil rfl) rfl) rfl rfl) (fun _ => rfl))) (qss_one (qs_ret qe_bl)) qss_nil)
    (qss_cons (qs_setLc (i := 6) rfl S_law.nd rfl rfl (sw_true rfl rfl rfl (by decide +kernel)) (own := [("row", 10)]) (t := (.nm 10)) (qi_any (q_ix hu (qv (i := 2) n_6 rfl (.inl rfl)) qe_int (fun _ _ => rfl))) (by show blkC N_law (defScope s_law) _ _ = true; decide +kernel) (by decide) (fun _ _ _ _ _ => (pg_name (i := 10) S_law.nd rfl (.inl rfl) (.inr rfl))) (fun _ _ _ _ _ => (qts_one (qt_cmp (qo_in hu) (qv (i := 10) n_5 rfl (.inl rfl)) (q_ix hu (qv (i := 4) n_4 rfl (.inr (.inl rfl))) qe_int (fun _ _ => rfl)) (by with_unfolding_all rfl)))) (fun _ _ _ _ _ => (q_ix hu (qv (i := 10) n_5 rfl (.inl rfl)) qe_int (fun _ _ => rfl))) (fun _ => rfl))
    (qss_cons (qs_set (i := 7) S_law.nd rfl (.inl rfl) (q_own e.f__law_sizes hr n_91 rfl (qa_cons (qv (i := 1) n_17 rfl (.inl rfl)) (qa_cons (q_len (qa_cons (q_ix hu (qv (i := 2) n_6 rfl (.inl rfl)) qe_int (fun _ _ => rfl)) qa_nil rfl) rfl rfl rfl e.len) (qa_cons qe_int qa_nil rfl) rfl) rfl) rfl rfl) rfl (.inl rfl))
    (qss_cons (qs_set (i := 8) S_law.nd rfl (.inl rfl) (q_own e.f__law_fields hr n_92 rfl (qa_cons (qv (i := 1) n_17 rfl (.inl rfl)) (qa_cons (qv (i := 2) n_6 rfl (.inl rfl)) (qa_cons (qv (i := 7) n_46 rfl (.inl rfl)) qa_nil rfl) rfl) rfl) rfl rfl) rfl (.inl rfl))
    (qss_cons (qs_set (i := 9) S_law.nd rfl (.inl rfl) (qe_lst qa_nil) rfl (.inl rfl))
    (qss_cons (qs_for PassesOwn.never rfl (qi_any (q_ix hu (qv (i := 4) n_4 rfl (.inr (.inl rfl))) qe_int (fun _ _ => rfl))) (qg_name (i := 10) S_law.nd rfl (.inr rfl) (.inl rfl)) (qss_one (qs_if (qt_cmp (qo_in hu) (q_ix hu (qv (i := 10) n_5 rfl (.inr (.inl rfl))) qe_int (fun _ _ => rfl)) (qv (i := 6) n_65 rfl (.inl rfl)) (by with_unfolding_all rfl)) (qss_one (qs_expr (q_append (qv (i := 9) n_7 rfl (.inl rfl)) (qa_cons (q_ix hu (qv (i := 8) n_51 rfl (.inl rfl)) (q_index (qe_lc rfl S_law.nd (own := [("one", 16)]) (t := (.nm 16)) (qi_any (q_ix hu (qv (i := 2) n_6 rfl (.inl rfl)) qe_int (fun _ _ => rfl))) (by show blkC N_law (defScope s_law) _ _ = true; decide +kernel) (by decide) (fun _ _ _ _ _ => (pg_name (i := 16) S_law.nd rfl (.inl rfl) (.inr rfl))) (fun _ _ _ _ _ => qts_nil) (fun _ _ _ _ _ => (q_ix hu (qv (i := 16) n_54 rfl (.inl rfl)) qe_int (fun _ _ => rfl))) (fun _ => rfl)) (qa_cons (q_ix hu (qv (i := 10) n_5 rfl (.inr (.inl rfl))) qe_int (fun _ _ => rfl)) qa_nil rfl) rfl rfl rfl rfl hu rfl) (fun _ _ => rfl)) qa_nil rfl) rfl rfl rfl rfl rfl) rfl)) (qss_one (qs_expr (q_append (qv (i := 9) n_7 rfl (.inl rfl)) (qa_cons (q_tuple (qa_cons (qe_lc rfl S_law.nd (own := [("place", 14)]) (t := (.nm 14)) (qi_any (q_own e.f__law_places hr n_66 rfl (qa_cons (qv (i := 7) n_46 rfl (.inl rfl)) qa_nil rfl) rfl rfl)) (by show blkC N_law (defScope s_law) _ _ = true; decide +kernel) (by decide) (fun _ _ _ _ _ => (pg_name (i := 14) S_law.nd rfl (.inl rfl) (.inr rfl))) (fun _ _ _ _ _ => qts_nil) (fun _ _ _ _ _ => (qe_tup (qa_cons (qv (i := 14) n_44 rfl (.inl rfl)) (qa_cons (qe_op qo_add (q_ix hu (qv (i := 10) n_5 rfl (.inr (.inl rfl))) qe_int (fun _ _ => rfl)) qe_int) qa_nil rfl) rfl))) (fun _ => rfl)) qa_nil rfl) rfl rfl rfl e.tuple) qa_nil rfl) rfl rfl rfl rfl rfl) rfl)))) (fun _ => rfl))
    (qss_cons (qs_set (i := 11) S_law.nd rfl (.inl rfl) (q_own e.f__law_told_cells hr n_93 rfl (qa_cons (qv (i := 2) n_6 rfl (.inl rfl)) (qa_cons (qv (i := 7) n_46 rfl (.inl rfl)) (qa_cons (qv (i := 8) n_51 rfl (.inl rfl)) qa_nil rfl) rfl) rfl) rfl rfl) rfl (.inl rfl))
    (qss_cons (qs_set (i := 12) S_law.nd rfl (.inl rfl) (q_own e.f__law_told_cells hr n_93 rfl (qa_cons (qv (i := 4) n_4 rfl (.inr (.inl rfl))) (qa_cons (qv (i := 7) n_46 rfl (.inl rfl)) (qa_cons (q_tuple (qa_cons (qv (i := 9) n_7 rfl (.inl rfl)) qa_nil rfl) rfl rfl rfl e.tuple) qa_nil rfl) rfl) rfl) rfl rfl) rfl (.inl rfl))
    (qss_one (qs_for PassesOwn.never rfl (qi_any (qv (i := 5) n_89 rfl (.inl rfl))) (qg_name (i := 13) S_law.nd rfl (.inl rfl) (.inl rfl)) (qss_one (qs_for PassesOwn.never rfl (qi_any (q_own e.f__law_places hr n_66 rfl (qa_cons (qv (i := 7) n_46 rfl (.inl rfl)) qa_nil rfl) rfl rfl)) (qg_name (i := 14) S_law.nd rfl (.inl rfl) (.inl rfl)) (qss_one (qs_if (qt_cmp (q_ne hu) (q_ix hu (qv (i := 11) n_94 rfl (.inl rfl)) (qe_tup (qa_cons (qv (i := 13) n_12 rfl (.inl rfl)) (qa_cons (qv (i := 14) n_44 rfl (.inl rfl)) qa_nil rfl) rfl)) (fun _ _ => rfl)) (q_ix hu (qv (i := 12) n_95 rfl (.inl rfl)) (qe_tup (qa_cons (qv (i := 13) n_12 rfl (.inl rfl)) (qa_cons (qv (i := 14) n_44 rfl (.inl rfl)) qa_nil rfl) rfl)) (fun _ _ => rfl)) (nomark _)) (qss_one (qs_ret qe_bl)) qss_nil)) (fun _ => rfl))) (fun _ => rfl)))))))))))))) (fun _ => rfl))
    (qss_cons (qs_if (qt_not (qt_of (q_own e.f__law_same hr n_32 rfl (qa_cons (q_own e.f_untouched hr n_90 rfl (qa_cons (qv (i := 2) n_6 rfl (.inl rfl)) (qa_cons (qv (i := 2) n_6 rfl (.inl rfl)) qa_nil rfl) rfl) rfl rfl) (qa_cons (q_tuple (qa_cons (qe_lc rfl S_law.nd (own := [("row", 10)]) (t := (.nm 10)) (qi_any (q_ix hu (qv (i := 2) n_6 rfl (.inl rfl)) qe_int (fun _ _ => rfl))) (by show blkC N_law (defScope s_law) _ _ = true; decide +kernel) (by decide) (fun _ _ _ _ _ => (pg_name (i := 10) S_law.nd rfl (.inl rfl) (.inr rfl))) (fun _ _ _ _ _ => qts_nil) (fun _ _ _ _ _ => (q_ix hu (qv (i := 10) n_5 rfl (.inl rfl)) qe_int (fun _ _ => rfl))) (fun _ => rfl)) qa_nil rfl) rfl rfl rfl e.tuple) qa_nil rfl) rfl) rfl rfl) (fun _ => rfl))) (qss_one (qs_ret qe_bl)) qss_nil)
    (qss_cons (qs_set (i := 15) S_law.nd rfl (.inl rfl) (qe_tup (qa_cons (qe_op qo_add (q_ix hu (qv (i := 2) n_6 rfl (.inl rfl)) qe_int (fun _ _ => rfl)) (qe_tup (qa_cons (q_str s_29) qa_nil rfl))) (qa_cons (qe_tup qa_nil) (qa_cons (qe_tup (qa_cons (qe_tup (qa_cons (q_str s_28) (qa_cons qe_int (qa_cons (qe_tup (qa_cons (q_str s_14) (qa_cons qe_int qa_nil rfl) rfl)) qa_nil rfl) rfl) rfl)) qa_nil rfl)) (qa_cons (qe_tup qa_nil) qa_nil rfl) rfl) rfl) rfl)) rfl (.inl rfl))
    (qss_one (qs_ret (qe_and (q_own e.f__law_same hr n_32 rfl (qa_cons (q_own e.f_untouched hr n_90 rfl (qa_cons (qv (i := 2) n_6 rfl (.inl rfl)) (qa_cons (qv (i := 15) n_13 rfl (.inl rfl)) qa_nil rfl) rfl) rfl rfl) (qa_cons (qe_tup qa_nil) qa_nil rfl) rfl) rfl rfl) (qe_one (q_own e.f__law_same hr n_32 rfl (qa_cons (q_own e.f_untouched hr n_90 rfl (qa_cons (qv (i := 15) n_13 rfl (.inl rfl)) (qa_cons (qv (i := 15) n_13 rfl (.inl rfl)) qa_nil rfl) rfl) rfl rfl) (qa_cons (qe_tup (qa_cons (q_str s_28) qa_nil rfl)) qa_nil rfl) rfl) rfl rfl))))))))))
end
def c0 : Cs := ⟨fun _ _ _ => False, fun _ _ _ => False, fun _ _ _ => False, fun _ _ _ => False, fun _ _ _ => False, fun _ _ _ => False, fun _ _ _ => False, fun _ _ _ => False, fun _ _ _ => False, fun _ _ _ => False, fun _ _ _ => False, fun _ _ _ => False, fun _ _ _ => False, fun _ _ _ => False, fun _ _ _ => False, fun _ _ _ => False, fun _ _ _ => False, fun _ _ _ => False, fun _ _ _ => False, fun _ _ _ => False, fun _ _ _ => False, fun _ _ _ => False, fun _ _ _ => False, fun _ _ _ => False, fun _ _ _ => False, fun _ _ _ => False, fun _ _ _ => False, fun _ _ _ => False, fun _ _ _ => False, fun _ _ _ => False, fun _ _ _ => False, fun _ _ _ => False⟩
def cS (c : Cs) : Cs := ⟨zFn 3 1 (b_references_in c),
  zFn 6 2 (b_same_rules c),
  zFn 9 2 (b_untouched c),
  zFn 1 1 (b__law_start c),
  zFn 5 2 (b__law_draw c),
  zFn 4 2 (b__law_shuffled c),
  zFn 7 2 (b__law_words c),
  zFn 1 1 (b__law_is_int c),
  zFn 3 2 (b__law_same c),
  zFn 4 3 (b__law_offsets c),
  zFn 1 1 (b__law_rim c),
  zFn 5 2 (b__law_given_row c),
  zFn 6 4 (b__law_table_world c),
  zFn 3 1 (b__law_refs c),
  zFn 3 2 (b__law_at_offsets c),
  zFn 3 2 (b__law_in_box c),
  zFn 6 1 (b__law_places c),
  zFn 3 2 (b__law_row_named c),
  zFn 7 4 (b__law_given_value c),
  zFn 3 3 (b__law_holds_sign c),
  zFn 9 3 (b__law_worth_at c),
  zFn 11 4 (b__law_needs_of c),
  zFn 14 3 (b__law_told_cells c),
  zFn 4 3 (b__law_sizes c),
  zFn 11 3 (b__law_fields c),
  zFn 3 1 (b__law_numbers_in c),
  zFn 6 2 (b__law_token_count c),
  zFn 4 2 (b__law_can_be_read c),
  zFn 9 2 (b__law_untouched c),
  zFn 11 2 (b__law_touched_table c),
  zFn 9 1 (b__law_chain_table c),
  zFn 17 1 (b_law c)⟩
def wC : Nat → Cs
  | 0 => c0
  | k + 1 => cS (wC k)
/-- what the head tells -/
structure Bs (K : PySem.W.Frag) (mg : Str → Option Value) : Prop where
  len : mg "len" = none
  abs : mg "abs" = none
  sum : mg "sum" = none
  all : mg "all" = none
  max : mg "max" = none
  min : mg "min" = none
  sorted : mg "sorted" = none
  int : mg "int" = none
  tuple : mg "tuple" = none
  list : mg "list" = none
  range : mg "range" = none
  isinstance : mg "isinstance" = none
  str : mg "str" = none
  bool : mg "bool" = none
  f_references_in : FB K mg "references_in" s_references_in ["expression"]
  f_same_rules : FB K mg "same_rules" s_same_rules ["old", "new"]
  f_untouched : FB K mg "untouched" s_untouched ["old", "new"]
  f__law_start : FB K mg "_law_start" s__law_start ["script"]
  f__law_draw : FB K mg "_law_draw" s__law_draw ["state", "most"]
  f__law_shuffled : FB K mg "_law_shuffled" s__law_shuffled ["state", "items"]
  f__law_words : FB K mg "_law_words" s__law_words ["state", "many"]
  f__law_is_int : FB K mg "_law_is_int" s__law_is_int ["x"]
  f__law_same : FB K mg "_law_same" s__law_same ["x", "y"]
  f__law_offsets : FB K mg "_law_offsets" s__law_offsets ["state", "many", "most"]
  f__law_rim : FB K mg "_law_rim" s__law_rim ["state"]
  f__law_given_row : FB K mg "_law_given_row" s__law_given_row ["state", "name"]
  f__law_table_world : FB K mg "_law_table_world" s__law_table_world ["state", "many", "rules", "givens"]
  f__law_refs : FB K mg "_law_refs" s__law_refs ["e"]
  f__law_at_offsets : FB K mg "_law_at_offsets" s__law_at_offsets ["place", "offsets"]
  f__law_in_box : FB K mg "_law_in_box" s__law_in_box ["sizes", "place"]
  f__law_places : FB K mg "_law_places" s__law_places ["sizes"]
  f__law_row_named : FB K mg "_law_row_named" s__law_row_named ["table", "name"]
  f__law_given_value : FB K mg "_law_given_value" s__law_given_value ["table", "fields", "name", "place"]
  f__law_holds_sign : FB K mg "_law_holds_sign" s__law_holds_sign ["sign", "one", "other"]
  f__law_worth_at : FB K mg "_law_worth_at" s__law_worth_at ["world", "e", "place"]
  f__law_needs_of : FB K mg "_law_needs_of" s__law_needs_of ["table", "sizes", "name", "place"]
  f__law_told_cells : FB K mg "_law_told_cells" s__law_told_cells ["table", "sizes", "fields"]
  f__law_sizes : FB K mg "_law_sizes" s__law_sizes ["state", "many", "most"]
  f__law_fields : FB K mg "_law_fields" s__law_fields ["state", "table", "sizes"]
  f__law_numbers_in : FB K mg "_law_numbers_in" s__law_numbers_in ["e"]
  f__law_token_count : FB K mg "_law_token_count" s__law_token_count ["over", "e"]
  f__law_can_be_read : FB K mg "_law_can_be_read" s__law_can_be_read ["over", "row"]
  f__law_untouched : FB K mg "_law_untouched" s__law_untouched ["old", "new"]
  f__law_touched_table : FB K mg "_law_touched_table" s__law_touched_table ["state", "table"]
  f__law_chain_table : FB K mg "_law_chain_table" s__law_chain_table ["state"]
  f_law : FB K mg "law" s_law ["script"]
theorem own {P : Program} {w : World} {K : PySem.W.Frag} {mg : Str → Option Value} {base : Heap} (b : Bs K mg) : ∀ k, Own P w K mg base k (wC k)
  | 0 => {
    len := b.len,
    abs := b.abs,
    sum := b.sum,
    all := b.all,
    max := b.max,
    min := b.min,
    sorted := b.sorted,
    int := b.int,
    tuple := b.tuple,
    list := b.list,
    range := b.range,
    isinstance := b.isinstance,
    str := b.str,
    bool := b.bool,
    f_references_in := qfd0 b.f_references_in,
    f_same_rules := qfd0 b.f_same_rules,
    f_untouched := qfd0 b.f_untouched,
    f__law_start := qfd0 b.f__law_start,
    f__law_draw := qfd0 b.f__law_draw,
    f__law_shuffled := qfd0 b.f__law_shuffled,
    f__law_words := qfd0 b.f__law_words,
    f__law_is_int := qfd0 b.f__law_is_int,
    f__law_same := qfd0 b.f__law_same,
    f__law_offsets := qfd0 b.f__law_offsets,
    f__law_rim := qfd0 b.f__law_rim,
    f__law_given_row := qfd0 b.f__law_given_row,
    f__law_table_world := qfd0 b.f__law_table_world,
    f__law_refs := qfd0 b.f__law_refs,
    f__law_at_offsets := qfd0 b.f__law_at_offsets,
    f__law_in_box := qfd0 b.f__law_in_box,
    f__law_places := qfd0 b.f__law_places,
    f__law_row_named := qfd0 b.f__law_row_named,
    f__law_given_value := qfd0 b.f__law_given_value,
    f__law_holds_sign := qfd0 b.f__law_holds_sign,
    f__law_worth_at := qfd0 b.f__law_worth_at,
    f__law_needs_of := qfd0 b.f__law_needs_of,
    f__law_told_cells := qfd0 b.f__law_told_cells,
    f__law_sizes := qfd0 b.f__law_sizes,
    f__law_fields := qfd0 b.f__law_fields,
    f__law_numbers_in := qfd0 b.f__law_numbers_in,
    f__law_token_count := qfd0 b.f__law_token_count,
    f__law_can_be_read := qfd0 b.f__law_can_be_read,
    f__law_untouched := qfd0 b.f__law_untouched,
    f__law_touched_table := qfd0 b.f__law_touched_table,
    f__law_chain_table := qfd0 b.f__law_chain_table,
    f_law := qfd0 b.f_law }
  | k + 1 =>
    have ih := own b k
    {
    len := b.len,
    abs := b.abs,
    sum := b.sum,
    all := b.all,
    max := b.max,
    min := b.min,
    sorted := b.sorted,
    int := b.int,
    tuple := b.tuple,
    list := b.list,
    range := b.range,
    isinstance := b.isinstance,
    str := b.str,
    bool := b.bool,
    f_references_in := qfd b.f_references_in S_references_in rfl rfl fun f cdv A outer s H E hr => d_references_in ih hr,
    f_same_rules := qfd b.f_same_rules S_same_rules rfl rfl fun f cdv A outer s H E hr => d_same_rules ih hr,
    f_untouched := qfd b.f_untouched S_untouched rfl rfl fun f cdv A outer s H E hr => d_untouched ih hr,
    f__law_start := qfd b.f__law_start S__law_start rfl rfl fun f cdv A outer s H E hr => d__law_start ih hr,
    f__law_draw := qfd b.f__law_draw S__law_draw rfl rfl fun f cdv A outer s H E hr => d__law_draw ih hr,
    f__law_shuffled := qfd b.f__law_shuffled S__law_shuffled rfl rfl fun f cdv A outer s H E hr => d__law_shuffled ih hr,
    f__law_words := qfd b.f__law_words S__law_words rfl rfl fun f cdv A outer s H E hr => d__law_words ih hr,
    f__law_is_int := qfd b.f__law_is_int S__law_is_int rfl rfl fun f cdv A outer s H E hr => d__law_is_int ih hr,
    f__law_same := qfd b.f__law_same S__law_same rfl rfl fun f cdv A outer s H E hr => d__law_same ih hr,
    f__law_offsets := qfd b.f__law_offsets S__law_offsets rfl rfl fun f cdv A outer s H E hr => d__law_offsets ih hr,
    f__law_rim := qfd b.f__law_rim S__law_rim rfl rfl fun f cdv A outer s H E hr => d__law_rim ih hr,
    f__law_given_row := qfd b.f__law_given_row S__law_given_row rfl rfl fun f cdv A outer s H E hr => d__law_given_row ih hr,
    f__law_table_world := qfd b.f__law_table_world S__law_table_world rfl rfl fun f cdv A outer s H E hr => d__law_table_world ih hr,
    f__law_refs := qfd b.f__law_refs S__law_refs rfl rfl fun f cdv A outer s H E hr => d__law_refs ih hr,
    f__law_at_offsets := qfd b.f__law_at_offsets S__law_at_offsets rfl rfl fun f cdv A outer s H E hr => d__law_at_offsets ih hr,
    f__law_in_box := qfd b.f__law_in_box S__law_in_box rfl rfl fun f cdv A outer s H E hr => d__law_in_box ih hr,
    f__law_places := qfd b.f__law_places S__law_places rfl rfl fun f cdv A outer s H E hr => d__law_places ih hr,
    f__law_row_named := qfd b.f__law_row_named S__law_row_named rfl rfl fun f cdv A outer s H E hr => d__law_row_named ih hr,
    f__law_given_value := qfd b.f__law_given_value S__law_given_value rfl rfl fun f cdv A outer s H E hr => d__law_given_value ih hr,
    f__law_holds_sign := qfd b.f__law_holds_sign S__law_holds_sign rfl rfl fun f cdv A outer s H E hr => d__law_holds_sign ih hr,
    f__law_worth_at := qfd b.f__law_worth_at S__law_worth_at rfl rfl fun f cdv A outer s H E hr => d__law_worth_at ih hr,
    f__law_needs_of := qfd b.f__law_needs_of S__law_needs_of rfl rfl fun f cdv A outer s H E hr => d__law_needs_of ih hr,
    f__law_told_cells := qfd b.f__law_told_cells S__law_told_cells rfl rfl fun f cdv A outer s H E hr => d__law_told_cells ih hr,
    f__law_sizes := qfd b.f__law_sizes S__law_sizes rfl rfl fun f cdv A outer s H E hr => d__law_sizes ih hr,
    f__law_fields := qfd b.f__law_fields S__law_fields rfl rfl fun f cdv A outer s H E hr => d__law_fields ih hr,
    f__law_numbers_in := qfd b.f__law_numbers_in S__law_numbers_in rfl rfl fun f cdv A outer s H E hr => d__law_numbers_in ih hr,
    f__law_token_count := qfd b.f__law_token_count S__law_token_count rfl rfl fun f cdv A outer s H E hr => d__law_token_count ih hr,
    f__law_can_be_read := qfd b.f__law_can_be_read S__law_can_be_read rfl rfl fun f cdv A outer s H E hr => d__law_can_be_read ih hr,
    f__law_untouched := qfd b.f__law_untouched S__law_untouched rfl rfl fun f cdv A outer s H E hr => d__law_untouched ih hr,
    f__law_touched_table := qfd b.f__law_touched_table S__law_touched_table rfl rfl fun f cdv A outer s H E hr => d__law_touched_table ih hr,
    f__law_chain_table := qfd b.f__law_chain_table S__law_chain_table rfl rfl fun f cdv A outer s H E hr => d__law_chain_table ih hr,
    f_law := qfd b.f_law S_law rfl rfl fun f cdv A outer s H E hr => d_law ih hr }
/-! ### the head -/
def fn0 : List He.DefD := [⟨("references_in", none), "references_in", "references_in", defArgs s_references_in, defBody s_references_in, defScope s_references_in, [], []⟩,
  ⟨("same_rules", none), "same_rules", "same_rules", defArgs s_same_rules, defBody s_same_rules, defScope s_same_rules, [], []⟩,
  ⟨("untouched", none), "untouched", "untouched", defArgs s_untouched, defBody s_untouched, defScope s_untouched, [], []⟩,
  ⟨("_law_start", none), "_law_start", "_law_start", defArgs s__law_start, defBody s__law_start, defScope s__law_start, [], []⟩,
  ⟨("_law_draw", none), "_law_draw", "_law_draw", defArgs s__law_draw, defBody s__law_draw, defScope s__law_draw, [], []⟩,
  ⟨("_law_shuffled", none), "_law_shuffled", "_law_shuffled", defArgs s__law_shuffled, defBody s__law_shuffled, defScope s__law_shuffled, [], []⟩,
  ⟨("_law_words", none), "_law_words", "_law_words", defArgs s__law_words, defBody s__law_words, defScope s__law_words, [], []⟩,
  ⟨("_law_is_int", none), "_law_is_int", "_law_is_int", defArgs s__law_is_int, defBody s__law_is_int, defScope s__law_is_int, [], []⟩,
  ⟨("_law_same", none), "_law_same", "_law_same", defArgs s__law_same, defBody s__law_same, defScope s__law_same, [], []⟩,
  ⟨("_law_offsets", none), "_law_offsets", "_law_offsets", defArgs s__law_offsets, defBody s__law_offsets, defScope s__law_offsets, [], []⟩,
  ⟨("_law_rim", none), "_law_rim", "_law_rim", defArgs s__law_rim, defBody s__law_rim, defScope s__law_rim, [], []⟩,
  ⟨("_law_given_row", none), "_law_given_row", "_law_given_row", defArgs s__law_given_row, defBody s__law_given_row, defScope s__law_given_row, [], []⟩,
  ⟨("_law_table_world", none), "_law_table_world", "_law_table_world", defArgs s__law_table_world, defBody s__law_table_world, defScope s__law_table_world, [], []⟩,
  ⟨("_law_refs", none), "_law_refs", "_law_refs", defArgs s__law_refs, defBody s__law_refs, defScope s__law_refs, [], []⟩,
  ⟨("_law_at_offsets", none), "_law_at_offsets", "_law_at_offsets", defArgs s__law_at_offsets, defBody s__law_at_offsets, defScope s__law_at_offsets, [], []⟩,
  ⟨("_law_in_box", none), "_law_in_box", "_law_in_box", defArgs s__law_in_box, defBody s__law_in_box, defScope s__law_in_box, [], []⟩,
  ⟨("_law_places", none), "_law_places", "_law_places", defArgs s__law_places, defBody s__law_places, defScope s__law_places, [], []⟩,
  ⟨("_law_row_named", none), "_law_row_named", "_law_row_named", defArgs s__law_row_named, defBody s__law_row_named, defScope s__law_row_named, [], []⟩,
  ⟨("_law_given_value", none), "_law_given_value", "_law_given_value", defArgs s__law_given_value, defBody s__law_given_value, defScope s__law_given_value, [], []⟩,
  ⟨("_law_holds_sign", none), "_law_holds_sign", "_law_holds_sign", defArgs s__law_holds_sign, defBody s__law_holds_sign, defScope s__law_holds_sign, [], []⟩,
  ⟨("_law_worth_at", none), "_law_worth_at", "_law_worth_at", defArgs s__law_worth_at, defBody s__law_worth_at, defScope s__law_worth_at, [], []⟩,
  ⟨("_law_needs_of", none), "_law_needs_of", "_law_needs_of", defArgs s__law_needs_of, defBody s__law_needs_of, defScope s__law_needs_of, [], []⟩,
  ⟨("_law_told_cells", none), "_law_told_cells", "_law_told_cells", defArgs s__law_told_cells, defBody s__law_told_cells, defScope s__law_told_cells, [], []⟩,
  ⟨("_law_sizes", none), "_law_sizes", "_law_sizes", defArgs s__law_sizes, defBody s__law_sizes, defScope s__law_sizes, [], []⟩,
  ⟨("_law_fields", none), "_law_fields", "_law_fields", defArgs s__law_fields, defBody s__law_fields, defScope s__law_fields, [], []⟩,
  ⟨("_law_numbers_in", none), "_law_numbers_in", "_law_numbers_in", defArgs s__law_numbers_in, defBody s__law_numbers_in, defScope s__law_numbers_in, [], []⟩,
  ⟨("_law_token_count", none), "_law_token_count", "_law_token_count", defArgs s__law_token_count, defBody s__law_token_count, defScope s__law_token_count, [], []⟩,
  ⟨("_law_can_be_read", none), "_law_can_be_read", "_law_can_be_read", defArgs s__law_can_be_read, defBody s__law_can_be_read, defScope s__law_can_be_read, [], []⟩,
  ⟨("_law_untouched", none), "_law_untouched", "_law_untouched", defArgs s__law_untouched, defBody s__law_untouched, defScope s__law_untouched, [], []⟩,
  ⟨("_law_touched_table", none), "_law_touched_table", "_law_touched_table", defArgs s__law_touched_table, defBody s__law_touched_table, defScope s__law_touched_table, [], []⟩]
def fn1 : List He.DefD := [⟨("_law_chain_table", none), "_law_chain_table", "_law_chain_table", defArgs s__law_chain_table, defBody s__law_chain_table, defScope s__law_chain_table, [], []⟩,
  ⟨("law", none), "law", "law", defArgs s_law, defBody s_law, defScope s_law, [], []⟩]
def fn : List He.DefD := fn0 ++ fn1
def fa0 : List He.Fa := [.glo "references_in",
  .glo "same_rules",
  .glo "untouched",
  .glo "_law_start",
  .glo "_law_draw",
  .glo "_law_shuffled",
  .glo "_law_words",
  .glo "_law_is_int",
  .glo "_law_same",
  .glo "_law_offsets",
  .glo "_law_rim",
  .glo "_law_given_row",
  .glo "_law_table_world",
  .glo "_law_refs",
  .glo "_law_at_offsets",
  .glo "_law_in_box",
  .glo "_law_places",
  .glo "_law_row_named",
  .glo "_law_given_value",
  .glo "_law_holds_sign",
  .glo "_law_worth_at",
  .glo "_law_needs_of",
  .glo "_law_told_cells",
  .glo "_law_sizes",
  .glo "_law_fields",
  .glo "_law_numbers_in",
  .glo "_law_token_count",
  .glo "_law_can_be_read",
  .glo "_law_untouched",
  .glo "_law_touched_table"]
def fa1 : List He.Fa := [.glo "_law_chain_table",
  .glo "law",
  .free "len",
  .free "abs",
  .free "sum",
  .free "all",
  .free "max",
  .free "min",
  .free "sorted",
  .free "int",
  .free "tuple",
  .free "list",
  .free "range",
  .free "isinstance",
  .free "str",
  .free "bool"]
def fa : List He.Fa := fa0 ++ fa1
def ex (K : PySem.W.Frag) : Bool := true
def loose0 : List PySem.Str := ["references_in",
  "same_rules",
  "untouched",
  "_law_start",
  "_law_draw",
  "_law_shuffled",
  "_law_words",
  "_law_is_int",
  "_law_same",
  "_law_offsets",
  "_law_rim",
  "_law_given_row",
  "_law_table_world",
  "_law_refs",
  "_law_at_offsets",
  "_law_in_box",
  "_law_places",
  "_law_row_named",
  "_law_given_value",
  "_law_holds_sign",
  "_law_worth_at",
  "_law_needs_of",
  "_law_told_cells",
  "_law_sizes",
  "_law_fields",
  "_law_numbers_in",
  "_law_token_count",
  "_law_can_be_read",
  "_law_untouched",
  "_law_touched_table"]
def loose1 : List PySem.Str := ["_law_chain_table"]
def loose : List PySem.Str := loose0 ++ loose1
abbrev R : PySem.W.OpenRow := PySem.W.OpenLaw.row PySem.Challenge.rw_toldinwaves_k78_untouched_rules
abbrev hk : PySem.W.Hook := He.hookX 4 fa fn [] [] ex
def ob (s : PySem.W.SharedT) : He.AlX := He.obsX 4 fa fn [] [] ex (HandSHeadRun.getT s)
theorem ob_eq (s : PySem.W.SharedT) : ob s = hk.obs s.abs := He.obsX_eq (HandSHeadRun.getT_eq s)
set_option maxHeartbeats 0 in
theorem run (w : World) : HandSHeadRun.RunEq R (PySem.W.view R.prog [34]) hk ob 4000 loose w := by
  intro os
  kernel_rfl
theorem facts {w : World} {K : PySem.W.Frag} {h : Heap} {mg : Str → Option Value} (X : K.In h) (G : h.Ns mainGlobals mg) (c : He.SaysX fa fn [] [] ex w h K) : Bs K mg := by
  exact {
    len := He.free_ok X G (c.t.d.fact 32 (f := .free "len") rfl),
    abs := He.free_ok X G (c.t.d.fact 33 (f := .free "abs") rfl),
    sum := He.free_ok X G (c.t.d.fact 34 (f := .free "sum") rfl),
    all := He.free_ok X G (c.t.d.fact 35 (f := .free "all") rfl),
    max := He.free_ok X G (c.t.d.fact 36 (f := .free "max") rfl),
    min := He.free_ok X G (c.t.d.fact 37 (f := .free "min") rfl),
    sorted := He.free_ok X G (c.t.d.fact 38 (f := .free "sorted") rfl),
    int := He.free_ok X G (c.t.d.fact 39 (f := .free "int") rfl),
    tuple := He.free_ok X G (c.t.d.fact 40 (f := .free "tuple") rfl),
    list := He.free_ok X G (c.t.d.fact 41 (f := .free "list") rfl),
    range := He.free_ok X G (c.t.d.fact 42 (f := .free "range") rfl),
    isinstance := He.free_ok X G (c.t.d.fact 43 (f := .free "isinstance") rfl),
    str := He.free_ok X G (c.t.d.fact 44 (f := .free "str") rfl),
    bool := He.free_ok X G (c.t.d.fact 45 (f := .free "bool") rfl),
    f_references_in := by
      obtain ⟨fd, F⟩ := c.t.d.def_ 0 (d := ⟨("references_in", none), "references_in", "references_in", defArgs s_references_in, defBody s_references_in, defScope s_references_in, [], []⟩) rfl
      exact ⟨_, fd, F, He.glo_ok X G (c.t.d.fact 0 (f := .glo "references_in") rfl), FunD.bindsA (ps := ["expression"]) F fun _ _ _ _ _ _ us hl => match us, hl with | [_], _ => rfl⟩,
    f_same_rules := by
      obtain ⟨fd, F⟩ := c.t.d.def_ 1 (d := ⟨("same_rules", none), "same_rules", "same_rules", defArgs s_same_rules, defBody s_same_rules, defScope s_same_rules, [], []⟩) rfl
      exact ⟨_, fd, F, He.glo_ok X G (c.t.d.fact 1 (f := .glo "same_rules") rfl), FunD.bindsA (ps := ["old", "new"]) F fun _ _ _ _ _ _ us hl => match us, hl with | [_, _], _ => rfl⟩,
    f_untouched := by
      obtain ⟨fd, F⟩ := c.t.d.def_ 2 (d := ⟨("untouched", none), "untouched", "untouched", defArgs s_untouched, defBody s_untouched, defScope s_untouched, [], []⟩) rfl
      exact ⟨_, fd, F, He.glo_ok X G (c.t.d.fact 2 (f := .glo "untouched") rfl), FunD.bindsA (ps := ["old", "new"]) F fun _ _ _ _ _ _ us hl => match us, hl with | [_, _], _ => rfl⟩,
    f__law_start := by
      obtain ⟨fd, F⟩ := c.t.d.def_ 3 (d := ⟨("_law_start", none), "_law_start", "_law_start", defArgs s__law_start, defBody s__law_start, defScope s__law_start, [], []⟩) rfl
      exact ⟨_, fd, F, He.glo_ok X G (c.t.d.fact 3 (f := .glo "_law_start") rfl), FunD.bindsA (ps := ["script"]) F fun _ _ _ _ _ _ us hl => match us, hl with | [_], _ => rfl⟩,
    f__law_draw := by
      obtain ⟨fd, F⟩ := c.t.d.def_ 4 (d := ⟨("_law_draw", none), "_law_draw", "_law_draw", defArgs s__law_draw, defBody s__law_draw, defScope s__law_draw, [], []⟩) rfl
      exact ⟨_, fd, F, He.glo_ok X G (c.t.d.fact 4 (f := .glo "_law_draw") rfl), FunD.bindsA (ps := ["state", "most"]) F fun _ _ _ _ _ _ us hl => match us, hl with | [_, _], _ => rfl⟩,
    f__law_shuffled := by
      obtain ⟨fd, F⟩ := c.t.d.def_ 5 (d := ⟨("_law_shuffled", none), "_law_shuffled", "_law_shuffled", defArgs s__law_shuffled, defBody s__law_shuffled, defScope s__law_shuffled, [], []⟩) rfl
      exact ⟨_, fd, F, He.glo_ok X G (c.t.d.fact 5 (f := .glo "_law_shuffled") rfl), FunD.bindsA (ps := ["state", "items"]) F fun _ _ _ _ _ _ us hl => match us, hl with | [_, _], _ => rfl⟩,
    f__law_words := by
      obtain ⟨fd, F⟩ := c.t.d.def_ 6 (d := ⟨("_law_words", none), "_law_words", "_law_words", defArgs s__law_words, defBody s__law_words, defScope s__law_words, [], []⟩) rfl
      exact ⟨_, fd, F, He.glo_ok X G (c.t.d.fact 6 (f := .glo "_law_words") rfl), FunD.bindsA (ps := ["state", "many"]) F fun _ _ _ _ _ _ us hl => match us, hl with | [_, _], _ => rfl⟩,
    f__law_is_int := by
      obtain ⟨fd, F⟩ := c.t.d.def_ 7 (d := ⟨("_law_is_int", none), "_law_is_int", "_law_is_int", defArgs s__law_is_int, defBody s__law_is_int, defScope s__law_is_int, [], []⟩) rfl
      exact ⟨_, fd, F, He.glo_ok X G (c.t.d.fact 7 (f := .glo "_law_is_int") rfl), FunD.bindsA (ps := ["x"]) F fun _ _ _ _ _ _ us hl => match us, hl with | [_], _ => rfl⟩,
    f__law_same := by
      obtain ⟨fd, F⟩ := c.t.d.def_ 8 (d := ⟨("_law_same", none), "_law_same", "_law_same", defArgs s__law_same, defBody s__law_same, defScope s__law_same, [], []⟩) rfl
      exact ⟨_, fd, F, He.glo_ok X G (c.t.d.fact 8 (f := .glo "_law_same") rfl), FunD.bindsA (ps := ["x", "y"]) F fun _ _ _ _ _ _ us hl => match us, hl with | [_, _], _ => rfl⟩,
    f__law_offsets := by
      obtain ⟨fd, F⟩ := c.t.d.def_ 9 (d := ⟨("_law_offsets", none), "_law_offsets", "_law_offsets", defArgs s__law_offsets, defBody s__law_offsets, defScope s__law_offsets, [], []⟩) rfl
      exact ⟨_, fd, F, He.glo_ok X G (c.t.d.fact 9 (f := .glo "_law_offsets") rfl), FunD.bindsA (ps := ["state", "many", "most"]) F fun _ _ _ _ _ _ us hl => match us, hl with | [_, _, _], _ => rfl⟩,
    f__law_rim := by
      obtain ⟨fd, F⟩ := c.t.d.def_ 10 (d := ⟨("_law_rim", none), "_law_rim", "_law_rim", defArgs s__law_rim, defBody s__law_rim, defScope s__law_rim, [], []⟩) rfl
      exact ⟨_, fd, F, He.glo_ok X G (c.t.d.fact 10 (f := .glo "_law_rim") rfl), FunD.bindsA (ps := ["state"]) F fun _ _ _ _ _ _ us hl => match us, hl with | [_], _ => rfl⟩,
    f__law_given_row := by
      obtain ⟨fd, F⟩ := c.t.d.def_ 11 (d := ⟨("_law_given_row", none), "_law_given_row", "_law_given_row", defArgs s__law_given_row, defBody s__law_given_row, defScope s__law_given_row, [], []⟩) rfl
      exact ⟨_, fd, F, He.glo_ok X G (c.t.d.fact 11 (f := .glo "_law_given_row") rfl), FunD.bindsA (ps := ["state", "name"]) F fun _ _ _ _ _ _ us hl => match us, hl with | [_, _], _ => rfl⟩,
    f__law_table_world := by
      obtain ⟨fd, F⟩ := c.t.d.def_ 12 (d := ⟨("_law_table_world", none), "_law_table_world", "_law_table_world", defArgs s__law_table_world, defBody s__law_table_world, defScope s__law_table_world, [], []⟩) rfl
      exact ⟨_, fd, F, He.glo_ok X G (c.t.d.fact 12 (f := .glo "_law_table_world") rfl), FunD.bindsA (ps := ["state", "many", "rules", "givens"]) F fun _ _ _ _ _ _ us hl => match us, hl with | [_, _, _, _], _ => rfl⟩,
    f__law_refs := by
      obtain ⟨fd, F⟩ := c.t.d.def_ 13 (d := ⟨("_law_refs", none), "_law_refs", "_law_refs", defArgs s__law_refs, defBody s__law_refs, defScope s__law_refs, [], []⟩) rfl
      exact ⟨_, fd, F, He.glo_ok X G (c.t.d.fact 13 (f := .glo "_law_refs") rfl), FunD.bindsA (ps := ["e"]) F fun _ _ _ _ _ _ us hl => match us, hl with | [_], _ => rfl⟩,
    f__law_at_offsets := by
      obtain ⟨fd, F⟩ := c.t.d.def_ 14 (d := ⟨("_law_at_offsets", none), "_law_at_offsets", "_law_at_offsets", defArgs s__law_at_offsets, defBody s__law_at_offsets, defScope s__law_at_offsets, [], []⟩) rfl
      exact ⟨_, fd, F, He.glo_ok X G (c.t.d.fact 14 (f := .glo "_law_at_offsets") rfl), FunD.bindsA (ps := ["place", "offsets"]) F fun _ _ _ _ _ _ us hl => match us, hl with | [_, _], _ => rfl⟩,
    f__law_in_box := by
      obtain ⟨fd, F⟩ := c.t.d.def_ 15 (d := ⟨("_law_in_box", none), "_law_in_box", "_law_in_box", defArgs s__law_in_box, defBody s__law_in_box, defScope s__law_in_box, [], []⟩) rfl
      exact ⟨_, fd, F, He.glo_ok X G (c.t.d.fact 15 (f := .glo "_law_in_box") rfl), FunD.bindsA (ps := ["sizes", "place"]) F fun _ _ _ _ _ _ us hl => match us, hl with | [_, _], _ => rfl⟩,
    f__law_places := by
      obtain ⟨fd, F⟩ := c.t.d.def_ 16 (d := ⟨("_law_places", none), "_law_places", "_law_places", defArgs s__law_places, defBody s__law_places, defScope s__law_places, [], []⟩) rfl
      exact ⟨_, fd, F, He.glo_ok X G (c.t.d.fact 16 (f := .glo "_law_places") rfl), FunD.bindsA (ps := ["sizes"]) F fun _ _ _ _ _ _ us hl => match us, hl with | [_], _ => rfl⟩,
    f__law_row_named := by
      obtain ⟨fd, F⟩ := c.t.d.def_ 17 (d := ⟨("_law_row_named", none), "_law_row_named", "_law_row_named", defArgs s__law_row_named, defBody s__law_row_named, defScope s__law_row_named, [], []⟩) rfl
      exact ⟨_, fd, F, He.glo_ok X G (c.t.d.fact 17 (f := .glo "_law_row_named") rfl), FunD.bindsA (ps := ["table", "name"]) F fun _ _ _ _ _ _ us hl => match us, hl with | [_, _], _ => rfl⟩,
    f__law_given_value := by
      obtain ⟨fd, F⟩ := c.t.d.def_ 18 (d := ⟨("_law_given_value", none), "_law_given_value", "_law_given_value", defArgs s__law_given_value, defBody s__law_given_value, defScope s__law_given_value, [], []⟩) rfl
      exact ⟨_, fd, F, He.glo_ok X G (c.t.d.fact 18 (f := .glo "_law_given_value") rfl), FunD.bindsA (ps := ["table", "fields", "name", "place"]) F fun _ _ _ _ _ _ us hl => match us, hl with | [_, _, _, _], _ => rfl⟩,
    f__law_holds_sign := by
      obtain ⟨fd, F⟩ := c.t.d.def_ 19 (d := ⟨("_law_holds_sign", none), "_law_holds_sign", "_law_holds_sign", defArgs s__law_holds_sign, defBody s__law_holds_sign, defScope s__law_holds_sign, [], []⟩) rfl
      exact ⟨_, fd, F, He.glo_ok X G (c.t.d.fact 19 (f := .glo "_law_holds_sign") rfl), FunD.bindsA (ps := ["sign", "one", "other"]) F fun _ _ _ _ _ _ us hl => match us, hl with | [_, _, _], _ => rfl⟩,
    f__law_worth_at := by
      obtain ⟨fd, F⟩ := c.t.d.def_ 20 (d := ⟨("_law_worth_at", none), "_law_worth_at", "_law_worth_at", defArgs s__law_worth_at, defBody s__law_worth_at, defScope s__law_worth_at, [], []⟩) rfl
      exact ⟨_, fd, F, He.glo_ok X G (c.t.d.fact 20 (f := .glo "_law_worth_at") rfl), FunD.bindsA (ps := ["world", "e", "place"]) F fun _ _ _ _ _ _ us hl => match us, hl with | [_, _, _], _ => rfl⟩,
    f__law_needs_of := by
      obtain ⟨fd, F⟩ := c.t.d.def_ 21 (d := ⟨("_law_needs_of", none), "_law_needs_of", "_law_needs_of", defArgs s__law_needs_of, defBody s__law_needs_of, defScope s__law_needs_of, [], []⟩) rfl
      exact ⟨_, fd, F, He.glo_ok X G (c.t.d.fact 21 (f := .glo "_law_needs_of") rfl), FunD.bindsA (ps := ["table", "sizes", "name", "place"]) F fun _ _ _ _ _ _ us hl => match us, hl with | [_, _, _, _], _ => rfl⟩,
    f__law_told_cells := by
      obtain ⟨fd, F⟩ := c.t.d.def_ 22 (d := ⟨("_law_told_cells", none), "_law_told_cells", "_law_told_cells", defArgs s__law_told_cells, defBody s__law_told_cells, defScope s__law_told_cells, [], []⟩) rfl
      exact ⟨_, fd, F, He.glo_ok X G (c.t.d.fact 22 (f := .glo "_law_told_cells") rfl), FunD.bindsA (ps := ["table", "sizes", "fields"]) F fun _ _ _ _ _ _ us hl => match us, hl with | [_, _, _], _ => rfl⟩,
    f__law_sizes := by
      obtain ⟨fd, F⟩ := c.t.d.def_ 23 (d := ⟨("_law_sizes", none), "_law_sizes", "_law_sizes", defArgs s__law_sizes, defBody s__law_sizes, defScope s__law_sizes, [], []⟩) rfl
      exact ⟨_, fd, F, He.glo_ok X G (c.t.d.fact 23 (f := .glo "_law_sizes") rfl), FunD.bindsA (ps := ["state", "many", "most"]) F fun _ _ _ _ _ _ us hl => match us, hl with | [_, _, _], _ => rfl⟩,
    f__law_fields := by
      obtain ⟨fd, F⟩ := c.t.d.def_ 24 (d := ⟨("_law_fields", none), "_law_fields", "_law_fields", defArgs s__law_fields, defBody s__law_fields, defScope s__law_fields, [], []⟩) rfl
      exact ⟨_, fd, F, He.glo_ok X G (c.t.d.fact 24 (f := .glo "_law_fields") rfl), FunD.bindsA (ps := ["state", "table", "sizes"]) F fun _ _ _ _ _ _ us hl => match us, hl with | [_, _, _], _ => rfl⟩,
    f__law_numbers_in := by
      obtain ⟨fd, F⟩ := c.t.d.def_ 25 (d := ⟨("_law_numbers_in", none), "_law_numbers_in", "_law_numbers_in", defArgs s__law_numbers_in, defBody s__law_numbers_in, defScope s__law_numbers_in, [], []⟩) rfl
      exact ⟨_, fd, F, He.glo_ok X G (c.t.d.fact 25 (f := .glo "_law_numbers_in") rfl), FunD.bindsA (ps := ["e"]) F fun _ _ _ _ _ _ us hl => match us, hl with | [_], _ => rfl⟩,
    f__law_token_count := by
      obtain ⟨fd, F⟩ := c.t.d.def_ 26 (d := ⟨("_law_token_count", none), "_law_token_count", "_law_token_count", defArgs s__law_token_count, defBody s__law_token_count, defScope s__law_token_count, [], []⟩) rfl
      exact ⟨_, fd, F, He.glo_ok X G (c.t.d.fact 26 (f := .glo "_law_token_count") rfl), FunD.bindsA (ps := ["over", "e"]) F fun _ _ _ _ _ _ us hl => match us, hl with | [_, _], _ => rfl⟩,
    f__law_can_be_read := by
      obtain ⟨fd, F⟩ := c.t.d.def_ 27 (d := ⟨("_law_can_be_read", none), "_law_can_be_read", "_law_can_be_read", defArgs s__law_can_be_read, defBody s__law_can_be_read, defScope s__law_can_be_read, [], []⟩) rfl
      exact ⟨_, fd, F, He.glo_ok X G (c.t.d.fact 27 (f := .glo "_law_can_be_read") rfl), FunD.bindsA (ps := ["over", "row"]) F fun _ _ _ _ _ _ us hl => match us, hl with | [_, _], _ => rfl⟩,
    f__law_untouched := by
      obtain ⟨fd, F⟩ := c.t.d.def_ 28 (d := ⟨("_law_untouched", none), "_law_untouched", "_law_untouched", defArgs s__law_untouched, defBody s__law_untouched, defScope s__law_untouched, [], []⟩) rfl
      exact ⟨_, fd, F, He.glo_ok X G (c.t.d.fact 28 (f := .glo "_law_untouched") rfl), FunD.bindsA (ps := ["old", "new"]) F fun _ _ _ _ _ _ us hl => match us, hl with | [_, _], _ => rfl⟩,
    f__law_touched_table := by
      obtain ⟨fd, F⟩ := c.t.d.def_ 29 (d := ⟨("_law_touched_table", none), "_law_touched_table", "_law_touched_table", defArgs s__law_touched_table, defBody s__law_touched_table, defScope s__law_touched_table, [], []⟩) rfl
      exact ⟨_, fd, F, He.glo_ok X G (c.t.d.fact 29 (f := .glo "_law_touched_table") rfl), FunD.bindsA (ps := ["state", "table"]) F fun _ _ _ _ _ _ us hl => match us, hl with | [_, _], _ => rfl⟩,
    f__law_chain_table := by
      obtain ⟨fd, F⟩ := c.t.d.def_ 30 (d := ⟨("_law_chain_table", none), "_law_chain_table", "_law_chain_table", defArgs s__law_chain_table, defBody s__law_chain_table, defScope s__law_chain_table, [], []⟩) rfl
      exact ⟨_, fd, F, He.glo_ok X G (c.t.d.fact 30 (f := .glo "_law_chain_table") rfl), FunD.bindsA (ps := ["state"]) F fun _ _ _ _ _ _ us hl => match us, hl with | [_], _ => rfl⟩,
    f_law := by
      obtain ⟨fd, F⟩ := c.t.d.def_ 31 (d := ⟨("law", none), "law", "law", defArgs s_law, defBody s_law, defScope s_law, [], []⟩) rfl
      exact ⟨_, fd, F, He.glo_ok X G (c.t.d.fact 31 (f := .glo "law") rfl), FunD.bindsA (ps := ["script"]) F fun _ _ _ _ _ _ us hl => match us, hl with | [_], _ => rfl⟩ }
open PySem PySem.W PySem.Calls PyProof.Rows in
set_option maxHeartbeats 0 in
theorem holds (kk : Nat) (hk : Room (kk + 1) callerA) (math : ∀ ns : List Int, ns.length ≤ 63 → (wC (kk + 1)).law [.scr ns] (fun _ => none) fun p _ => p = .bl true) : PySem.Challenge.rw_toldinwaves_k78_untouched_rules.Holds := by
  w_on; o_law
  refine HandSHeadRun.head_any (r := OpenLaw.row PySem.Challenge.rw_toldinwaves_k78_untouched_rules) (q := view (OpenLaw.row PySem.Challenge.rw_toldinwaves_k78_untouched_rules).prog [34]) (H := K78.hk) (ob := ob) (M := 4000) (loose := loose) (d := HandSHeadRun.topDef (OpenLaw.row PySem.Challenge.rw_toldinwaves_k78_untouched_rules).prog 34) (kwd := []) ob_eq
    (by kernel_rfl) (fun s => by kernel_rfl) run (by kernel_rfl) (by kernel_rfl) (by kernel_rfl) (by rfl) (by first | assumption | decide +kernel) (by decide +kernel) ⟨rfl, rfl, rfl, rfl, rfl, by decide +kernel⟩ ?hw ?hc
  case hw => w_witness2
  case hc =>
    refine L2.walk_ofE (l := PySem.Challenge.rw_toldinwaves_k78_untouched_rules) (n := 63) (k := kk + 1) (x := "script") (CX := L2.CX0) rfl (by decide) (by kernel_rfl) hk ?F (fun _ _ _ _ z => z)
    intro w mg fa h Y G hmg0
    obtain ⟨K, KX, c⟩ := Y
    have hmg : mg ("law" : PySem.Str) = some (.ref fa) := by
      have e : (HandSHeadRun.topDef (OpenLaw.row PySem.Challenge.rw_toldinwaves_k78_untouched_rules).prog 34).name = ("law" : PySem.Str) := by kernel_rfl
      rw [← e]
      exact hmg0
    have B := facts KX G c
    obtain ⟨fd, sp, hb, hsp, hF⟩ := law_ok (P := (PySem.Challenge.rw_toldinwaves_k78_untouched_rules).prog) (w := w) B.f_law S_law (n := 17) rfl hmg (fun base hK hB f cdv A outer s H E hr => d_law (own B kk) hr) math
    exact ⟨K, fd, sp, KX, hb, hsp, hF⟩
theorem wC_succ (k : Nat) : wC (k + 1) = cS (wC k) := rfl
theorem ds_up {h : PH} {a s : Addr} {ns : List Int} (has : a ≠ s) (ha : h a = some (.lst (ns.map .int))) (i c n : Int) : DS a ns s (up h s (.lst [.ref a, .int i, .int c, .int n])) ∧ G.Fr [s] h (up h s (.lst [.ref a, .int i, .int c, .int n])) :=
  ⟨⟨has, by rw [up_ne has]; exact ha, i, c, n, up_same⟩, fun b n => up_ne (by simpa using n)⟩
theorem c_draw {k : Nat} (hk : 1 ≤ k) {a s : Addr} {ns : List Int} {most : Int} {h : PH} {Q : QV} (d : DS a ns s h) (hm : 0 < most) (hm2 : most < 1073741824)
    (q : ∀ v h', 0 ≤ v → v < most → DS a ns s h' → G.Fr [s] h h' → Q (.int v) h') : (wC k)._law_draw [.ref s, .int most] h Q := by
  obtain ⟨k, rfl⟩ : ∃ j, k = j + 1 := ⟨k - 1, by omega⟩
  obtain ⟨has, ha, i, c, n, hs⟩ := d
  have fin : ∀ (v i' c' n' : Int), 0 ≤ v → v < most → ∃ h2, G.Sub h2 (up h s (.lst [.ref a, .int i', .int c', .int n'])) ∧ Q (.int v) h2 := fun v i' c' n' h1 h2 => by
    obtain ⟨x, y⟩ := ds_up has ha i' c' n'
    exact ⟨_, G.Sub.refl _, q _ _ h1 h2 x y⟩
  have hau : ∀ o, up h s o a = some (.lst (ns.map .int)) := fun o => by rw [up_ne has]; exact ha
  have hmod : ∀ x : Int, 0 ≤ x % most ∧ x % most < most := fun x => ⟨Int.emod_nonneg _ (by omega), Int.emod_lt_of_pos _ hm⟩
  show zFn _ _ (b__law_draw (wC k)) _ h Q
  unfold b__law_draw
  simp! [hs, ha]
  rw [zSeq_x]
  simp! [hs, ha]
  by_cases h0 : 0 < c
  · simp! [h0]
    exact ⟨hm, ⟨hm, hm2⟩, fin _ _ _ _ (hmod _).1 (hmod _).2⟩
  · simp! [h0]
    refine zSeq_key (fun ρ' h' => ∃ cell : Int, 0 ≤ cell ∧ ρ' = [some (.ref s), some (.int most), none, some (.int cell), none] ∧ h' = up h s (.lst [.ref a, .int i, .int c, .int (n + 1)])) ?_ fun X kx => ?_
    · rintro _ _ ⟨cell, hc, rfl, rfl⟩
      simp! []
      rw [zSeq_x]
      simp! []
      refine ⟨⟨by decide, by decide, by decide⟩, ?_⟩
      by_cases hb : (10 : Int) ^ (18 : Int).toNat ≤ cell
      · simp! [hb]
        exact ⟨⟨hm, hm2⟩, hm, fin _ _ _ _ (hmod _).1 (hmod _).2⟩
      · simp! [hb]
        exact ⟨mulL ⟨by decide, by decide⟩, mulL ⟨by decide, by decide⟩, by decide, mulL ⟨by decide, by decide⟩, ⟨by decide, by decide⟩, by decide, ⟨by decide, by decide⟩, hm, fin _ _ _ _ (hmod _).1 (hmod _).2⟩
    · simp! [hau]
      by_cases hl : 0 < ((ns.map PV.int).length : Int)
      · simp only [hl, decide_true, if_true]
        have hl' : 0 < (ns.length : Int) := by simpa using hl
        obtain ⟨j, hj⟩ : ∃ j : Nat, i % (ns.length : Int) = (j : Int) := ⟨(i % ns.length).toNat, by have := Int.emod_nonneg i (b := (ns.length : Int)) (by omega); omega⟩
        have hj2 : j < ns.length := by have := Int.emod_lt_of_pos i hl'; omega
        have e : atI (ns.map PV.int) (i % ((ns.map PV.int).length : Int)) = some (.int ns[j]) := by
          rw [List.length_map, hj, atN, List.getElem?_map, List.getElem?_eq_getElem hj2]; rfl
        simp! [hau, e]
        exact kx _ _ ⟨_, by split <;> omega, rfl, rfl⟩
      · simp! [hl]
        exact kx _ _ ⟨0, by omega, rfl, rfl⟩

theorem c_start {k : Nat} (hk : 1 ≤ k) {ns : List Int} (hn : ns.length ≤ 63) {h : PH} {Q : QV} (q : ∀ a s h', DS a ns s h' → Kp [] h h' → h s = none → Q (.ref s) h') : (wC k)._law_start [.scr ns] h Q := by
  obtain ⟨k, rfl⟩ : ∃ j, k = j + 1 := ⟨k - 1, by omega⟩
  show zFn _ _ (b__law_start (wC k)) _ h Q
  unfold b__law_start
  dsimp! []
  refine fun _ a na => ⟨by decide, fun s ns' => ?_⟩
  have e : s ≠ a := by rintro rfl; rw [up_same] at ns'; cases ns'
  refine ⟨_, G.Sub.refl _, q a s _ ⟨e.symm, ?_, 0, 0, 0, up_same⟩ (((Kp.refl _ _).new na).new ns') ?_⟩
  · rw [up_ne e.symm]; exact up_same
  · rw [up_ne e] at ns'
    exact ns'
theorem c_is_int {k : Nat} (hk : 1 ≤ k) {i : Int} {h : PH} {Q : QV} (q : Q (.bl true) h) : (wC k)._law_is_int [.int i] h Q := by
  obtain ⟨k, rfl⟩ : ∃ j, k = j + 1 := ⟨k - 1, by omega⟩
  show zFn _ _ (b__law_is_int (wC k)) _ h Q
  unfold b__law_is_int
  dsimp! []
  simp only [show decide (Ty.int = Ty.int) = true from rfl, show decide (Ty.int = Ty.bool) = false from rfl, Bool.not_false, if_true]
  exact ⟨_, G.Sub.refl _, q⟩
/-- a whole number between -4 and 4, mostly 0 -/
theorem c_rim {k : Nat} (hk : 2 ≤ k) {a s : Addr} {ns : List Int} {h : PH} {Q : QV} (d : DS a ns s h) (q : ∀ v h', DS a ns s h' → G.Fr [s] h h' → -4 ≤ v → v ≤ 4 → Q (.int v) h') : (wC k)._law_rim [.ref s] h Q := by
  obtain ⟨k, rfl⟩ : ∃ j, k = j + 1 := ⟨k - 1, by omega⟩
  show zFn _ _ (b__law_rim (wC k)) _ h Q
  unfold b__law_rim
  dsimp! []
  refine c_draw (by omega) d (by omega) (by omega) fun v h' v0 v1 d' f => ?_
  dsimp! []
  refine ⟨by decide, fun p np => ?_⟩
  refine c_draw (by omega) (d'.new np) (by omega) (by omega) fun w h2 w0 w1 d3 f2 => ?_
  have e : h2 p = some (.lst [.int 0, .int 0, .int (v - 4)]) := (f2 p (by simpa using d'.ne np)).trans up_same
  have kp : Kp [s] h h2 := f.kp.trans ((kp_new np).trans f2.kp)
  have fin : ∀ z : Int, -4 ≤ z → z ≤ 4 → ∃ h3, G.Sub h3 h2 ∧ Q (.int z) h3 := fun z z0 z1 => d.out d3 kp fun h3 x y => q z h3 x y z0 z1
  rcases (show w = 0 ∨ w = 1 ∨ w = 2 by omega) with rfl | rfl | rfl
  · dsimp! [e]; exact fin _ (by omega) (by omega)
  · dsimp! [e]; exact fin _ (by omega) (by omega)
  · dsimp! [e]; exact fin _ (by omega) (by omega)

mutual
/-- whole numbers, texts, and tuples of such -/
def dat : PV → Bool
  | .int _ => true
  | .str x => x.all fun c => decide (c < 1114112)
  | .tup xs => decide (xs.length ≤ 1000000) && dats xs
  | _ => false
def dats : List PV → Bool
  | [] => true
  | x :: xs => dat x && dats xs
end
theorem dats_mem {xs : List PV} (h : dats xs = true) {x : PV} (m : x ∈ xs) : dat x = true := by
  induction xs with
  | nil => cases m
  | cons y ys ih =>
    simp only [dats, Bool.and_eq_true] at h
    rcases List.mem_cons.mp m with rfl | m
    · exact h.1
    · exact ih h.2 m
mutual
theorem dat_pl : ∀ p : PV, dat p = true → p.pl = true
  | .int _, _ => by simp [PV.pl]
  | .str x, h => by simpa [dat, PV.pl] using h
  | .tup xs, h => by
    simp only [dat, Bool.and_eq_true] at h
    simpa [PV.pl] using dats_pl xs h.2
  | .non, h => by simp [dat] at h
  | .bl _, h => by simp [dat] at h
  | .ref _, h => by simp [dat] at h
  | .scr _, h => by simp [dat] at h
theorem dats_pl : ∀ p : List PV, dats p = true → PV.pls p = true
  | [], _ => rfl
  | x :: xs, h => by
    simp only [dats, Bool.and_eq_true] at h
    simp [PV.pls, dat_pl x h.1, dats_pl xs h.2]
end
theorem bls_rep : ∀ n : Nat, blsP (List.replicate n (.bl true)) = some (List.replicate n true)
  | 0 => rfl
  | n + 1 => by rw [List.replicate_succ, List.replicate_succ]; simp [blsP, bls_rep n]
theorem all_rep (n : Nat) : (List.replicate n true).all id = true := by simp
theorem c_same : ∀ (n : Nat) (p : PV), dat p = true → p.dp ≤ n → ∀ {k : Nat}, n + 2 ≤ k → ∀ {h : PH} {Q : QV}, Q (.bl true) h → (wC k)._law_same [p, p] h Q := by
  intro n
  induction n with
  | zero =>
    intro p hp hn k hk h Q q
    obtain ⟨k, rfl⟩ : ∃ j, k = j + 1 := ⟨k - 1, by omega⟩
    show zFn _ _ (b__law_same (wC k)) _ h Q
    unfold b__law_same
    cases p with
    | int i =>
      dsimp! []
      rw [zSeq_x]; dsimp! []
      rw [zSeq_x]; dsimp! []
      exact c_is_int (by omega) ⟨_, G.Sub.refl _, q⟩
    | str x =>
      dsimp! []
      rw [zSeq_x]; dsimp! []
      rw [zSeq_x]; dsimp! []
      exact ⟨_, G.Sub.refl _, q⟩
    | tup xs => simp [PV.dp] at hn
    | _ => simp [dat] at hp
  | succ n ih =>
    intro p hp hn k hk h Q q
    cases p with
    | tup xs =>
      obtain ⟨k, rfl⟩ : ∃ j, k = j + 1 := ⟨k - 1, by omega⟩
      show zFn _ _ (b__law_same (wC k)) _ h Q
      unfold b__law_same
      simp only [dat, Bool.and_eq_true, decide_eq_true_eq] at hp
      simp only [PV.dp] at hn
      dsimp! []
      rw [zSeq_x]; dsimp! []
      rw [zSeq_x]; dsimp! []
      refine ⟨by omega, by omega, ?_⟩
      refine lcW_R (by rw [sizeLine_eq]; omega) (fun i acc h' => h = h' ∧ acc = List.replicate i (.bl true)) ⟨rfl, rfl⟩ (fun i acc h' e => by rw [e.2]; simp) (fun i acc h' hi ⟨e1, e2⟩ => ?_) fun acc h' ⟨e1, e2⟩ => ?_
      · subst e1 e2
        have hi' : i < xs.length := by omega
        dsimp! [Int.zero_add, atN, List.getElem?_eq_getElem hi']
        refine ih xs[i] (dats_mem hp.2 (List.getElem_mem hi')) (dps_mem (by omega) (List.getElem_mem hi')) (by omega) ⟨h, G.Sub.refl _, rfl, ?_⟩
        exact List.replicate_succ'.symm
      · subst e1 e2
        intro D nD
        dsimp! [bls_rep, all_rep]
        exact ⟨h, (fun b o e => by rw [up_ne (by rintro rfl; rw [nD] at e; cases e)]; exact e), q⟩
    | _ => exact ih _ hp (by simp [PV.dp]) (by omega) q

theorem back_self {h : PH} {D : Addr} {o : PO} (n : h D = none) : G.Sub h (up h D o) := fun b v e => by
  rw [up_ne (by rintro rfl; rw [n] at e; cases e)]; exact e
/-- many whole numbers from -most to most -/
theorem c_offsets {k : Nat} (hk : 2 ≤ k) {a s : Addr} {ns : List Int} {many : Nat} {most : Int} {h : PH} {Q : QV} (d : DS a ns s h) (hm : many ≤ 1000) (h0 : 0 ≤ most) (h1 : most < 1000)
    (q : ∀ (os : List Int) h', os.length = many → (∀ o ∈ os, -most ≤ o ∧ o ≤ most) → DS a ns s h' → G.Fr [s] h h' → Q (.tup (os.map .int)) h') : (wC k)._law_offsets [.ref s, .int many, .int most] h Q := by
  obtain ⟨k, rfl⟩ : ∃ j, k = j + 1 := ⟨k - 1, by omega⟩
  show zFn _ _ (b__law_offsets (wC k)) _ h Q
  unfold b__law_offsets
  dsimp! []
  refine ⟨by omega, by omega, ?_⟩
  refine lcW_R (by rw [sizeLine_eq]; omega) (fun i acc h' => ∃ os : List Int, acc = os.map .int ∧ os.length = i ∧ (∀ o ∈ os, -most ≤ o ∧ o ≤ most) ∧ DS a ns s h' ∧ G.Fr [s] h h') ⟨[], rfl, rfl, by simp, d, G.Fr.refl _ _⟩ (fun i acc h' ⟨os, e, l, _⟩ => by rw [e, List.length_map, l]; exact Nat.le_refl _) ?_ ?_
  · rintro i _ h1 hi ⟨os, rfl, l, b, d1, f1⟩
    dsimp! []
    refine ⟨mulR ⟨by decide, by decide⟩, ?_⟩
    refine c_draw (by omega) d1 (by omega) (by omega) fun v h2 v0 v1 d2 f2 => ?_
    dsimp! []
    refine ⟨h2, G.Sub.refl _, os ++ [v - most], by simp, by simp [l], fun o ho => ?_, d2, f1.trans f2⟩
    rcases List.mem_append.mp ho with ho | ho
    · exact b o ho
    · simp at ho; omega
  · rintro _ h1 ⟨os, rfl, l, b, d1, f1⟩ D nD
    exact ⟨h1, back_self nD, q os h1 (by omega) b d1 f1⟩
def oi : Option Int → PV
  | none => .tup []
  | some i => .int i
/-- a row of a given: its name, its rim, its bounds -/
def givP (x : List Nat) (rim : Int) (lo hi : Option Int) : PV := .tup [.str x, .int rim, oi lo, oi hi]
theorem c_given_row {k : Nat} (hk : 3 ≤ k) {a s : Addr} {ns : List Int} {x : List Nat} {h : PH} {Q : QV} (d : DS a ns s h)
    (q : ∀ (rim : Int) (lo hi : Option Int) h', -4 ≤ rim → rim ≤ 4 → (∀ l, lo = some l → rim - 4 < l ∧ l ≤ rim) → (∀ u, hi = some u → rim ≤ u ∧ u < rim + 4) → DS a ns s h' → G.Fr [s] h h' → Q (givP x rim lo hi) h') : (wC k)._law_given_row [.ref s, .str x] h Q := by
  obtain ⟨k, rfl⟩ : ∃ j, k = j + 1 := ⟨k - 1, by omega⟩
  show zFn _ _ (b__law_given_row (wC k)) _ h Q
  unfold b__law_given_row
  dsimp! []
  refine c_rim (by omega) d fun rim h1 d1 f1 r0 r1 => ?_
  refine ⟨by decide, ?_⟩
  refine c_draw (by omega) d1 (by omega) (by omega) fun v h2 v0 v1 d2 f2 => ?_
  dsimp! []
  refine ⟨by decide, fun p np => ?_⟩
  refine c_draw (by omega) (d2.new np) (by omega) (by omega) fun w h3 w0 w1 d3 f3 => ?_
  have e1 : h3 p = some (.lst [.tup [], .int (rim - v)]) := (f3 p (by simpa using d2.ne np)).trans up_same
  have k3 : Kp [s] h h3 := (f1.kp.trans f2.kp).trans ((kp_new np).trans f3.kp)
  obtain ⟨lo, elo, hlo⟩ : ∃ lo : Option Int, atI [PV.tup [], .int (rim - v)] w = some (oi lo) ∧ ∀ l, lo = some l → rim - 4 < l ∧ l ≤ rim := by
    rcases (show w = 0 ∨ w = 1 by omega) with rfl | rfl
    · exact ⟨none, by rw [at0]; rfl, fun l e => nomatch e⟩
    · exact ⟨some (rim - v), by rw [at1]; rfl, fun l e => by cases e; omega⟩
  dsimp! [e1, elo]
  refine ⟨by decide, ?_⟩
  refine c_draw (by omega) d3 (by omega) (by omega) fun v' h4 v0 v1 d4 f4 => ?_
  dsimp! []
  refine ⟨by decide, fun p' np' => ?_⟩
  refine c_draw (by omega) (d4.new np') (by omega) (by omega) fun w' h5 w0 w1 d5 f5 => ?_
  have e2 : h5 p' = some (.lst [.tup [], .int (rim + v')]) := (f5 p' (by simpa using d4.ne np')).trans up_same
  have k5 : Kp [s] h h5 := (k3.trans f4.kp).trans ((kp_new np').trans f5.kp)
  obtain ⟨hi, ehi, hhi⟩ : ∃ hi : Option Int, atI [PV.tup [], .int (rim + v')] w' = some (oi hi) ∧ ∀ l, hi = some l → rim ≤ l ∧ l < rim + 4 := by
    rcases (show w' = 0 ∨ w' = 1 by omega) with rfl | rfl
    · exact ⟨none, by rw [at0]; rfl, fun l e => nomatch e⟩
    · exact ⟨some (rim + v'), by rw [at1]; rfl, fun l e => by cases e; omega⟩
  dsimp! [e2, ehi]
  exact ⟨by decide, d.out d5 k5 fun h6 x' y => q rim lo hi h6 r0 r1 hlo hhi x' y⟩
/-! ### the words -/
def abc : List Nat := [97, 98, 99, 100, 101, 102, 103, 104, 105, 106, 107, 108, 109, 110, 111, 112, 113, 114, 115, 116, 117, 118, 119, 120, 121, 122]
def wordAt (side : Bool) (sh : List Nat) (start step : Int) (i : Nat) : List Nat := if side then sh ++ [97 + ((start + i * step) % 26).toNat] else (97 + ((start + i * step) % 26).toNat) :: sh
theorem abc_at {z : Int} (h0 : 0 ≤ z) (h1 : z < 26) : atI abc z = some (97 + z.toNat) := by
  obtain ⟨j, rfl⟩ : ∃ j : Nat, z = j := ⟨z.toNat, by omega⟩
  have hj : j < 26 := by omega
  rw [atN]
  have : ∀ j : Fin 26, abc[j.val]? = some (97 + j.val) := by decide
  exact this ⟨j, hj⟩
theorem words_nd {side : Bool} {sh : List Nat} {start t : Int} (h0 : 0 ≤ t) (h1 : t < 6) {n : Nat} (hn : n ≤ 26) : ((List.range n).map (wordAt side sh start (1 + 2 * t))).Nodup := by
  rw [List.nodup_iff_pairwise_ne, List.pairwise_map]
  refine List.Pairwise.imp_of_mem (fun {i j} hi hj hlt e => ?_) List.pairwise_lt_range
  have hi' := List.mem_range.mp hi
  have hj' := List.mem_range.mp hj
  have hlt' : i < j := hlt
  have e2 : (start + i * (1 + 2 * t)) % 26 = (start + j * (1 + 2 * t)) % 26 := by
    have a1 := Int.emod_nonneg (start + i * (1 + 2 * t)) (b := 26) (by omega)
    have a2 := Int.emod_nonneg (start + j * (1 + 2 * t)) (b := 26) (by omega)
    unfold wordAt at e
    cases side with
    | true => simp at e; omega
    | false => simp at e; omega
  rcases (show t = 0 ∨ t = 1 ∨ t = 2 ∨ t = 3 ∨ t = 4 ∨ t = 5 by omega) with rfl | rfl | rfl | rfl | rfl | rfl <;> omega
def okS (x : List Nat) : Bool := decide (x.length ≤ 1000) && x.all fun c => decide (c < 1114112)
theorem word_ok {side : Bool} {sh : List Nat} {start step : Int} {i : Nat} (hs : sh ∈ [([] : List Nat), [113], [113, 120], [113, 120, 122]]) : okS (wordAt side sh start step i) = true := by
  have b : ((start + i * step) % 26).toNat < 26 := by omega
  have hc : (((start + i * step) % 26).toNat + 97) < 1114112 := by omega
  simp only [List.mem_cons, List.not_mem_nil, or_false] at hs
  unfold okS wordAt
  rcases hs with rfl | rfl | rfl | rfl <;> cases side <;> simp <;> omega
theorem word_nou {side : Bool} {sh : List Nat} {start step : Int} {i : Nat} (hs : sh ∈ [([] : List Nat), [113], [113, 120], [113, 120, 122]]) : 95 ∉ wordAt side sh start step i := by
  simp only [List.mem_cons, List.not_mem_nil, or_false] at hs
  unfold wordAt
  rcases hs with rfl | rfl | rfl | rfl <;> cases side <;> simp <;> omega
theorem c_words2 {k : Nat} (hk : 2 ≤ k) {a s : Addr} {ns : List Int} {many : Nat} {h : PH} {Q : QV} (d : DS a ns s h) (hm : many ≤ 26)
    (q : ∀ (ws : List (List Nat)) p h', ws.length = many → ws.Nodup → (∀ x ∈ ws, okS x = true) → (∀ x ∈ ws, 95 ∉ x) → DS a ns s h' → G.Fr [s] h h' → h' p = none → Q (.ref p) (up h' p (.lst (ws.map .str)))) : (wC k)._law_words [.ref s, .int many] h Q := by
  obtain ⟨k, rfl⟩ : ∃ j, k = j + 1 := ⟨k - 1, by omega⟩
  show zFn _ _ (b__law_words (wC k)) _ h Q
  unfold b__law_words
  dsimp! []
  refine c_draw (by omega) d (by omega) (by omega) fun start h1 s0 s1 d1 f1 => ?_
  refine c_draw (by omega) d1 (by omega) (by omega) fun t h2 t0 t1 d2 f2 => ?_
  dsimp! []
  refine ⟨mulR ⟨by decide, by decide⟩, ?_⟩
  refine c_draw (by omega) d2 (by omega) (by omega) fun c h3 c0 c1 d3 f3 => ?_
  obtain ⟨sh, hsh, esh⟩ : ∃ sh : List Nat, sh ∈ [([] : List Nat), [113], [113, 120], [113, 120, 122]] ∧ cut [113, 120, 122] none (some c) = sh := by
    rcases (show c = 0 ∨ c = 1 ∨ c = 2 ∨ c = 3 by omega) with rfl | rfl | rfl | rfl
    · exact ⟨[], by simp, by decide⟩
    · exact ⟨[113], by simp, by decide⟩
    · exact ⟨[113, 120], by simp, by decide⟩
    · exact ⟨[113, 120, 122], by simp, by decide⟩
  have shl : sh.length ≤ 3 := by
    simp only [List.mem_cons, List.not_mem_nil, or_false] at hsh
    rcases hsh with rfl | rfl | rfl | rfl <;> simp
  dsimp! [esh]
  refine ⟨by decide, ?_⟩
  rw [zSeq_x]
  dsimp! []
  refine c_draw (by omega) d3 (by omega) (by omega) fun sd h4 sd0 sd1 d4 f4 => ?_
  have f : G.Fr [s] h h4 := ((f1.trans f2).trans f3).trans f4
  have fin : ∀ (side : Bool) (acc : List PV), acc = (((List.range many).map fun i : Nat => PV.int ((0 : Int) + i)).filter fun _ => true).map (fun p => match p with | .int i => PV.str (wordAt side sh start (1 + 2 * t) i.toNat) | _ => .non) → ∀ D, h4 D = none → ∃ h5, G.Sub h5 (up h4 D (.lst acc)) ∧ Q (.ref D) h5 := fun side acc e D nD => by
    refine ⟨_, G.Sub.refl _, ?_⟩
    have e2 : acc = ((List.range many).map (wordAt side sh start (1 + 2 * t))).map .str := by
      rw [e, List.filter_eq_self.mpr (by simp), List.map_map, List.map_map]
      refine List.map_congr_left fun i _ => ?_
      simp
    rw [e2]
    exact q _ D h4 (by simp) (words_nd t0 t1 hm) (fun x hx => by
      obtain ⟨i, _, rfl⟩ := List.mem_map.mp hx
      exact word_ok hsh) (fun x hx => by
      obtain ⟨i, _, rfl⟩ := List.mem_map.mp hx
      exact word_nou hsh) d4 f nD
  have one : ∀ (i : Nat), (start + ((0 : Int) + i) * (1 + 2 * t)) % 26 = (start + i * (1 + 2 * t)) % 26 := fun i => by rw [Int.zero_add]
  by_cases hs0 : sd = 0
  · dsimp! [hs0]
    refine ⟨by omega, by omega, ?_⟩
    refine lcP_R (fun _ => true) (fun p => match p with | .int i => PV.str (wordAt true sh start (1 + 2 * t) i.toNat) | _ => .non) (by rw [sizeLine_eq]; omega) (fun i hi R acc r => ?_) ?_
    · rw [if_pos rfl] at r
      have b0 := Int.emod_nonneg (start + ((0 : Int) + i) * (1 + 2 * t)) (b := 26) (by omega)
      have b1 := Int.emod_lt_of_pos (start + ((0 : Int) + i) * (1 + 2 * t)) (b := 26) (by omega)
      dsimp! []
      refine ⟨mulR ⟨by omega, by omega⟩, by decide, _, by decide, abc_at b0 b1, by rw [sizeLine_eq]; simp; omega, ?_⟩
      have e : (sh ++ [97 + ((start + ((0 : Int) + i) * (1 + 2 * t)) % 26).toNat]) = wordAt true sh start (1 + 2 * t) ((0 : Int) + i).toNat := by
        unfold wordAt; rw [if_pos rfl]; simp
      rw [e]; exact r
    · exact fin true _ (by simp)
  · dsimp! [hs0]
    refine ⟨by omega, by omega, ?_⟩
    refine lcP_R (fun _ => true) (fun p => match p with | .int i => PV.str (wordAt false sh start (1 + 2 * t) i.toNat) | _ => .non) (by rw [sizeLine_eq]; omega) (fun i hi R acc r => ?_) ?_
    · rw [if_pos rfl] at r
      have b0 := Int.emod_nonneg (start + ((0 : Int) + i) * (1 + 2 * t)) (b := 26) (by omega)
      have b1 := Int.emod_lt_of_pos (start + ((0 : Int) + i) * (1 + 2 * t)) (b := 26) (by omega)
      dsimp! []
      refine ⟨mulR ⟨by omega, by omega⟩, by decide, _, by decide, abc_at b0 b1, by rw [sizeLine_eq]; omega, ?_⟩
      have e : ((97 + ((start + ((0 : Int) + i) * (1 + 2 * t)) % 26).toNat) :: sh) = wordAt false sh start (1 + 2 * t) ((0 : Int) + i).toNat := by
        unfold wordAt; rw [if_neg Bool.false_ne_true]; simp
      rw [e]; exact r
    · exact fin false _ (by simp)
theorem c_words {k : Nat} (hk : 2 ≤ k) {a s : Addr} {ns : List Int} {many : Nat} {h : PH} {Q : QV} (d : DS a ns s h) (hm : many ≤ 26)
    (q : ∀ (ws : List (List Nat)) p h', ws.length = many → ws.Nodup → (∀ x ∈ ws, okS x = true) → DS a ns s h' → G.Fr [s] h h' → h' p = none → Q (.ref p) (up h' p (.lst (ws.map .str)))) : (wC k)._law_words [.ref s, .int many] h Q :=
  c_words2 hk d hm fun ws p h' a b c _ e f g => q ws p h' a b c e f g

/-! ### expressions -/
inductive Op2 | plus | minus | least | greatest
  deriving DecidableEq
inductive Sg | lt | le | gt | ge | eq | ne
  deriving DecidableEq
inductive Ex
  | num (n : Int) | ctr (c : Int) | cell (x : List Nat) (os : List Int) | neg (a : Ex) | scl (n : Int) (a : Ex) | bin (o : Op2) (a b : Ex) | pick (s : Sg) (a b c d : Ex)
def Op2.cs : Op2 → List Nat
  | .plus => ([112, 108, 117, 115] : List Nat) | .minus => ([109, 105, 110, 117, 115] : List Nat) | .least => ([108, 101, 97, 115, 116] : List Nat) | .greatest => ([103, 114, 101, 97, 116, 101, 115, 116] : List Nat)
def Sg.cs : Sg → List Nat
  | .lt => ([60] : List Nat) | .le => ([60, 61] : List Nat) | .gt => ([62] : List Nat) | .ge => ([62, 61] : List Nat) | .eq => ([61, 61] : List Nat) | .ne => ([33, 61] : List Nat)
def Ex.P : Ex → PV
  | .num n => .tup [(PV.str [110, 117, 109, 98, 101, 114]), .int n]
  | .ctr n => .tup [(PV.str [99, 111, 117, 110, 116, 101, 114]), .int n]
  | .cell x os => .tup [(PV.str [99, 101, 108, 108]), .str x, .tup (os.map .int)]
  | .neg a => .tup [(PV.str [110, 101, 103, 97, 116, 101]), a.P]
  | .scl n a => .tup [(PV.str [115, 99, 97, 108, 101]), .int n, a.P]
  | .bin o a b => .tup [.str o.cs, a.P, b.P]
  | .pick s a b c d => .tup [(PV.str [112, 105, 99, 107]), .str s.cs, a.P, b.P, c.P, d.P]
def Ex.dep : Ex → Nat
  | .num _ => 0
  | .ctr _ => 0
  | .cell _ _ => 0
  | .neg a => a.dep + 1
  | .scl _ a => a.dep + 1
  | .bin _ a b => max a.dep b.dep + 1
  | .pick _ a b c d => max (max a.dep b.dep) (max c.dep d.dep) + 1
/-- the references, each with its offsets, keep F; the numbers lie within a word -/
def Ex.Al (F : List Nat → List Int → Prop) : Ex → Prop
  | .num n => -1000000 < n ∧ n < 1000000
  | .ctr n => -1000000 < n ∧ n < 1000000
  | .cell x os => F x os
  | .neg a => a.Al F
  | .scl n a => (-1000000 < n ∧ n < 1000000) ∧ a.Al F
  | .bin _ a b => a.Al F ∧ b.Al F
  | .pick _ a b c d => a.Al F ∧ b.Al F ∧ c.Al F ∧ d.Al F
theorem Ex.Al.mono {F G : List Nat → List Int → Prop} (i : ∀ x os, F x os → G x os) : ∀ {e : Ex}, e.Al F → e.Al G
  | .num _, h => h
  | .ctr _, h => h
  | .cell _ _, h => i _ _ h
  | .neg a, h => Ex.Al.mono (e := a) i h
  | .scl _ a, h => ⟨h.1, Ex.Al.mono (e := a) i h.2⟩
  | .bin _ a b, h => ⟨Ex.Al.mono (e := a) i h.1, Ex.Al.mono (e := b) i h.2⟩
  | .pick _ a b c d, h => ⟨Ex.Al.mono (e := a) i h.1, Ex.Al.mono (e := b) i h.2.1, Ex.Al.mono (e := c) i h.2.2.1, Ex.Al.mono (e := d) i h.2.2.2⟩
/-- a reference that is well formed -/
def refOk (x : List Nat) (os : List Int) : Prop := okS x = true ∧ os.length ≤ 1000
abbrev Ex.wf (e : Ex) : Prop := e.Al refOk
theorem dats_ints : ∀ os : List Int, dats (os.map .int) = true
  | [] => rfl
  | o :: os => by simp [dats, dat, dats_ints os]
theorem okS_dat {x : List Nat} (h : okS x = true) : dat (.str x) = true := by
  unfold okS at h
  simp only [Bool.and_eq_true] at h
  simpa [dat] using h.2
theorem op_dat (o : Op2) : dat (.str o.cs) = true := by cases o <;> decide
theorem sg_dat (o : Sg) : dat (.str o.cs) = true := by cases o <;> decide
theorem Ex.dat : ∀ {e : Ex}, e.wf → dat e.P = true
  | .num _, h => by simp [Ex.P, K78.dat, K78.dats]
  | .ctr _, h => by simp [Ex.P, K78.dat, K78.dats]
  | .cell x os, h => by
    have h1 := okS_dat h.1
    have h2 : os.length ≤ 1000000 := by have := h.2; omega
    simp only [Ex.P, K78.dat, K78.dats, List.length_cons, List.length_nil, List.length_map, dats_ints, Bool.and_true, Bool.true_and, Bool.and_eq_true, decide_eq_true_eq] at h1 ⊢
    exact ⟨by decide, by decide, h1, h2⟩
  | .neg a, h => by
    have := Ex.dat (e := a) h
    simp [Ex.P, K78.dat, K78.dats, this]
  | .scl _ a, h => by
    have := Ex.dat (e := a) h.2
    simp [Ex.P, K78.dat, K78.dats, this]
  | .bin o a b, h => by
    have h1 := Ex.dat (e := a) h.1
    have h2 := Ex.dat (e := b) h.2
    have h3 := op_dat o
    simp only [Ex.P, K78.dats, h1, h2, h3, K78.dat, List.length_cons, List.length_nil, Bool.and_true] at h3 ⊢
    simp [h3]
  | .pick s a b c d, h => by
    have h1 := Ex.dat (e := a) h.1
    have h2 := Ex.dat (e := b) h.2.1
    have h4 := Ex.dat (e := c) h.2.2.1
    have h5 := Ex.dat (e := d) h.2.2.2
    have h3 := sg_dat s
    simp only [Ex.P, K78.dats, h1, h2, h4, h5, h3, K78.dat, List.length_cons, List.length_nil, Bool.and_true] at h3 ⊢
    simp [h3]
theorem dps_ints : ∀ os : List Int, PV.dps (os.map .int) = 0
  | [] => rfl
  | o :: os => by simp [PV.dps, PV.dp, dps_ints os]
theorem Ex.dp : ∀ e : Ex, e.P.dp ≤ e.dep + 2
  | .num _ => by simp [Ex.P, PV.dp, PV.dps]
  | .ctr _ => by simp [Ex.P, PV.dp, PV.dps]
  | .cell x os => by simp [Ex.P, PV.dp, PV.dps, dps_ints]
  | .neg a => by
    have := Ex.dp a
    simp only [Ex.P, PV.dp, PV.dps, Ex.dep]; omega
  | .scl _ a => by
    have := Ex.dp a
    simp only [Ex.P, PV.dp, PV.dps, Ex.dep]; omega
  | .bin o a b => by
    have := Ex.dp a
    have := Ex.dp b
    simp only [Ex.P, PV.dp, PV.dps, Ex.dep]; omega
  | .pick s a b c d => by
    have := Ex.dp a
    have := Ex.dp b
    have := Ex.dp c
    have := Ex.dp d
    simp only [Ex.P, PV.dp, PV.dps, Ex.dep]; omega

/-! ### the world of a table -/
structure Wd where
  over : List (List Nat)
  many : Nat
  rn : List (List Nat)
  gn : List (List Nat)
  most : Int
  row : Option (List Int)
  nums : List Nat → Int
  least : Int
  name : List Nat
/-- where it lies -/
structure Wa where
  w : Addr
  r : Addr
  g : Addr
  row : Addr
  nums : Addr
structure Wd.ok (W : Wd) : Prop where
  many : 1 ≤ W.many ∧ W.many ≤ 3
  rn : W.rn ≠ [] ∧ W.rn.length ≤ 20
  gn : W.gn.length ≤ 20
  rs : ∀ x ∈ W.rn, okS x = true
  gs : ∀ x ∈ W.gn, okS x = true
  most : 0 ≤ W.most ∧ W.most ≤ 10
/-- the offsets' slope along the row -/
def slo (row os : List Int) : Int := (List.zipWith (· * ·) row os).sum
/-- what a reference keeps -/
def Wd.Ref (W : Wd) (x : List Nat) (os : List Int) : Prop :=
  (x ∈ W.gn ∧ os.length = W.many ∧ ∀ o ∈ os, -2 ≤ o ∧ o ≤ 2) ∨ (x ∈ W.rn ∧ os.length = W.many ∧ (∀ o ∈ os, -W.most ≤ o ∧ o ≤ W.most) ∧ ∀ row, W.row = some row → slo row os + W.nums x - W.nums W.name ≤ W.least)
structure RowAt (W : Wd) (A : Wa) (kvs : List (PV × PV)) (h : PH) (row : List Int) : Prop where
  at_ : dget kvs (PV.str [114, 111, 119]) = some (.ref A.row)
  lst : h A.row = some (.lst (row.map .int))
  len : row.length = W.many
  nat : dget kvs (PV.str [110, 117, 109, 98, 101, 114, 115]) = some (.ref A.nums)
  dic : ∃ nk, h A.nums = some (.dic false none nk) ∧ ∀ x ∈ W.rn, dget nk (.str x) = some (.int (W.nums x))
  least : dget kvs (PV.str [108, 101, 97, 115, 116]) = some (.int W.least)
/-- the world stands in the heap, but for its room and name -/
structure WB (W : Wd) (A : Wa) (h : PH) (kvs : List (PV × PV)) : Prop where
  dic : h A.w = some (.dic false none kvs)
  len : kvs.length ≤ 20
  many : dget kvs (PV.str [109, 97, 110, 121]) = some (.int W.many)
  most : dget kvs (PV.str [109, 111, 115, 116]) = some (.int W.most)
  rule : dget kvs (PV.str [114, 117, 108, 101, 95, 110, 97, 109, 101, 115]) = some (.ref A.r)
  given : dget kvs (PV.str [103, 105, 118, 101, 110, 95, 110, 97, 109, 101, 115]) = some (.ref A.g)
  rl : h A.r = some (.lst (W.rn.map .str))
  gl : h A.g = some (.lst (W.gn.map .str))
  over : dget kvs (PV.str [111, 118, 101, 114]) = some (.tup (W.over.map .str))
  row : (W.row = none → dget kvs (PV.str [114, 111, 119]) = some .non) ∧ ∀ row, W.row = some row → RowAt W A kvs h row
structure WH (W : Wd) (A : Wa) (h : PH) (kvs : List (PV × PV)) : Prop extends WB W A h kvs where
  room : ∃ r, dget kvs (PV.str [114, 111, 111, 109]) = some (.int r)
  name : dget kvs (PV.str [110, 97, 109, 101]) = some (.str W.name)
  mem : W.name ∈ W.rn
/-- the parts lie apart -/
structure Wa.ok (A : Wa) (s a : Addr) : Prop where
  w : A.w ≠ s ∧ A.w ≠ a
  r : A.r ≠ s ∧ A.r ≠ A.w
  g : A.g ≠ s ∧ A.g ≠ A.w
  row : A.row ≠ s ∧ A.row ≠ A.w
  nums : A.nums ≠ s ∧ A.nums ≠ A.w
/-- other heaps that keep the parts -/
theorem WB.to {W : Wd} {A : Wa} {h h' : PH} {kvs : List (PV × PV)} (w : WB W A h kvs) (e0 : h' A.w = h A.w) (e1 : h' A.r = h A.r) (e2 : h' A.g = h A.g) (e3 : h' A.row = h A.row) (e4 : h' A.nums = h A.nums) : WB W A h' kvs :=
  ⟨e0.trans w.dic, w.len, w.many, w.most, w.rule, w.given, e1.trans w.rl, e2.trans w.gl, w.over, w.row.1, fun row h => by
    have r := w.row.2 row h
    obtain ⟨nk, n1, n2⟩ := r.dic
    exact ⟨r.at_, e3.trans r.lst, r.len, r.nat, ⟨nk, e4.trans n1, n2⟩, r.least⟩⟩
theorem WB.fr {W : Wd} {A : Wa} {s a : Addr} {h h' : PH} {kvs : List (PV × PV)} (o : A.ok s a) (w : WB W A h kvs) (f : G.Fr [s] h h') : WB W A h' kvs := by
  have e : ∀ b, b ≠ s → h' b = h b := fun b n => f b (by simpa using n)
  exact w.to (e _ o.w.1) (e _ o.r.1) (e _ o.g.1) (e _ o.row.1) (e _ o.nums.1)
theorem WH.fr {W : Wd} {A : Wa} {s a : Addr} {h h' : PH} {kvs : List (PV × PV)} (o : A.ok s a) (w : WH W A h kvs) (f : G.Fr [s] h h') : WH W A h' kvs := ⟨w.toWB.fr o f, w.room, w.name, w.mem⟩
/-- .. that keep all that is there -/
theorem WB.kp {W : Wd} {A : Wa} {h h' : PH} {kvs : List (PV × PV)} (w : WB W A h kvs) (k : ∀ b o, h b = some o → h' b = some o) : WB W A h' kvs :=
  ⟨k _ _ w.dic, w.len, w.many, w.most, w.rule, w.given, k _ _ w.rl, k _ _ w.gl, w.over, w.row.1, fun row h => by
    have r := w.row.2 row h
    obtain ⟨nk, n1, n2⟩ := r.dic
    exact ⟨r.at_, k _ _ r.lst, r.len, r.nat, ⟨nk, k _ _ n1, n2⟩, r.least⟩⟩
theorem keep_new {h : PH} {p : Addr} {x : PO} (n : h p = none) : ∀ b o, h b = some o → up h p x b = some o := fun b o e => by
  rw [up_ne (by rintro rfl; rw [n] at e; cases e)]; exact e
theorem WB.put {W : Wd} {A : Wa} {p : Addr} {h : PH} {kvs : List (PV × PV)} {x : PO} (w : WB W A h kvs) (n : h p = none) : WB W A (up h p x) kvs := w.kp (keep_new n)
theorem WH.put {W : Wd} {A : Wa} {s a p : Addr} {h : PH} {kvs : List (PV × PV)} {x : PO} (o : A.ok s a) (w : WH W A h kvs) (n : h p = none) : WH W A (up h p x) kvs := ⟨w.toWB.put n, w.room, w.name, w.mem⟩
theorem wb_back {W : Wd} {A : Wa} {s a : Addr} {h h' : PH} {kvs kvs' : List (PV × PV)} (o : A.ok s a) (w : WB W A h kvs) (w' : WB W A h' kvs') : WB W A (G.back [s, A.w] h h') kvs' := by
  have e : ∀ {b : Addr}, b ≠ s → b ≠ A.w → G.back [s, A.w] h h' b = h b := fun {b} n1 n2 => back_fr (M := [s, A.w]) b (by simp [n1, n2])
  exact ⟨(back_in (by simp)).trans w'.dic, w'.len, w'.many, w'.most, w'.rule, w'.given, (e o.r.1 o.r.2).trans w.rl, (e o.g.1 o.g.2).trans w.gl, w'.over, w'.row.1, fun row h => by
    have r := w.row.2 row h
    have r' := w'.row.2 row h
    obtain ⟨nk, n1, n2⟩ := r.dic
    exact ⟨r'.at_, (e o.row.1 o.row.2).trans r.lst, r.len, r'.nat, ⟨nk, (e o.nums.1 o.nums.2).trans n1, n2⟩, r'.least⟩⟩
theorem wh_back {W : Wd} {A : Wa} {s a : Addr} {h h' : PH} {kvs kvs' : List (PV × PV)} (o : A.ok s a) (w : WH W A h kvs) (w' : WH W A h' kvs') : WH W A (G.back [s, A.w] h h') kvs' := ⟨wb_back o w.toWB w'.toWB, w'.room, w'.name, w'.mem⟩
theorem ds_back2 {a s w : Addr} {ns : List Int} {h h' : PH} (d : DS a ns s h) (d' : DS a ns s h') (n : w ≠ a) : DS a ns s (G.back [s, w] h h') := d.back d' (by simp) (by have := d.1; simp [this, n.symm])
/-- another entry, of none of these names -/
theorem WB.puts {W : Wd} {A : Wa} {s a : Addr} {h : PH} {kvs : List (PV × PV)} {k v : PV} (o : A.ok s a) (w : WB W A h kvs) (hl : (dput kvs k v).length ≤ 20) (hk : k ∈ [(PV.str [114, 111, 111, 109]), (PV.str [110, 97, 109, 101]), (PV.str [112, 111, 111, 108])]) : WB W A (up h A.w (.dic false none (dput kvs k v))) (dput kvs k v) := by
  have g : ∀ {k' : PV} {v' : PV}, k' ∈ [(PV.str [111, 118, 101, 114]), (PV.str [109, 97, 110, 121]), (PV.str [109, 111, 115, 116]), (PV.str [114, 117, 108, 101, 95, 110, 97, 109, 101, 115]), (PV.str [103, 105, 118, 101, 110, 95, 110, 97, 109, 101, 115]), (PV.str [114, 111, 119]), (PV.str [110, 117, 109, 98, 101, 114, 115]), (PV.str [108, 101, 97, 115, 116])] → dget kvs k' = some v' → dget (dput kvs k v) k' = some v' := fun {k' v'} m e => by
    rw [dget_dput, if_neg (by rintro rfl; simp only [List.mem_cons, List.not_mem_nil, or_false] at hk; rcases hk with rfl | rfl | rfl <;> revert m <;> decide)]; exact e
  refine ⟨up_same, hl, g (by simp) w.many, g (by simp) w.most, g (by simp) w.rule, g (by simp) w.given, by rw [up_ne o.r.2]; exact w.rl, by rw [up_ne o.g.2]; exact w.gl, g (by simp) w.over, fun e => g (by simp) (w.row.1 e), fun row h => ?_⟩
  have r := w.row.2 row h
  obtain ⟨nk, n1, n2⟩ := r.dic
  exact ⟨g (by simp) r.at_, by rw [up_ne o.row.2]; exact r.lst, r.len, g (by simp) r.nat, ⟨nk, by rw [up_ne o.nums.2]; exact n1, n2⟩, g (by simp) r.least⟩
theorem WB.nm {W : Wd} {A : Wa} {h : PH} {kvs : List (PV × PV)} (w : WB W A h kvs) (x : List Nat) : WB { W with name := x } A h kvs :=
  ⟨w.dic, w.len, w.many, w.most, w.rule, w.given, w.rl, w.gl, w.over, w.row.1, fun row h => by
    have r := w.row.2 row h
    exact ⟨r.at_, r.lst, r.len, r.nat, r.dic, r.least⟩⟩
theorem WB.nm' {W : Wd} {A : Wa} {h : PH} {kvs : List (PV × PV)} {x : List Nat} (w : WB { W with name := x } A h kvs) : WB W A h kvs :=
  ⟨w.dic, w.len, w.many, w.most, w.rule, w.given, w.rl, w.gl, w.over, w.row.1, fun row h => by
    have r := w.row.2 row h
    exact ⟨r.at_, r.lst, r.len, r.nat, r.dic, r.least⟩⟩
theorem Wd.ok.nm {W : Wd} (o : W.ok) (x : List Nat) : ({ W with name := x } : Wd).ok := ⟨o.many, o.rn, o.gn, o.rs, o.gs, o.most⟩
/-- something written that was not there at the start -/
theorem WB.put0 {W : Wd} {A : Wa} {p : Addr} {h0 h : PH} {kvs0 kvs : List (PV × PV)} {x : PO} (w0 : WB W A h0 kvs0) (w : WB W A h kvs) (n : h0 p = none) : WB W A (up h p x) kvs := by
  have ne : ∀ {b : Addr} {o : PO}, h0 b = some o → b ≠ p := fun {b o} e z => by rw [z, n] at e; cases e
  exact ⟨by rw [up_ne (ne w0.dic)]; exact w.dic, w.len, w.many, w.most, w.rule, w.given, by rw [up_ne (ne w0.rl)]; exact w.rl, by rw [up_ne (ne w0.gl)]; exact w.gl, w.over, w.row.1, fun row h => by
    have r0 := w0.row.2 row h
    have r := w.row.2 row h
    obtain ⟨nk, n1, n2⟩ := r.dic
    obtain ⟨nk0, n3, _⟩ := r0.dic
    exact ⟨r.at_, by rw [up_ne (ne r0.lst)]; exact r.lst, r.len, r.nat, ⟨nk, by rw [up_ne (ne n3)]; exact n1, n2⟩, r.least⟩⟩
/-- room and name are set -/
theorem WB.turn {W : Wd} {A : Wa} {s a : Addr} {h : PH} {kvs : List (PV × PV)} {r : Int} {nm : List Nat} (o : A.ok s a) (w : WB W A h kvs) (l : kvs.length ≤ 15 ∨ ((∃ v, dget kvs (PV.str [114, 111, 111, 109]) = some v) ∧ ∃ v, dget kvs (PV.str [110, 97, 109, 101]) = some v)) (m : nm ∈ W.rn) :
    WH { W with name := nm } A (up h A.w (.dic false none (dput (dput kvs (PV.str [114, 111, 111, 109]) (.int r)) (PV.str [110, 97, 109, 101]) (.str nm)))) (dput (dput kvs (PV.str [114, 111, 111, 109]) (.int r)) (PV.str [110, 97, 109, 101]) (.str nm)) ∧ (dput kvs (PV.str [114, 111, 111, 109]) (.int r)).length < sizeLine := by
  have l1 : (dput kvs (PV.str [114, 111, 111, 109]) (.int r)).length ≤ 20 ∧ (dput (dput kvs (PV.str [114, 111, 111, 109]) (.int r)) (PV.str [110, 97, 109, 101]) (.str nm)).length ≤ 20 := by
    rcases l with l | ⟨⟨v, e⟩, v', e'⟩
    · have := len_dput kvs (PV.str [114, 111, 111, 109]) (.int r)
      have := len_dput (dput kvs (PV.str [114, 111, 111, 109]) (.int r)) (PV.str [110, 97, 109, 101]) (.str nm)
      omega
    · have h1 := len_dput_old (v := .int r) e
      have h2 := len_dput_old (v := .str nm) (show dget (dput kvs (PV.str [114, 111, 111, 109]) (.int r)) (PV.str [110, 97, 109, 101]) = some v' by rw [dget_dput, if_neg (by decide)]; exact e')
      have := w.len
      omega
  have w1 := w.puts o (k := (PV.str [114, 111, 111, 109])) (v := .int r) l1.1 (by simp)
  have w2 := w1.puts o (k := (PV.str [110, 97, 109, 101])) (v := .str nm) l1.2 (by simp)
  rw [up_up] at w2
  refine ⟨⟨w2.nm nm, ⟨r, ?_⟩, by rw [dget_dput, if_pos rfl], m⟩, by rw [sizeLine_eq]; omega⟩
  rw [dget_dput, if_neg (by decide), dget_dput, if_pos rfl]
/-- another room -/
theorem WH.roomed {W : Wd} {A : Wa} {s a : Addr} {h : PH} {kvs : List (PV × PV)} (o : A.ok s a) (w : WH W A h kvs) (z : Int) : WH W A (up h A.w (.dic false none (dput kvs (PV.str [114, 111, 111, 109]) (.int z)))) (dput kvs (PV.str [114, 111, 111, 109]) (.int z)) := by
  obtain ⟨r0, e0⟩ := w.room
  exact ⟨w.toWB.puts o (by rw [len_dput_old e0]; exact w.len) (by simp), ⟨z, by rw [dget_dput, if_pos rfl]⟩, by rw [dget_dput, if_neg (by decide)]; exact w.name, w.mem⟩
theorem slo_take {row os : List Int} (hl : row.length = os.length) : ((List.range os.length).map fun i => (row.getD i 0) * (os.getD i 0)).sum = slo row os := by
  unfold slo
  congr 1
  apply List.ext_getElem
  · simp [hl]
  · intro i h1 h2
    simp only [List.getElem_map, List.getElem_range, List.getElem_zipWith]
    simp only [List.length_map, List.length_range] at h1
    rw [List.getD_eq_getElem?_getD, List.getD_eq_getElem?_getD, List.getElem?_eq_getElem (by omega), List.getElem?_eq_getElem (by omega)]
    rfl
theorem ints_map : ∀ l : List Int, intsP (l.map .int) = some l
  | [] => rfl
  | x :: l => by simp [intsP, ints_map l]

theorem empty_lst (l : List (List Nat)) : decide (l.map PV.str = ([] : List PV)) = l.isEmpty := by cases l <;> simp
theorem pls_strs {l : List (List Nat)} (h : ∀ x ∈ l, okS x = true) : PV.pls (l.map .str) = true ∧ PV.dps (l.map .str) = 0 := by
  induction l with
  | nil => exact ⟨rfl, rfl⟩
  | cons x l ih =>
    obtain ⟨i1, i2⟩ := ih fun y hy => h y (List.mem_cons_of_mem _ hy)
    have := dat_pl _ (okS_dat (h x List.mem_cons_self))
    exact ⟨by simp [PV.pls, this, i1], by simp [PV.dps, PV.dp, i2]⟩
/-- nothing but the room differs -/
def Rm (kvs kvs' : List (PV × PV)) : Prop := kvs'.length = kvs.length ∧ ∀ k, k ≠ (PV.str [114, 111, 111, 109]) → dget kvs' k = dget kvs k
theorem Rm.refl (kvs : List (PV × PV)) : Rm kvs kvs := ⟨rfl, fun _ _ => rfl⟩
theorem Rm.trans {a b c : List (PV × PV)} (x : Rm a b) (y : Rm b c) : Rm a c := ⟨y.1.trans x.1, fun k n => (y.2 k n).trans (x.2 k n)⟩
theorem Rm.room {kvs : List (PV × PV)} {v x : PV} (e : dget kvs (PV.str [114, 111, 111, 109]) = some x) : Rm kvs (dput kvs (PV.str [114, 111, 111, 109]) v) := ⟨len_dput_old e, fun k n => by rw [dget_dput, if_neg n]⟩

/-- from a state to a later one, s and the world changed -/
structure Gone (W : Wd) (A : Wa) (a : Addr) (ns : List Int) (s : Addr) (h h' : PH) (kvs' : List (PV × PV)) : Prop where
  d : DS a ns s h'
  w : WH W A h' kvs'
  k : Kp [s, A.w] h h'
theorem Gone.out {W : Wd} {A : Wa} {a s : Addr} {ns : List Int} {h h' : PH} {kvs kvs' : List (PV × PV)} {v : PV} {Q : QV} (d : DS a ns s h) (o : A.ok s a) (w : WH W A h kvs) (g : Gone W A a ns s h h' kvs')
    (q : ∀ h2, DS a ns s h2 → WH W A h2 kvs' → G.Fr [s, A.w] h h2 → Q v h2) : ∃ h2, G.Sub h2 h' ∧ Q v h2 := ⟨G.back [s, A.w] h h', back_sub g.k, q _ (ds_back2 d g.d o.w.2) (wh_back o w g.w) back_fr⟩
theorem Gone.fr {W : Wd} {A : Wa} {a s : Addr} {ns : List Int} {h h1 h2 : PH} {kvs : List (PV × PV)} (g : Gone W A a ns s h h1 kvs) (o : A.ok s a) (d : DS a ns s h2) (f : G.Fr [s] h1 h2) : Gone W A a ns s h h2 kvs :=
  ⟨d, g.w.fr o f, g.k.trans fun b o' n e => (f b (by simp at n ⊢; exact n.1)).trans e⟩
theorem Gone.fr2 {W : Wd} {A : Wa} {a s : Addr} {ns : List Int} {h h1 h2 : PH} {kvs kvs2 : List (PV × PV)} (g : Gone W A a ns s h h1 kvs) (d : DS a ns s h2) (w : WH W A h2 kvs2) (f : G.Fr [s, A.w] h1 h2) : Gone W A a ns s h h2 kvs2 :=
  ⟨d, w, g.k.trans f.kp⟩
theorem Gone.new {W : Wd} {A : Wa} {a s p : Addr} {ns : List Int} {h h1 : PH} {kvs : List (PV × PV)} {x : PO} (g : Gone W A a ns s h h1 kvs) (o : A.ok s a) (n : h1 p = none) : Gone W A a ns s h (up h1 p x) kvs :=
  ⟨g.d.new n, g.w.put o n, g.k.new n⟩
theorem op_at {v : Int} (h0 : 0 ≤ v) (h1 : v < 4) : ∃ o : Op2, atI [(PV.str [112, 108, 117, 115]), (PV.str [109, 105, 110, 117, 115]), (PV.str [108, 101, 97, 115, 116]), (PV.str [103, 114, 101, 97, 116, 101, 115, 116])] v = some (.str o.cs) := by
  rcases (show v = 0 ∨ v = 1 ∨ v = 2 ∨ v = 3 by omega) with rfl | rfl | rfl | rfl
  · exact ⟨.plus, by rw [at0]; rfl⟩
  · exact ⟨.minus, by rw [at1]; rfl⟩
  · exact ⟨.least, by rw [at2]; rfl⟩
  · exact ⟨.greatest, by rw [at3]; rfl⟩
theorem sg_at {v : Int} (h0 : 0 ≤ v) (h1 : v < 6) : ∃ o : Sg, atI [(PV.str [60]), (PV.str [60, 61]), (PV.str [62]), (PV.str [62, 61]), (PV.str [61, 61]), (PV.str [33, 61])] v = some (.str o.cs) := by
  rcases (show v = 0 ∨ v = 1 ∨ v = 2 ∨ v = 3 ∨ v = 4 ∨ v = 5 by omega) with rfl | rfl | rfl | rfl | rfl | rfl
  · exact ⟨.lt, by rw [at0]; rfl⟩
  · exact ⟨.le, by rw [at1]; rfl⟩
  · exact ⟨.gt, by rw [at2]; rfl⟩
  · exact ⟨.ge, by rw [at3]; rfl⟩
  · exact ⟨.eq, by rw [at4]; rfl⟩
  · exact ⟨.ne, by rw [at5]; rfl⟩

/-! ### tables -/
structure Giv where
  name : List Nat
  rim : Int
  lo : Option Int
  hi : Option Int
structure Row where
  name : List Nat
  rim : Int
  e : Ex
structure Tb where
  over : List (List Nat)
  gs : List Giv
  rs : List Row
def Giv.P (g : Giv) : PV := givP g.name g.rim g.lo g.hi
def Row.P (r : Row) : PV := .tup [.str r.name, .int r.rim, r.e.P]
def Tb.P (t : Tb) : PV := .tup [.tup (t.over.map .str), .tup (t.gs.map Giv.P), .tup (t.rs.map Row.P), .tup []]
def Giv.ok (g : Giv) : Prop := okS g.name = true ∧ -4 ≤ g.rim ∧ g.rim ≤ 4 ∧ (∀ l, g.lo = some l → g.rim - 4 < l ∧ l ≤ g.rim) ∧ ∀ u, g.hi = some u → g.rim ≤ u ∧ u < g.rim + 4
theorem strs_back : ∀ {l : List PV}, (∀ p ∈ l, ∃ x, p = PV.str x) → ∃ r : List (List Nat), l = r.map .str
  | [], _ => ⟨[], rfl⟩
  | p :: l, h => by
    obtain ⟨x, rfl⟩ := h p List.mem_cons_self
    obtain ⟨r, rfl⟩ := strs_back fun q hq => h q (List.mem_cons_of_mem _ hq)
    exact ⟨x :: r, rfl⟩
def unstr : PV → List Nat
  | .str x => x
  | _ => []
theorem unstr_map (l : List (List Nat)) : (l.map PV.str).map unstr = l := by
  rw [List.map_map]
  have : (unstr ∘ PV.str) = id := rfl
  rw [this, List.map_id]
theorem sort_strs {l : List (List Nat)} (h : ∀ x ∈ l, okS x = true) : sortOk (l.map .str) = true ∧ ∃ r : List (List Nat), isort (l.map .str) = r.map .str ∧ r.Perm l := by
  obtain ⟨h1, h2⟩ := pls_strs h
  refine ⟨?_, ?_⟩
  · unfold sortOk
    simp only [Bool.and_eq_true, Bool.or_eq_true, decide_eq_true_eq, List.all_eq_true, h1, h2]
    refine ⟨⟨⟨trivial, by omega⟩, fun p hp q hq => ?_⟩, .inl (.inl (.inl (.inr fun p hp => ?_)))⟩
    · obtain ⟨x, _, rfl⟩ := List.mem_map.mp hp
      obtain ⟨y, _, rfl⟩ := List.mem_map.mp hq
      rfl
    · obtain ⟨x, _, rfl⟩ := List.mem_map.mp hp
      rfl
  · have pm := isort_perm (l.map .str)
    obtain ⟨r, e⟩ := strs_back (l := isort (l.map .str)) fun p hp => by
      obtain ⟨x, _, rfl⟩ := List.mem_map.mp (pm.mem_iff.mp hp)
      exact ⟨x, rfl⟩
    refine ⟨r, e, ?_⟩
    rw [e] at pm
    have q := pm.map unstr
    rw [unstr_map, unstr_map] at q
    exact q
theorem tw_all {α : Type} {p : α → Bool} : ∀ {l : List α}, (∀ x ∈ l, p x = true) → l.takeWhile p = l ∧ l.dropWhile p = []
  | [], _ => ⟨rfl, rfl⟩
  | x :: l, h => by
    have hx := h x List.mem_cons_self
    obtain ⟨i1, i2⟩ := tw_all (l := l) fun y hy => h y (List.mem_cons_of_mem _ hy)
    exact ⟨by rw [List.takeWhile_cons_of_pos hx, i1], by rw [List.dropWhile_cons_of_pos hx, i2]⟩
theorem isort_app : ∀ (rest acc : List PV), SrtO.Srtd PV.o (acc ++ rest) → rest.foldl insO acc = acc ++ rest
  | [], acc, _ => by simp
  | y :: rest, acc, h => by
    have e : insO acc y = acc ++ [y] := by
      have hall : ∀ x ∈ acc, PV.o y x = false := fun x hx => (List.pairwise_append.mp h).2.2 x hx y List.mem_cons_self
      obtain ⟨w1, w2⟩ := tw_all (p := fun x => !PV.o y x) (l := acc) fun x hx => by rw [hall x hx]; rfl
      unfold insO
      rw [w1, w2]
    rw [List.foldl_cons, e, isort_app rest (acc ++ [y]) (by simpa using h)]
    simp
theorem isort_id {l : List PV} (h : SrtO.Srtd PV.o l) : isort l = l := by
  have := isort_app l [] (by simpa using h)
  simpa [isort] using this
theorem isort_isort (l : List PV) : isort (isort l) = isort l := isort_id (isort_ok l).1
theorem c_table_world2 {k : Nat} (hk : 3 ≤ k) {a s : Addr} {ns : List Int} {many rules givens : Nat} {h : PH} {Q : QV} (d : DS a ns s h) (hm : 1 ≤ many ∧ many ≤ 3) (hr : 1 ≤ rules ∧ rules ≤ 8) (hg : givens ≤ 8)
    (q : ∀ (over rn gn : List (List Nat)) (A : Wa) (kvs : List (PV × PV)) h', over.length = many → rn.length = rules → gn.length = givens → (over ++ (rn ++ gn)).Nodup → (∀ x ∈ over ++ (rn ++ gn), okS x = true) →
      DS a ns s h' → WB ⟨over, many, rn, gn, 2, none, fun _ => 0, 0, []⟩ A h' kvs → A.ok s a → kvs.length ≤ 7 → Kp [s] h h' → h A.w = none → isort (rn.map .str) = rn.map .str → (∀ x ∈ over ++ (rn ++ gn), 95 ∉ x) → Q (.ref A.w) h') : (wC k)._law_table_world [.ref s, .int many, .int rules, .int givens] h Q := by
  obtain ⟨k, rfl⟩ : ∃ j, k = j + 1 := ⟨k - 1, by omega⟩
  show zFn _ _ (b__law_table_world (wC k)) _ h Q
  unfold b__law_table_world
  dsimp! []
  have en : ((many : Int) + (rules : Int)) + (givens : Int) = ((many + rules + givens : Nat) : Int) := by omega
  rw [en]
  refine c_words2 (by omega) d (by omega) fun ws p h1 lw nd okw nou d1 f1 np => ?_
  have hlw : (ws.map PV.str).length = many + rules + givens := by rw [List.length_map]; exact lw
  dsimp! [cut_to (show (0 : Int) ≤ many by omega)]
  intro p1 np1
  dsimp! []
  have e1 : p ≠ p1 := by rintro rfl; rw [up_same] at np1; cases np1
  dsimp! [up_ne e1, cut_nn (show (0 : Int) ≤ many by omega) (show (0 : Int) ≤ (many : Int) + rules by omega) (show ((many : Nat) : Int).toNat ≤ (ws.map PV.str).length by omega)]
  intro p2 np2
  have t1 : ((ws.map PV.str).drop (many : Int).toNat).take (((many : Int) + rules).toNat - (many : Int).toNat) = ((ws.drop many).take rules).map .str := by
    rw [show ((many : Int)).toNat = many by omega, show ((many : Int) + rules).toNat - many = rules by omega, ← List.map_drop, ← List.map_take]
  have t2 : ((ws.map PV.str).drop ((many : Int) + rules).toNat) = (ws.drop (many + rules)).map .str := by
    rw [show ((many : Int) + rules).toNat = many + rules by omega, ← List.map_drop]
  have t3 : (ws.map PV.str).take (many : Int).toNat = (ws.take many).map .str := by rw [show ((many : Int)).toNat = many by omega, ← List.map_take]
  rw [t1, t3]
  rw [t3] at np2
  obtain ⟨s1, rn, i1, pm1⟩ := sort_strs (l := (ws.drop many).take rules) fun x hx => okw x (List.mem_of_mem_drop (List.mem_of_mem_take hx))
  obtain ⟨s2, gn, i2, pm2⟩ := sort_strs (l := ws.drop (many + rules)) fun x hx => okw x (List.mem_of_mem_drop hx)
  dsimp! [s1, i1]
  intro r1 nr1
  dsimp! [dputs]
  refine ⟨by decide, rfl, fun w nw => ?_⟩
  -- what stands where
  have hp4 := keep_new nw (x := .dic false none (List.foldl (fun acc kv => dput acc kv.fst kv.snd) [] [(PV.str [109, 97, 110, 121], .int many), (PV.str [111, 118, 101, 114], .tup ((ws.take many).map .str)), (PV.str [114, 117, 108, 101, 95, 110, 97, 109, 101, 115], .ref r1), (PV.str [109, 111, 115, 116], .int 2)])) p _ (keep_new nr1 p _ (keep_new np2 p _ (keep_new np1 p _ up_same)))
  have hr4 := keep_new nw (x := .dic false none (List.foldl (fun acc kv => dput acc kv.fst kv.snd) [] [(PV.str [109, 97, 110, 121], .int many), (PV.str [111, 118, 101, 114], .tup ((ws.take many).map .str)), (PV.str [114, 117, 108, 101, 95, 110, 97, 109, 101, 115], .ref r1), (PV.str [109, 111, 115, 116], .int 2)])) r1 _ up_same
  have d5 := ((((d1.new np (o := .lst (ws.map PV.str))).new np1 (o := .lst ((ws.take many).map .str))).new np2 (o := .lst (((ws.drop many).take rules).map .str))).new nr1 (o := .lst (rn.map .str))).new nw (o := .dic false none (List.foldl (fun acc kv => dput acc kv.fst kv.snd) [] [(PV.str [109, 97, 110, 121], .int many), (PV.str [111, 118, 101, 114], .tup ((ws.take many).map .str)), (PV.str [114, 117, 108, 101, 95, 110, 97, 109, 101, 115], .ref r1), (PV.str [109, 111, 115, 116], .int 2)]))
  have k5 := ((((f1.kp.new np (o := .lst (ws.map PV.str))).new np1 (o := .lst ((ws.take many).map .str))).new np2 (o := .lst (((ws.drop many).take rules).map .str))).new nr1 (o := .lst (rn.map .str)))
  have nwh : h w = none := by
    cases e : h w with
    | none => rfl
    | some o =>
      by_cases hs : w = s
      · subst hs
        obtain ⟨_, _, i, c, n, es⟩ := ((((d1.new np (o := .lst (ws.map PV.str))).new np1 (o := .lst ((ws.take many).map .str))).new np2 (o := .lst (((ws.drop many).take rules).map .str))).new nr1 (o := .lst (rn.map .str)))
        rw [nw] at es; cases es
      · have := k5 w o (by simpa using hs) e
        rw [nw] at this; cases this
  have k6 := k5.new nw (o := .dic false none (List.foldl (fun acc kv => dput acc kv.fst kv.snd) [] [(PV.str [109, 97, 110, 121], .int many), (PV.str [111, 118, 101, 114], .tup ((ws.take many).map .str)), (PV.str [114, 117, 108, 101, 95, 110, 97, 109, 101, 115], .ref r1), (PV.str [109, 111, 115, 116], .int 2)]))
  have hw4 : ∀ (g : PH) (o : PO), up g w o w = some o := fun g o => up_same
  have hw5 := hw4 (up (up (up (up h1 p (PO.lst (List.map PV.str ws))) p1 (PO.lst (List.map PV.str (List.take many ws)))) p2 (PO.lst (List.map PV.str (List.take rules (List.drop many ws))))) r1 (PO.lst (List.map PV.str rn))) (.dic false none (List.foldl (fun acc kv => dput acc kv.fst kv.snd) [] [(PV.str [109, 97, 110, 121], .int many), (PV.str [111, 118, 101, 114], .tup ((ws.take many).map .str)), (PV.str [114, 117, 108, 101, 95, 110, 97, 109, 101, 115], .ref r1), (PV.str [109, 111, 115, 116], .int 2)]))
  generalize up (up (up (up (up h1 p (PO.lst (List.map PV.str ws))) p1 (PO.lst (List.map PV.str (List.take many ws)))) p2 (PO.lst (List.map PV.str (List.take rules (List.drop many ws))))) r1 (PO.lst (List.map PV.str rn))) w (.dic false none (List.foldl (fun acc kv => dput acc kv.fst kv.snd) [] [(PV.str [109, 97, 110, 121], .int many), (PV.str [111, 118, 101, 114], .tup ((ws.take many).map .str)), (PV.str [114, 117, 108, 101, 95, 110, 97, 109, 101, 115], .ref r1), (PV.str [109, 111, 115, 116], .int 2)])) = H5 at hp4 hr4 d5 k6 hw5 ⊢
  have hwr : r1 ≠ w := by rintro rfl; rw [hw5] at hr4; cases hr4
  dsimp! [hp4, cut_from (show (0 : Int) ≤ (many : Int) + rules by omega)]
  rw [t2]
  intro p6 np6
  dsimp! [s2, i2]
  intro g ng
  have hg6 : p6 ≠ g := by rintro rfl; rw [up_same] at ng; cases ng
  have d6 := d5.new np6 (o := .lst ((ws.drop (many + rules)).map .str))
  have wp6 : w ≠ p6 := by rintro rfl; rw [hw5] at np6; cases np6
  have wg : w ≠ g := by rintro rfl; rw [up_ne wp6, hw5] at ng; cases ng
  have rp6 : r1 ≠ p6 := by rintro rfl; rw [hr4] at np6; cases np6
  have rg : r1 ≠ g := by rintro rfl; rw [up_ne rp6, hr4] at ng; cases ng
  dsimp! [up_ne wg, up_ne wp6, hw5]
  refine ⟨rfl, by show 4 < sizeLine; decide, rfl, by show 5 < sizeLine; decide, ?_⟩
  have dg := d6.new ng (o := .lst (gn.map .str))
  have wne : w ≠ s ∧ w ≠ a := by
    constructor
    · rintro rfl
      obtain ⟨_, _, i, c, n, es⟩ := d5
      rw [hw5] at es; cases es
    · rintro rfl
      obtain ⟨_, es, _⟩ := d5
      rw [hw5] at es; cases es
  have rne : r1 ≠ s := by
    rintro rfl
    have hne := d.1
    obtain ⟨_, _, i, c, n, es⟩ := d5
    rw [hr4] at es; cases rn <;> simp at es
  have gne : g ≠ s := d6.ne ng
  refine ⟨_, G.Sub.refl _, ?_⟩
  have hwsl : (ws.take many).length = many := by rw [List.length_take]; omega
  have pm : ((ws.take many) ++ (rn ++ gn)).Perm ws := by
    have e0 : ws = ws.take many ++ ((ws.drop many).take rules ++ ws.drop (many + rules)) := by
      rw [show ws.drop (many + rules) = (ws.drop many).drop rules by rw [List.drop_drop], List.take_append_drop, List.take_append_drop]
    exact (List.Perm.append_left _ (List.Perm.append pm1 pm2)).trans (List.Perm.of_eq e0.symm)
  refine q (ws.take many) rn gn ⟨w, r1, g, r1, r1⟩ _ _ hwsl ?_ ?_ (pm.nodup_iff.mpr nd) (fun x hx => okw x (pm.mem_iff.mp hx)) (dg.put wne.2 wne.1) ⟨up_same, by show 6 ≤ 20; decide, rfl, rfl, rfl, rfl, ?_, ?_, rfl, fun _ => rfl, fun row e => nomatch e⟩ ⟨wne, ⟨rne, hwr⟩, ⟨gne, wg.symm⟩, ⟨rne, hwr⟩, ⟨rne, hwr⟩⟩ (by show 6 ≤ 7; decide) ?_ nwh (by rw [← i1, isort_isort]) (fun x hx => nou x (pm.mem_iff.mp hx))
  · rw [pm1.length_eq, List.length_take, List.length_drop]; omega
  · rw [pm2.length_eq, List.length_drop]; omega
  · rw [up_ne hwr, up_ne rg, up_ne rp6]; exact hr4
  · rw [up_ne wg.symm]; exact up_same
  · exact ((k6.new np6).new ng).put0 nwh
theorem c_table_world {k : Nat} (hk : 3 ≤ k) {a s : Addr} {ns : List Int} {many rules givens : Nat} {h : PH} {Q : QV} (d : DS a ns s h) (hm : 1 ≤ many ∧ many ≤ 3) (hr : 1 ≤ rules ∧ rules ≤ 8) (hg : givens ≤ 8)
    (q : ∀ (over rn gn : List (List Nat)) (A : Wa) (kvs : List (PV × PV)) h', over.length = many → rn.length = rules → gn.length = givens → (over ++ (rn ++ gn)).Nodup → (∀ x ∈ over ++ (rn ++ gn), okS x = true) →
      DS a ns s h' → WB ⟨over, many, rn, gn, 2, none, fun _ => 0, 0, []⟩ A h' kvs → A.ok s a → kvs.length ≤ 7 → Kp [s] h h' → h A.w = none → Q (.ref A.w) h') : (wC k)._law_table_world [.ref s, .int many, .int rules, .int givens] h Q :=
  c_table_world2 hk d hm hr hg fun over rn gn A kvs h' a b c e f g i j l m n _ _ => q over rn gn A kvs h' a b c e f g i j l m n

theorem c_given_rows {k : Nat} (hk : 4 ≤ k) {a s l : Addr} {ns : List Int} {gn : List (List Nat)} (okg : ∀ x ∈ gn, okS x = true) (hl : gn.length ≤ 1000) (hne : l ≠ s) {ρ : Ev} {h : PH} (d : DS a ns s h) (hgl : h l = some (.lst (gn.map .str))) {c : Cs} (hc : c = wC (k - 1)) {Q : List PV → PH → Prop} {te : ZE} {j : Nat}
    (run : ∀ (x : List Nat) (h' : PH) (R : QV), c._law_given_row [.ref s, .str x] h' R → te (ρ.set j (some (.str x))) h' R)
    (q : ∀ (gs : List Giv) h', gs.map Giv.name = gn → (∀ g ∈ gs, g.ok) → DS a ns s h' → G.Fr [s] h h' → Q (gs.map Giv.P) h') : LcW (ZitL l) (zgName j) ztYes te ρ h Q := by
  refine lcW_L (ps := gn.map .str) (by rw [sizeLine_eq, List.length_map]; omega) (fun i acc h' => ∃ gs : List Giv, acc = gs.map Giv.P ∧ gs.length = i ∧ gs.map Giv.name = gn.take i ∧ (∀ g ∈ gs, g.ok) ∧ DS a ns s h' ∧ G.Fr [s] h h') ⟨[], rfl, rfl, rfl, by simp, d, G.Fr.refl _ _⟩
    (fun i acc h' ⟨gs, e, l, _⟩ => by rw [e, List.length_map, l]; exact Nat.le_refl _) (fun i acc h' _ ⟨gs, _, _, _, _, _, f⟩ => (f l (by simpa using hne)).trans hgl) ?_ ?_
  · rintro i _ h1 p e ⟨gs, rfl, l1, n1, b1, d1, f1⟩
    rw [List.getElem?_map] at e
    obtain ⟨x, ex, rfl⟩ := Option.map_eq_some_iff.mp e
    dsimp! []
    refine run x h1 _ ?_
    rw [hc]
    refine c_given_row (by omega) d1 fun rim lo hi h2 r0 r1 b2 b3 d2 f2 => ⟨h2, G.Sub.refl _, gs ++ [⟨x, rim, lo, hi⟩], by simp [Giv.P], by simp [l1], ?_, fun g hg => ?_, d2, f1.trans f2⟩
    · rw [List.map_append, n1, List.take_add_one, ex]; rfl
    · rcases List.mem_append.mp hg with hg | hg
      · exact b1 g hg
      · simp at hg; subst hg
        exact ⟨okg x (List.mem_of_getElem? ex), r0, r1, b2, b3⟩
  · rintro _ h1 ⟨gs, rfl, l1, n1, b1, d1, f1⟩
    rw [List.length_map, List.take_length] at n1
    exact q gs h1 n1 b1 d1 f1

/-! ### parts of expressions -/
/-- a part: no tuple, or an expression -/
inductive Kid
  | val (v : PV) | ex (e : Ex)
def Kid.P : Kid → PV
  | .val v => v
  | .ex e => e.P
def Ex.hd : Ex → List Nat
  | .num _ => ([110, 117, 109, 98, 101, 114] : List Nat) | .ctr _ => ([99, 111, 117, 110, 116, 101, 114] : List Nat) | .cell _ _ => ([99, 101, 108, 108] : List Nat) | .neg _ => ([110, 101, 103, 97, 116, 101] : List Nat) | .scl _ _ => ([115, 99, 97, 108, 101] : List Nat) | .bin o _ _ => o.cs | .pick .. => ([112, 105, 99, 107] : List Nat)
def Ex.kids : Ex → List Kid
  | .num n => [.val (.int n)]
  | .ctr n => [.val (.int n)]
  | .cell _ _ => []
  | .neg a => [.ex a]
  | .scl n a => [.val (.int n), .ex a]
  | .bin _ a b => [.ex a, .ex b]
  | .pick s a b c d => [.val (.str s.cs), .ex a, .ex b, .ex c, .ex d]
def Ex.isCell : Ex → Bool
  | .cell _ _ => true | _ => false
theorem Ex.P_kids {e : Ex} (h : e.isCell = false) : e.P = .tup (.str e.hd :: e.kids.map Kid.P) := by cases e <;> first | rfl | cases h
theorem Ex.P_tup (e : Ex) : ∃ r, e.P = .tup (.str e.hd :: r) := by cases e <;> exact ⟨_, rfl⟩
theorem hd_cell {e : Ex} (h : e.isCell = false) : decide (e.hd = ([99, 101, 108, 108] : List Nat)) = false := by
  cases e with
  | bin o a b => cases o <;> rfl
  | cell _ _ => cases h
  | _ => rfl
theorem kid_val {e : Ex} {v : PV} (h : Kid.val v ∈ e.kids) : (∃ n, v = .int n) ∨ ∃ x, v = .str x := by cases e <;> simp [Ex.kids] at h <;> first | exact .inl ⟨_, h⟩ | exact .inr ⟨_, h⟩
theorem kid_dep {e c : Ex} (h : Kid.ex c ∈ e.kids) : c.dep + 1 ≤ e.dep := by
  cases e with
  | num n => simp [Ex.kids] at h
  | ctr n => simp [Ex.kids] at h
  | cell x os => simp [Ex.kids] at h
  | neg a => simp [Ex.kids] at h; subst h; simp [Ex.dep]
  | scl n a => simp [Ex.kids] at h; subst h; simp [Ex.dep]
  | bin o a b => simp [Ex.kids] at h; simp only [Ex.dep]; rcases h with rfl | rfl <;> omega
  | pick s a b c d => simp [Ex.kids] at h; simp only [Ex.dep]; rcases h with rfl | rfl | rfl | rfl <;> omega
theorem kid_al {F : List Nat → List Int → Prop} {e c : Ex} (w : e.Al F) (h : Kid.ex c ∈ e.kids) : c.Al F := by
  cases e with
  | num n => simp [Ex.kids] at h
  | ctr n => simp [Ex.kids] at h
  | cell x os => simp [Ex.kids] at h
  | neg a => simp [Ex.kids] at h; subst h; exact w
  | scl n a => simp [Ex.kids] at h; subst h; exact w.2
  | bin o a b => simp [Ex.kids] at h; rcases h with rfl | rfl <;> first | exact w.1 | exact w.2
  | pick s a b c d => simp [Ex.kids] at h; rcases h with rfl | rfl | rfl | rfl <;> first | exact w.1 | exact w.2.1 | exact w.2.2.1 | exact w.2.2.2
theorem kids_len (e : Ex) : e.kids.length ≤ 5 := by cases e <;> simp [Ex.kids]
def Ex.refs : Ex → List (List Nat × List Int)
  | .num _ => []
  | .ctr _ => []
  | .cell x os => [(x, os)]
  | .neg a => a.refs
  | .scl _ a => a.refs
  | .bin _ a b => a.refs ++ b.refs
  | .pick _ a b c d => a.refs ++ (b.refs ++ (c.refs ++ d.refs))
def Kid.refs : Kid → List (List Nat × List Int)
  | .val _ => []
  | .ex e => e.refs
theorem refs_kids {e : Ex} (h : e.isCell = false) : e.refs = e.kids.flatMap Kid.refs := by cases e <;> first | (cases h; done) | simp [Ex.refs, Ex.kids, Kid.refs]
theorem refs_len : ∀ e : Ex, e.refs.length ≤ 4 ^ e.dep
  | .num _ => by simp [Ex.refs]
  | .ctr _ => by simp [Ex.refs]
  | .cell _ _ => by simp [Ex.refs, Ex.dep]
  | .neg a => by
    have := refs_len a
    simp only [Ex.refs, Ex.dep, Nat.pow_succ]; omega
  | .scl _ a => by
    have := refs_len a
    simp only [Ex.refs, Ex.dep, Nat.pow_succ]; omega
  | .bin _ a b => by
    have h1 := refs_len a
    have h2 := refs_len b
    have l1 := Nat.pow_le_pow_right (n := 4) (by omega) (Nat.le_max_left a.dep b.dep)
    have l2 := Nat.pow_le_pow_right (n := 4) (by omega) (Nat.le_max_right a.dep b.dep)
    simp only [Ex.refs, Ex.dep, Nat.pow_succ, List.length_append]; omega
  | .pick _ a b c d => by
    have h1 := refs_len a
    have h2 := refs_len b
    have h3 := refs_len c
    have h4 := refs_len d
    have l1 := Nat.pow_le_pow_right (n := 4) (by omega) (show a.dep ≤ max (max a.dep b.dep) (max c.dep d.dep) by omega)
    have l2 := Nat.pow_le_pow_right (n := 4) (by omega) (show b.dep ≤ max (max a.dep b.dep) (max c.dep d.dep) by omega)
    have l3 := Nat.pow_le_pow_right (n := 4) (by omega) (show c.dep ≤ max (max a.dep b.dep) (max c.dep d.dep) by omega)
    have l4 := Nat.pow_le_pow_right (n := 4) (by omega) (show d.dep ≤ max (max a.dep b.dep) (max c.dep d.dep) by omega)
    simp only [Ex.refs, Ex.dep, Nat.pow_succ, List.length_append]; omega
def refP (r : List Nat × List Int) : PV := .tup [(PV.str [99, 101, 108, 108]), .str r.1, .tup (r.2.map .int)]
theorem pow9 {n : Nat} (h : n ≤ 9) : 4 ^ n ≤ 262144 := Nat.le_trans (Nat.pow_le_pow_right (by omega) h) (by decide)
theorem flat_take {e : Ex} {i : Nat} {c : Kid} (h : e.kids[i]? = some c) : ((e.kids.take (i + 1)).flatMap Kid.refs) = (e.kids.take i).flatMap Kid.refs ++ c.refs := by
  rw [List.take_add_one, h]; simp
theorem flat_le {e : Ex} (i : Nat) (h : e.isCell = false) : ((e.kids.take i).flatMap Kid.refs).length ≤ e.refs.length := by
  rw [refs_kids h]
  conv => rhs; rw [← List.take_append_drop i e.kids]
  rw [List.flatMap_append, List.length_append]; omega
/-- a new list, all else as it was -/
theorem new_out {h h' : PH} {p : Addr} {xs : List PV} {Q : QV} (k : Kp [] h h') (n : h p = none) (e : h' p = some (.lst xs)) (q : Q (.ref p) (up h p (.lst xs))) : ∃ h2, G.Sub h2 h' ∧ Q (.ref p) h2 :=
  ⟨_, fun b o eb => by
    by_cases hb : b = p
    · subst hb; rw [up_same] at eb; cases eb; exact e
    · rw [up_ne hb] at eb; exact k b o (by simp) eb, q⟩
theorem kp_fresh {h h' : PH} {p : Addr} (k : Kp [] h h') (n : h' p = none) : h p = none := by
  cases e : h p with
  | none => rfl
  | some o => have := k p o (by simp) e; rw [n] at this; cases this
theorem c_refs : ∀ (n : Nat) (e : Ex), e.dep ≤ n → n ≤ 9 → ∀ {k : Nat}, n + 1 ≤ k → ∀ {h : PH} {Q : QV}, (∀ p, h p = none → Q (.ref p) (up h p (.lst (e.refs.map refP)))) → (wC k)._law_refs [e.P] h Q := by
  intro n
  induction n with
  | zero => exact fun e he h9 {k} hk {h Q} q => body 0 (fun c hc => absurd hc (by omega)) e he h9 hk q
  | succ n ih => exact fun e he h9 {k} hk {h Q} q => body (n + 1) (fun c hc => by
      intro k' hk' h' Q' q'
      exact ih c (by omega) (by omega) (by omega) q') e he h9 hk q
where
  body (n : Nat) (ih : ∀ c : Ex, c.dep + 1 ≤ n → ∀ {k : Nat}, n ≤ k → ∀ {h : PH} {Q : QV}, (∀ p, h p = none → Q (.ref p) (up h p (.lst (c.refs.map refP)))) → (wC k)._law_refs [c.P] h Q) (e : Ex) (he : e.dep ≤ n) (h9 : n ≤ 9) {k : Nat} (hk : n + 1 ≤ k) {h : PH} {Q : QV}
      (q : ∀ p, h p = none → Q (.ref p) (up h p (.lst (e.refs.map refP)))) : (wC k)._law_refs [e.P] h Q := by
    obtain ⟨k, rfl⟩ : ∃ j, k = j + 1 := ⟨k - 1, by omega⟩
    show zFn _ _ (b__law_refs (wC k)) _ h Q
    unfold b__law_refs
    cases hc : e.isCell with
    | true =>
      cases e <;> first | (cases hc; done) | skip
      rename_i x os
      show zFn _ _ _ [refP (x, os)] h Q
      unfold refP
      dsimp! []
      rw [zSeq_x]; dsimp! []
      exact ⟨by decide, fun p np => ⟨_, G.Sub.refl _, q p np⟩⟩
    | false =>
      rw [Ex.P_kids hc]
      dsimp! []
      rw [zSeq_x]; dsimp! [hd_cell hc]
      refine ⟨by decide, fun p0 np0 => ?_⟩
      rw [zSeq_x]
      dsimp! [cut_from (show (0 : Int) ≤ 1 by omega), show (1 : Int).toNat = 1 from rfl, List.drop_succ_cons, List.drop_zero]
      refine forW_V (fun i ρ' h' => ∃ (p : Addr) (x : Option PV), ρ' = [some (.tup (.str e.hd :: e.kids.map Kid.P)), some (.ref p), x] ∧ Kp [] h h' ∧ h p = none ∧ h' p = some (.lst (((e.kids.take i).flatMap Kid.refs).map refP))) ⟨p0, none, rfl, kp_new np0, np0, up_same⟩ ?_ ?_
      · rintro i _ h1 p ep ⟨pl, x, rfl, k1, n1, e1⟩
        rw [List.getElem?_map] at ep
        obtain ⟨c, ec, rfl⟩ := Option.map_eq_some_iff.mp ep
        cases c with
        | val v =>
          have fin : ∃ h2, G.Sub h2 h1 ∧ ∃ (p : Addr) (x : Option PV), [some (PV.tup (.str e.hd :: e.kids.map Kid.P)), some (.ref pl), some v] = [some (.tup (.str e.hd :: e.kids.map Kid.P)), some (.ref p), x] ∧ Kp [] h h2 ∧ h p = none ∧ h2 p = some (.lst (((e.kids.take (i + 1)).flatMap Kid.refs).map refP)) :=
            ⟨h1, G.Sub.refl _, pl, some v, rfl, k1, n1, by rw [flat_take ec]; simpa [Kid.refs] using e1⟩
          rcases kid_val (List.mem_of_getElem? ec) with ⟨m, rfl⟩ | ⟨m, rfl⟩
          · simp only [Kid.P]
            dsimp! [show decide (Ty.tuple = Ty.int) = false from rfl]
            exact fin
          · simp only [Kid.P]
            dsimp! [show decide (Ty.tuple = Ty.str) = false from rfl]
            exact fin
        | ex c =>
          obtain ⟨r, er⟩ := Ex.P_tup c
          simp only [Kid.P]
          have hcall : (wC k)._law_refs [c.P] h1 (fun q h2 => zAdd (.ref pl) q h2 fun p h1 => ∃ h2, G.Sub h2 h1 ∧ ∃ (p_1 : Addr) (x : Option PV), [some (PV.tup (.str e.hd :: e.kids.map Kid.P)), some p, some c.P] = [some (.tup (.str e.hd :: e.kids.map Kid.P)), some (.ref p_1), x] ∧ Kp [] h h2 ∧ h p_1 = none ∧ h2 p_1 = some (.lst (((e.kids.take (i + 1)).flatMap Kid.refs).map refP))) := by
            refine ih c (by have := kid_dep (List.mem_of_getElem? ec); omega) (by omega) fun p2 n2 => ?_
            have ne : pl ≠ p2 := by rintro rfl; rw [e1] at n2; cases n2
            dsimp! [up_ne ne, e1]
            refine ⟨?_, fun p3 n3 => ?_⟩
            · have b1 := flat_le i hc
              have b2 := refs_len e
              have b3 := pow9 (show e.dep ≤ 9 by omega)
              have b4 := refs_len c
              have b5 := pow9 (show c.dep ≤ 9 by have := kid_dep (List.mem_of_getElem? ec); omega)
              rw [sizeLine_eq, List.length_map, List.length_map]; omega
            · have k3 : Kp [] h (up (up h1 p2 (.lst (c.refs.map refP))) p3 (.lst (((e.kids.take i).flatMap Kid.refs).map refP ++ c.refs.map refP))) := (k1.new n2).new n3
              exact ⟨_, G.Sub.refl _, p3, some c.P, rfl, k3, kp_fresh (k1.new n2) n3, by rw [up_same, flat_take ec, List.map_append]; rfl⟩
          rw [er] at hcall ⊢
          dsimp! [show decide (Ty.tuple = Ty.tuple) = true from rfl]
          exact hcall
      · rintro _ h1 ⟨pl, x, rfl, k1, n1, e1⟩
        rw [List.length_map, List.take_length, ← refs_kids hc] at e1
        dsimp! []
        exact new_out k1 n1 e1 (q pl n1)

def Ex.own : Ex → List Int
  | .scl n _ => [n]
  | _ => []
def Ex.nums : Ex → List Int
  | .num n => [n]
  | .ctr _ => []
  | .cell _ _ => []
  | .neg a => a.nums
  | .scl n a => n :: a.nums
  | .bin _ a b => a.nums ++ b.nums
  | .pick _ a b c d => a.nums ++ (b.nums ++ (c.nums ++ d.nums))
def Kid.nums : Kid → List Int
  | .val _ => []
  | .ex e => e.nums
def Ex.isNum : Ex → Bool
  | .num _ => true | _ => false
theorem nums_kids {e : Ex} (h : e.isNum = false) : e.nums = e.own ++ e.kids.flatMap Kid.nums := by cases e <;> first | (cases h; done) | simp [Ex.nums, Ex.own, Ex.kids, Kid.nums]
theorem nums_len : ∀ e : Ex, e.nums.length ≤ 5 ^ (e.dep + 1)
  | .num _ => by simp [Ex.nums, Ex.dep]
  | .ctr _ => by simp [Ex.nums]
  | .cell _ _ => by simp [Ex.nums]
  | .neg a => by
    have := nums_len a
    simp only [Ex.nums, Ex.dep, Nat.pow_succ] at this ⊢; omega
  | .scl _ a => by
    have := nums_len a
    have p := Nat.pow_pos (n := a.dep) (show 0 < 5 by omega)
    simp only [Ex.nums, Ex.dep, Nat.pow_succ, List.length_cons] at this ⊢; omega
  | .bin _ a b => by
    have h1 := nums_len a
    have h2 := nums_len b
    have l1 := Nat.pow_le_pow_right (n := 5) (by omega) (show a.dep + 1 ≤ max a.dep b.dep + 1 by omega)
    have l2 := Nat.pow_le_pow_right (n := 5) (by omega) (show b.dep + 1 ≤ max a.dep b.dep + 1 by omega)
    simp only [Ex.nums, Ex.dep, Nat.pow_succ, List.length_append] at *; omega
  | .pick _ a b c d => by
    have h1 := nums_len a
    have h2 := nums_len b
    have h3 := nums_len c
    have h4 := nums_len d
    have l1 := Nat.pow_le_pow_right (n := 5) (by omega) (show a.dep + 1 ≤ max (max a.dep b.dep) (max c.dep d.dep) + 1 by omega)
    have l2 := Nat.pow_le_pow_right (n := 5) (by omega) (show b.dep + 1 ≤ max (max a.dep b.dep) (max c.dep d.dep) + 1 by omega)
    have l3 := Nat.pow_le_pow_right (n := 5) (by omega) (show c.dep + 1 ≤ max (max a.dep b.dep) (max c.dep d.dep) + 1 by omega)
    have l4 := Nat.pow_le_pow_right (n := 5) (by omega) (show d.dep + 1 ≤ max (max a.dep b.dep) (max c.dep d.dep) + 1 by omega)
    simp only [Ex.nums, Ex.dep, Nat.pow_succ, List.length_append] at *; omega
theorem pow59 {n : Nat} (h : n ≤ 8) : 5 ^ (n + 1) ≤ 1953125 := Nat.le_trans (Nat.pow_le_pow_right (by omega) (show n + 1 ≤ 9 by omega)) (by decide)
theorem nflat_take {e : Ex} {i : Nat} {c : Kid} (h : e.kids[i]? = some c) : ((e.kids.take (i + 1)).flatMap Kid.nums) = (e.kids.take i).flatMap Kid.nums ++ c.nums := by
  rw [List.take_add_one, h]; simp
theorem nflat_le {e : Ex} (i : Nat) (h : e.isNum = false) : (e.own ++ (e.kids.take i).flatMap Kid.nums).length ≤ e.nums.length := by
  rw [nums_kids h]
  conv => rhs; rw [← List.take_append_drop i e.kids]
  rw [List.flatMap_append, List.length_append, List.length_append, List.length_append]; omega
theorem hd_num {e : Ex} (h : e.isNum = false) : decide (e.hd = ([110, 117, 109, 98, 101, 114] : List Nat)) = false := by
  cases e with
  | bin o a b => cases o <;> rfl
  | num _ => cases h
  | _ => rfl
theorem c_nums : ∀ (n : Nat) (e : Ex), e.dep ≤ n → n ≤ 8 → ∀ {k : Nat}, n + 1 ≤ k → ∀ {h : PH} {Q : QV}, (∀ p, h p = none → Q (.ref p) (up h p (.lst (e.nums.map .int)))) → (wC k)._law_numbers_in [e.P] h Q := by
  intro n
  induction n with
  | zero => exact fun e he h9 {k} hk {h Q} q => body 0 (fun c hc => absurd hc (by omega)) e he h9 hk q
  | succ n ih => exact fun e he h9 {k} hk {h Q} q => body (n + 1) (fun c hc => by
      intro k' hk' h' Q' q'
      exact ih c (by omega) (by omega) (by omega) q') e he h9 hk q
where
  body (n : Nat) (ih : ∀ c : Ex, c.dep + 1 ≤ n → ∀ {k : Nat}, n ≤ k → ∀ {h : PH} {Q : QV}, (∀ p, h p = none → Q (.ref p) (up h p (.lst (c.nums.map .int)))) → (wC k)._law_numbers_in [c.P] h Q) (e : Ex) (he : e.dep ≤ n) (h9 : n ≤ 8) {k : Nat} (hk : n + 1 ≤ k) {h : PH} {Q : QV}
      (q : ∀ p, h p = none → Q (.ref p) (up h p (.lst (e.nums.map .int)))) : (wC k)._law_numbers_in [e.P] h Q := by
    obtain ⟨k, rfl⟩ : ∃ j, k = j + 1 := ⟨k - 1, by omega⟩
    show zFn _ _ (b__law_numbers_in (wC k)) _ h Q
    unfold b__law_numbers_in
    cases hn : e.isNum with
    | true =>
      cases e <;> first | (cases hn; done) | skip
      rename_i m
      simp only [Ex.P]
      dsimp! []
      rw [zSeq_x]; dsimp! []
      exact ⟨by decide, fun p np => ⟨_, G.Sub.refl _, q p np⟩⟩
    | false =>
    cases hc : e.isCell with
    | true =>
      cases e <;> first | (cases hc; done) | skip
      rename_i x os
      simp only [Ex.P]
      dsimp! []
      rw [zSeq_x]; dsimp! [show decide (([99, 101, 108, 108] : List Nat) = ([110, 117, 109, 98, 101, 114] : List Nat)) = false from rfl]
      refine ⟨by decide, fun p0 np0 => ?_⟩
      rw [zSeq_x]; dsimp! [show decide (([99, 101, 108, 108] : List Nat) = ([115, 99, 97, 108, 101] : List Nat)) = false from rfl]
      rw [zSeq_x]
      dsimp! [cut_from (show (0 : Int) ≤ 1 by omega), show (1 : Int).toNat = 1 from rfl, List.drop_succ_cons, List.drop_zero]
      refine forW_V (fun i ρ' h' => ∃ (x' : Option PV), ρ' = [some (.tup [(PV.str [99, 101, 108, 108]), .str x, .tup (os.map .int)]), some (.ref p0), x'] ∧ h' = up h p0 (.lst [])) ⟨none, rfl, rfl⟩ ?_ ?_
      · rintro i _ _ p ep ⟨x', rfl, rfl⟩
        have hp : p = .str x ∨ p = .tup (os.map .int) := by
          match i, ep with
          | 0, ep => left; simpa using ep.symm
          | 1, ep => right; simpa using ep.symm
          | j + 2, ep => simp at ep
        rcases hp with rfl | rfl
        · dsimp! [show decide (Ty.tuple = Ty.str) = false from rfl]
          exact ⟨_, G.Sub.refl _, some (.str x), rfl, rfl⟩
        · dsimp! [show decide (Ty.tuple = Ty.tuple) = true from rfl, Bool.not_true]
          exact ⟨_, G.Sub.refl _, some (.tup (os.map .int)), rfl, rfl⟩
      · rintro _ _ ⟨x', rfl, rfl⟩
        dsimp! []
        exact ⟨_, G.Sub.refl _, q p0 np0⟩
    | false =>
      rw [Ex.P_kids hc]
      dsimp! []
      rw [zSeq_x]; dsimp! [hd_num hn]
      refine ⟨by decide, fun p0 np0 => ?_⟩
      refine zSeq_key (fun ρ' h' => ρ' = [some (.tup (.str e.hd :: e.kids.map Kid.P)), some (.ref p0), none] ∧ h' = up h p0 (.lst (e.own.map .int))) ?_ fun X kx => ?_
      rotate_left
      · by_cases hs : e.hd = ([115, 99, 97, 108, 101] : List Nat)
        · dsimp! [hs]
          cases e with
          | scl m a =>
            simp only [Ex.kids, List.map_cons, List.map_nil, Kid.P]
            dsimp! []
            exact ⟨by decide, kx _ _ ⟨rfl, rfl⟩⟩
          | bin o a b => cases o <;> (revert hs; simp [Ex.hd, Op2.cs])
          | num _ => revert hs; simp [Ex.hd]
          | ctr _ => revert hs; simp [Ex.hd]
          | cell _ _ => revert hs; simp [Ex.hd]
          | neg _ => revert hs; simp [Ex.hd]
          | pick _ _ _ _ _ => revert hs; simp [Ex.hd]
        · dsimp! [hs]
          refine kx _ _ ⟨rfl, ?_⟩
          have : e.own = [] := by cases e <;> first | rfl | exact absurd rfl hs
          rw [this]; rfl
      rintro _ _ ⟨rfl, rfl⟩
      rw [zSeq_x]
      dsimp! [cut_from (show (0 : Int) ≤ 1 by omega), show (1 : Int).toNat = 1 from rfl, List.drop_succ_cons, List.drop_zero]
      refine forW_V (fun i ρ' h' => ∃ (p : Addr) (x : Option PV), ρ' = [some (.tup (.str e.hd :: e.kids.map Kid.P)), some (.ref p), x] ∧ Kp [] h h' ∧ h p = none ∧ h' p = some (.lst ((e.own ++ (e.kids.take i).flatMap Kid.nums).map .int))) ⟨p0, none, rfl, kp_new np0, np0, by rw [up_same]; simp⟩ ?_ ?_
      · rintro i _ h1 p ep ⟨pl, x, rfl, k1, n1, e1⟩
        rw [List.getElem?_map] at ep
        obtain ⟨c, ec, rfl⟩ := Option.map_eq_some_iff.mp ep
        cases c with
        | val v =>
          have fin : ∃ h2, G.Sub h2 h1 ∧ ∃ (p : Addr) (x : Option PV), [some (PV.tup (.str e.hd :: e.kids.map Kid.P)), some (.ref pl), some v] = [some (.tup (.str e.hd :: e.kids.map Kid.P)), some (.ref p), x] ∧ Kp [] h h2 ∧ h p = none ∧ h2 p = some (.lst ((e.own ++ (e.kids.take (i + 1)).flatMap Kid.nums).map .int)) :=
            ⟨h1, G.Sub.refl _, pl, some v, rfl, k1, n1, by rw [nflat_take ec]; simpa [Kid.nums] using e1⟩
          rcases kid_val (List.mem_of_getElem? ec) with ⟨m, rfl⟩ | ⟨m, rfl⟩
          · simp only [Kid.P]
            dsimp! [show decide (Ty.tuple = Ty.int) = false from rfl]
            exact fin
          · simp only [Kid.P]
            dsimp! [show decide (Ty.tuple = Ty.str) = false from rfl]
            exact fin
        | ex c =>
          obtain ⟨r, er⟩ := Ex.P_tup c
          simp only [Kid.P]
          have hcall : (wC k)._law_numbers_in [c.P] h1 (fun q h2 => zAdd (.ref pl) q h2 fun p h1 => ∃ h2, G.Sub h2 h1 ∧ ∃ (p_1 : Addr) (x : Option PV), [some (PV.tup (.str e.hd :: e.kids.map Kid.P)), some p, some c.P] = [some (.tup (.str e.hd :: e.kids.map Kid.P)), some (.ref p_1), x] ∧ Kp [] h h2 ∧ h p_1 = none ∧ h2 p_1 = some (.lst ((e.own ++ (e.kids.take (i + 1)).flatMap Kid.nums).map .int))) := by
            have hcd := kid_dep (List.mem_of_getElem? ec)
            refine ih c (by omega) (by omega) fun p2 n2 => ?_
            have ne : pl ≠ p2 := by rintro rfl; rw [e1] at n2; cases n2
            dsimp! [up_ne ne, e1]
            refine ⟨?_, fun p3 n3 => ?_⟩
            · have b1 := nflat_le i hn
              have b2 := nums_len e
              have b3 := pow59 (show e.dep ≤ 8 by omega)
              have b4 := nums_len c
              have b5 := pow59 (show c.dep ≤ 8 by omega)
              rw [sizeLine_eq, List.length_map, List.length_map]; omega
            · have k3 : Kp [] h (up (up h1 p2 (.lst (c.nums.map .int))) p3 (.lst ((e.own ++ (e.kids.take i).flatMap Kid.nums).map .int ++ c.nums.map .int))) := (k1.new n2).new n3
              exact ⟨_, G.Sub.refl _, p3, some c.P, rfl, k3, kp_fresh (k1.new n2) n3, by rw [up_same, nflat_take ec, ← List.append_assoc, List.map_append (l₁ := e.own ++ _)]; rfl⟩
          have hcd : decide (e.hd = ([99, 101, 108, 108] : List Nat)) = false := hd_cell hc
          rw [er] at hcall ⊢
          dsimp! [show decide (Ty.tuple = Ty.tuple) = true from rfl, hcd, Bool.not_false]
          exact hcall
      · rintro _ h1 ⟨pl, x, rfl, k1, n1, e1⟩
        rw [List.length_map, List.take_length, ← nums_kids hn] at e1
        dsimp! []
        exact new_out k1 n1 e1 (q pl n1)

theorem hd_pl (e : Ex) : (PV.str e.hd).pl = true := by
  cases e with
  | bin o a b => cases o <;> rfl
  | _ => rfl
theorem dp_str (x : List Nat) : (PV.str x).dp = 0 := rfl
theorem ints_app {l : List Int} : intsP (l.map .int) = some l := ints_map l
/-- how many tokens: some whole number -/
theorem c_tokens : ∀ (n : Nat) (e : Ex), e.dep ≤ n → e.wf → ∀ {k : Nat}, n + 1 ≤ k → ∀ {ov : List PV} {h : PH} {Q : QV}, (∀ z : Int, Q (.int z) h) → (wC k)._law_token_count [.tup ov, e.P] h Q := by
  intro n
  induction n with
  | zero => exact fun e he hw {k} hk {ov h Q} q => body 0 (fun c hc => absurd hc (by omega)) e he hw hk q
  | succ n ih => exact fun e he hw {k} hk {ov h Q} q => body (n + 1) (fun c hc hw => by
      intro k' hk' ov' h' Q' q'
      exact ih c (by omega) hw (by omega) q') e he hw hk q
where
  body (n : Nat) (ih : ∀ c : Ex, c.dep + 1 ≤ n → c.wf → ∀ {k : Nat}, n ≤ k → ∀ {ov : List PV} {h : PH} {Q : QV}, (∀ z : Int, Q (.int z) h) → (wC k)._law_token_count [.tup ov, c.P] h Q) (e : Ex) (he : e.dep ≤ n) (hw : e.wf) {k : Nat} (hk : n + 1 ≤ k) {ov : List PV} {h : PH} {Q : QV}
      (q : ∀ z : Int, Q (.int z) h) : (wC k)._law_token_count [.tup ov, e.P] h Q := by
    obtain ⟨k, rfl⟩ : ∃ j, k = j + 1 := ⟨k - 1, by omega⟩
    show zFn _ _ (b__law_token_count (wC k)) _ h Q
    unfold b__law_token_count
    have two : ∀ z : Int, CMulA 2 z := fun z => mulR ⟨by decide, by decide⟩
    have inb : ∀ (b : Bool) (z : Int) (h1 : PH), G.Sub h h1 → ∃ h2, G.Sub h2 h1 ∧ Q (.int (z + 2 * (if b = true then 1 else 0))) h2 := fun b z h1 u => ⟨h, u, q _⟩
    have outz : ∀ (z : Int) (h1 : PH), G.Sub h h1 → ∃ h2, G.Sub h2 h1 ∧ Q (.int z) h2 := fun z h1 u => ⟨h, u, q _⟩
    have kid : ∀ (c : Ex) {h1 : PH} {R : QV}, Kid.ex c ∈ e.kids → (∀ z : Int, R (.int z) h1) → (wC k)._law_token_count [.tup ov, c.P] h1 R := fun c {h1 R} hc r => ih c (by have := kid_dep hc; omega) (kid_al hw hc) (by omega) r
    cases e with
    | num m =>
      simp only [Ex.P]
      dsimp! []
      rw [zSeq_x]; dsimp! []
      exact outz _ _ (G.Sub.refl _)
    | ctr m =>
      simp only [Ex.P]
      dsimp! []
      rw [zSeq_x]; dsimp! [show decide (([99, 111, 117, 110, 116, 101, 114] : List Nat) = ([110, 117, 109, 98, 101, 114] : List Nat)) = false from rfl]
      exact outz _ _ (G.Sub.refl _)
    | cell x os =>
      simp only [Ex.P]
      dsimp! []
      rw [zSeq_x]; dsimp! [show decide (([99, 101, 108, 108] : List Nat) = ([110, 117, 109, 98, 101, 114] : List Nat)) = false from rfl, show decide (([99, 101, 108, 108] : List Nat) = ([99, 111, 117, 110, 116, 101, 114] : List Nat)) = false from rfl]
      rw [zSeq_x]; dsimp! []
      refine ⟨two _, ?_⟩
      refine lcP_V (fun p => match p with | .int i => !decide (i = 0) | _ => true) (fun p => p) (by rw [sizeLine_eq, List.length_map]; have := hw.2; omega) (fun p hp R acc r => ?_) ?_
      · obtain ⟨i, _, rfl⟩ := List.mem_map.mp hp
        dsimp! []
        by_cases hi : i = 0
        · simp only [hi, decide_true, Bool.not_true, Bool.false_eq_true, if_false] at r ⊢
          exact r
        · simp only [hi, decide_false, Bool.not_false, if_true] at r ⊢
          exact r
      · intro D nD
        dsimp! []
        exact ⟨two _, outz _ _ (back_self nD)⟩
    | neg a =>
      obtain ⟨r, er⟩ := Ex.P_tup a
      simp only [Ex.P]
      dsimp! []
      rw [zSeq_x]; dsimp! [show decide (([110, 101, 103, 97, 116, 101] : List Nat) = ([110, 117, 109, 98, 101, 114] : List Nat)) = false from rfl, show decide (([110, 101, 103, 97, 116, 101] : List Nat) = ([99, 111, 117, 110, 116, 101, 114] : List Nat)) = false from rfl]
      rw [zSeq_x]; dsimp! [show decide (([110, 101, 103, 97, 116, 101] : List Nat) = ([99, 101, 108, 108] : List Nat)) = false from rfl]
      rw [zSeq_x]; dsimp! []
      refine kid a (by simp [Ex.kids]) fun z => ?_
      rw [er]
      dsimp! []
      refine ⟨by decide, fun p np => ?_⟩
      dsimp! [hd_pl a]
      exact ⟨by show 0 ≤ 64; omega, rfl, by decide, two _, inb _ _ _ (back_self np)⟩
    | scl m a =>
      obtain ⟨r, er⟩ := Ex.P_tup a
      simp only [Ex.P]
      dsimp! []
      rw [zSeq_x]; dsimp! [show decide (([115, 99, 97, 108, 101] : List Nat) = ([110, 117, 109, 98, 101, 114] : List Nat)) = false from rfl, show decide (([115, 99, 97, 108, 101] : List Nat) = ([99, 111, 117, 110, 116, 101, 114] : List Nat)) = false from rfl]
      rw [zSeq_x]; dsimp! [show decide (([115, 99, 97, 108, 101] : List Nat) = ([99, 101, 108, 108] : List Nat)) = false from rfl]
      rw [zSeq_x]; dsimp! [show decide (([115, 99, 97, 108, 101] : List Nat) = ([110, 101, 103, 97, 116, 101] : List Nat)) = false from rfl]
      rw [zSeq_x]; dsimp! []
      refine kid a (by simp [Ex.kids]) fun z => ?_
      rw [er]
      dsimp! []
      refine ⟨by decide, fun p np => ?_⟩
      dsimp! [hd_pl a]
      exact ⟨by show 0 ≤ 64; omega, rfl, by decide, two _, inb _ _ _ (back_self np)⟩
    | bin o a b =>
      obtain ⟨r, er⟩ := Ex.P_tup b
      obtain ⟨ra, era⟩ := Ex.P_tup a
      have hh : decide (o.cs = ([110, 117, 109, 98, 101, 114] : List Nat)) = false ∧ decide (o.cs = ([99, 111, 117, 110, 116, 101, 114] : List Nat)) = false ∧ decide (o.cs = ([99, 101, 108, 108] : List Nat)) = false ∧ decide (o.cs = ([110, 101, 103, 97, 116, 101] : List Nat)) = false ∧ decide (o.cs = ([115, 99, 97, 108, 101] : List Nat)) = false ∧ decide (o.cs = ([112, 105, 99, 107] : List Nat)) = false := by cases o <;> decide
      simp only [Ex.P]
      dsimp! []
      rw [zSeq_x]; dsimp! [hh.1, hh.2.1]
      rw [zSeq_x]; dsimp! [hh.2.2.1]
      rw [zSeq_x]; dsimp! [hh.2.2.2.1]
      rw [zSeq_x]; dsimp! [hh.2.2.2.2.1]
      dsimp! [cut_from (show (0 : Int) ≤ 1 by omega), show (1 : Int).toNat = 1 from rfl, List.drop_succ_cons, List.drop_zero]
      refine lcW_V (ps := [a.P, b.P]) (by show 2 ≤ sizeLine; decide) (fun i acc h' => h = h' ∧ ∃ zs : List Int, acc = zs.map .int ∧ zs.length = i) ⟨rfl, [], rfl, rfl⟩ (fun i acc h' ⟨_, zs, e1, e2⟩ => by rw [e1, List.length_map, e2]; exact Nat.le_refl _) ?_ ?_
      · rintro i _ _ p ep ⟨rfl, zs, rfl, lz⟩
        have hp : ∃ c : Ex, p = c.P ∧ Kid.ex c ∈ (Ex.bin o a b).kids := by
          match i, ep with
          | 0, ep => exact ⟨a, by simpa using ep.symm, by simp [Ex.kids]⟩
          | 1, ep => exact ⟨b, by simpa using ep.symm, by simp [Ex.kids]⟩
          | j + 2, ep => simp at ep
        obtain ⟨c, rfl, hc⟩ := hp
        obtain ⟨rc, erc⟩ := Ex.P_tup c
        have hcall := kid c hc (h1 := h) (R := fun y h4 => ∃ h5, G.Sub h5 h4 ∧ h = h5 ∧ ∃ zs' : List Int, zs.map .int ++ [y] = zs'.map .int ∧ zs'.length = i + 1) fun z => ⟨h, G.Sub.refl _, rfl, zs ++ [z], by simp, by simp [lz]⟩
        rw [erc] at hcall ⊢
        dsimp! [show decide (Ty.tuple = Ty.tuple) = true from rfl]
        exact hcall
      · rintro _ _ ⟨rfl, zs, rfl, lz⟩ D nD
        dsimp! [ints_map]
        rw [zSeq_x]; dsimp! [hh.2.2.2.2.2]
        rw [zSeq_x]
        by_cases hpm : o.cs = ([112, 108, 117, 115] : List Nat) ∨ o.cs = ([109, 105, 110, 117, 115] : List Nat)
        · have e2 : b.P = .tup (.str b.hd :: r) := er
          have hif : ∀ {α : Prop}, True := fun {α} => trivial
          rcases hpm with hp | hp
          · dsimp! [hp, er]
            refine ⟨by decide, fun p np => ?_⟩
            dsimp! [hd_pl b]
            exact ⟨by show 0 ≤ 64; omega, rfl, by decide, two _, inb _ _ _ ((back_self nD).trans (back_self np))⟩
          · dsimp! [hp, er, show decide (([109, 105, 110, 117, 115] : List Nat) = ([112, 108, 117, 115] : List Nat)) = false from rfl]
            refine ⟨by decide, fun p np => ?_⟩
            dsimp! [hd_pl b]
            exact ⟨by show 0 ≤ 64; omega, rfl, by decide, two _, inb _ _ _ ((back_self nD).trans (back_self np))⟩
        · have h1 : decide (o.cs = ([112, 108, 117, 115] : List Nat)) = false := decide_eq_false fun z => hpm (.inl z)
          have h2 : decide (o.cs = ([109, 105, 110, 117, 115] : List Nat)) = false := decide_eq_false fun z => hpm (.inr z)
          dsimp! [h1, h2]
          exact outz _ _ (back_self nD)
    | pick s a b c d =>
      simp only [Ex.P]
      dsimp! []
      rw [zSeq_x]; dsimp! [show decide (([112, 105, 99, 107] : List Nat) = ([110, 117, 109, 98, 101, 114] : List Nat)) = false from rfl, show decide (([112, 105, 99, 107] : List Nat) = ([99, 111, 117, 110, 116, 101, 114] : List Nat)) = false from rfl]
      rw [zSeq_x]; dsimp! [show decide (([112, 105, 99, 107] : List Nat) = ([99, 101, 108, 108] : List Nat)) = false from rfl]
      rw [zSeq_x]; dsimp! [show decide (([112, 105, 99, 107] : List Nat) = ([110, 101, 103, 97, 116, 101] : List Nat)) = false from rfl]
      rw [zSeq_x]; dsimp! [show decide (([112, 105, 99, 107] : List Nat) = ([115, 99, 97, 108, 101] : List Nat)) = false from rfl]
      dsimp! [cut_from (show (0 : Int) ≤ 1 by omega), show (1 : Int).toNat = 1 from rfl, List.drop_succ_cons, List.drop_zero]
      refine lcW_V (ps := [.str s.cs, a.P, b.P, c.P, d.P]) (by show 5 ≤ sizeLine; decide) (fun i acc h' => h = h' ∧ ∃ zs : List Int, acc = zs.map .int ∧ zs.length ≤ i) ⟨rfl, [], rfl, Nat.zero_le _⟩ (fun i acc h' ⟨_, zs, e1, e2⟩ => by rw [e1, List.length_map]; exact e2) ?_ ?_
      · rintro i _ _ p ep ⟨rfl, zs, rfl, lz⟩
        have hp : p = .str s.cs ∨ ∃ c' : Ex, p = c'.P ∧ Kid.ex c' ∈ (Ex.pick s a b c d).kids := by
          match i, ep with
          | 0, ep => left; simpa using ep.symm
          | 1, ep => exact .inr ⟨a, by simpa using ep.symm, by simp [Ex.kids]⟩
          | 2, ep => exact .inr ⟨b, by simpa using ep.symm, by simp [Ex.kids]⟩
          | 3, ep => exact .inr ⟨c, by simpa using ep.symm, by simp [Ex.kids]⟩
          | 4, ep => exact .inr ⟨d, by simpa using ep.symm, by simp [Ex.kids]⟩
          | j + 5, ep => simp at ep
        rcases hp with rfl | ⟨c', rfl, hc⟩
        · dsimp! [show decide (Ty.tuple = Ty.str) = false from rfl]
          exact ⟨h, G.Sub.refl _, rfl, zs, rfl, by omega⟩
        · obtain ⟨rc, erc⟩ := Ex.P_tup c'
          have hcall := kid c' hc (h1 := h) (R := fun y h4 => ∃ h5, G.Sub h5 h4 ∧ h = h5 ∧ ∃ zs' : List Int, zs.map .int ++ [y] = zs'.map .int ∧ zs'.length ≤ i + 1) fun z => ⟨h, G.Sub.refl _, rfl, zs ++ [z], by simp, by simp; omega⟩
          rw [erc] at hcall ⊢
          dsimp! [show decide (Ty.tuple = Ty.tuple) = true from rfl]
          exact hcall
      · rintro _ _ ⟨rfl, zs, rfl, lz⟩ D nD
        dsimp! [ints_map]
        rw [zSeq_x]; dsimp! []
        exact outz _ _ (back_self nD)
/-- whether a line can be read: some answer -/
theorem c_read {k n : Nat} {e : Ex} {x : List Nat} {rim : Int} {ov : List PV} {h : PH} {Q : QV} (hd : e.dep ≤ n) (hn : n ≤ 8) (hw : e.wf) (hk : n + 2 ≤ k) (q : ∀ b : Bool, Q (.bl b) h) : (wC k)._law_can_be_read [.tup ov, .tup [.str x, .int rim, e.P]] h Q := by
  obtain ⟨k, rfl⟩ : ∃ j, k = j + 1 := ⟨k - 1, by omega⟩
  show zFn _ _ (b__law_can_be_read (wC k)) _ h Q
  unfold b__law_can_be_read
  dsimp! []
  refine ⟨mulR ⟨by decide, by decide⟩, ?_⟩
  refine zSeq_key (fun ρ' h' => ∃ z : Int, ρ' = [some (.tup ov), some (.tup [.str x, .int rim, e.P]), some (.int z), none] ∧ Kp [] h h') ?_ fun X kx => ?_
  rotate_left
  · dsimp! []
    refine c_tokens n e hd hw (by omega) fun z => ?_
    dsimp! []
    by_cases hz : 80 < 3 + 2 * (if (!decide (rim = 0)) = true then 1 else 0) + (if decide (rim < 0) = true then 1 else 0) + z
    · dsimp! [hz]
      exact ⟨h, G.Sub.refl _, q _⟩
    · dsimp! [hz]
      refine c_refs n e hd (by omega) (by omega) fun p np => ?_
      dsimp! []
      by_cases hz2 : (12 : Int) < ((e.refs.map refP).length : Nat)
      · simp only [hz2, decide_true, if_true]
        exact ⟨h, back_self np, q _⟩
      · simp only [hz2, decide_false, Bool.false_eq_true, if_false]
        exact kx _ _ ⟨_, rfl, kp_new np⟩
  · rintro _ h1 ⟨z, rfl, k1⟩
    dsimp! []
    refine c_nums n e hd hn (by omega) fun p np => ?_
    dsimp! []
    have b2 := nums_len e
    have b3 := pow59 (show e.dep ≤ 8 by omega)
    refine lcP_L (ps := e.nums.map .int) (fun _ => true) (fun p => match p with | .int i => .bl (decide (i < 10 ^ (6 : Int).toNat)) | _ => .bl true) (by rw [sizeLine_eq, List.length_map]; omega) up_same (fun p hp R acc r => ?_) ?_
    · obtain ⟨i, _, rfl⟩ := List.mem_map.mp hp
      dsimp! []
      refine ⟨⟨by decide, by decide, by decide⟩, ?_⟩
      simpa using r
    · intro D nD
      have e1 : (((e.nums.map PV.int).filter fun _ => true).map fun p => match p with | .int i => PV.bl (decide (i < 10 ^ (6 : Int).toNat)) | _ => .bl true) = (e.nums.map fun i => decide (i < 10 ^ (6 : Int).toNat)).map .bl := by
        rw [List.filter_eq_self.mpr (by simp), List.map_map, List.map_map]; rfl
      have bm : ∀ l : List Bool, blsP (l.map .bl) = some l := by
        intro l
        induction l with
        | nil => rfl
        | cons x l ih => simp [blsP, ih]
      rw [e1]
      dsimp! [bm]
      exact ⟨h, sub_of_kp ((k1.new np).new nD), q _⟩

/-! ### places, boxes, rows -/
abbrev tI (os : List Int) : PV := .tup (os.map .int)
def atO (p os : List Int) : List Int := List.zipWith (· + ·) p os
def inB (sz p : List Int) : Bool := (List.range sz.length).all fun i => decide (0 ≤ p.getD i 0) && decide (p.getD i 0 < sz.getD i 0)
theorem getD_at {l : List Int} {i : Nat} (h : i < l.length) : l.getD i 0 = l[i] := by rw [List.getD_eq_getElem?_getD, List.getElem?_eq_getElem h]; rfl
theorem atO_len {p os : List Int} (h : p.length = os.length) : (atO p os).length = p.length := by unfold atO; rw [List.length_zipWith]; omega
theorem ints_at {l : List Int} {i : Nat} (h : i < l.length) : (l.map PV.int)[i]? = some (.int (l.getD i 0)) := by
  rw [List.getElem?_map, List.getElem?_eq_getElem h, getD_at h]; rfl
theorem range_int (n : Nat) (f : PV → PV) : ((((List.range n).map fun i : Nat => PV.int ((0 : Int) + i)).filter fun _ => true).map f) = (List.range n).map fun i : Nat => f (.int (i : Int)) := by
  rw [List.filter_eq_self.mpr (by simp), List.map_map]
  simp
theorem c_at_offsets {k : Nat} (hk : 1 ≤ k) {p os : List Int} (hl : p.length = os.length) (hs : p.length ≤ 1000) {h : PH} {Q : QV} (q : Q (tI (atO p os)) h) : (wC k)._law_at_offsets [tI p, tI os] h Q := by
  obtain ⟨k, rfl⟩ : ∃ j, k = j + 1 := ⟨k - 1, by omega⟩
  show zFn _ _ (b__law_at_offsets (wC k)) _ h Q
  unfold b__law_at_offsets
  dsimp! [List.length_map]
  refine ⟨by omega, by omega, ?_⟩
  refine lcP_R (fun _ => true) (fun x => match x with | .int i => .int (p.getD i.toNat 0 + os.getD i.toNat 0) | _ => .non) (by rw [sizeLine_eq]; omega) (fun i hi R acc h1 => ?_) ?_
  · rw [if_pos rfl] at h1
    have hi' : i < p.length := by omega
    dsimp! [Int.zero_add, atN, ints_at hi', ints_at (show i < os.length by omega)]
    simpa using h1
  · intro D nD
    rw [range_int, Int.toNat_natCast]
    have e : ((List.range p.length).map fun i : Nat => (PV.int (p.getD (i : Int).toNat 0 + os.getD (i : Int).toNat 0))) = (atO p os).map .int := by
      apply List.ext_getElem
      · simp [atO_len hl]
      · intro i h1 h2
        have hi : i < p.length := by simpa using h1
        simp only [List.getElem_map, List.getElem_range, Int.toNat_natCast, atO, List.getElem_zipWith]
        rw [getD_at hi, getD_at (show i < os.length by omega)]
    simp only [] at e ⊢
    rw [e]
    dsimp! []
    exact ⟨h, back_self nD, q⟩
theorem bls_map {α : Type} (f : α → Bool) : ∀ l : List α, blsP (l.map fun a => .bl (f a)) = some (l.map f)
  | [] => rfl
  | a :: l => by simp [blsP, bls_map f l]
theorem c_in_box {k : Nat} (hk : 1 ≤ k) {sz p : List Int} (hl : p.length = sz.length) (hs : p.length ≤ 1000) {h : PH} {Q : QV} (q : Q (.bl (inB sz p)) h) : (wC k)._law_in_box [tI sz, tI p] h Q := by
  obtain ⟨k, rfl⟩ : ∃ j, k = j + 1 := ⟨k - 1, by omega⟩
  show zFn _ _ (b__law_in_box (wC k)) _ h Q
  unfold b__law_in_box
  dsimp! [List.length_map]
  refine ⟨by omega, by omega, ?_⟩
  refine lcP_R (fun _ => true) (fun x => match x with | .int i => .bl (decide (0 ≤ p.getD i.toNat 0) && decide (p.getD i.toNat 0 < sz.getD i.toNat 0)) | _ => .non) (by rw [sizeLine_eq]; omega) (fun i hi R acc h1 => ?_) ?_
  · rw [if_pos rfl] at h1
    have hi' : i < sz.length := by omega
    dsimp! [Int.zero_add, atN, ints_at hi', ints_at (show i < p.length by omega)]
    simp only [Int.zero_add, Int.toNat_natCast] at h1
    by_cases e : 0 ≤ p.getD i 0
    · simp only [e, decide_true, Bool.true_and, if_true] at h1 ⊢
      exact h1
    · simp only [e, decide_false, Bool.false_and, Bool.false_eq_true, if_false] at h1 ⊢
      exact h1
  · intro D nD
    rw [range_int, Int.toNat_natCast]
    dsimp! [show ((List.range sz.length).map fun i : Nat => (PV.bl (decide (0 ≤ p.getD (i : Int).toNat 0) && decide (p.getD (i : Int).toNat 0 < sz.getD (i : Int).toNat 0)))) = (List.range sz.length).map fun i => .bl (decide (0 ≤ p.getD i 0) && decide (p.getD i 0 < sz.getD i 0)) from rfl, bls_map]
    refine ⟨h, back_self nD, ?_⟩
    have e : ((List.range sz.length).map fun i => (decide (0 ≤ p.getD i 0) && decide (p.getD i 0 < sz.getD i 0))).all id = inB sz p := by
      unfold inB
      rw [List.all_map]; rfl
    rw [e]; exact q
def pstep (L : List (List Int)) (n : Int) : List (List Int) := L.flatMap fun p => (List.range n.toNat).map fun i : Nat => p ++ [(i : Int)]
def places (sz : List Int) : List (List Int) := sz.foldl pstep [[]]
theorem places_snoc {sz : List Int} {n : Int} : places (sz ++ [n]) = pstep (places sz) n := by simp [places]
theorem pstep_len (L : List (List Int)) (n : Int) : (pstep L n).length = L.length * n.toNat := by
  unfold pstep
  rw [List.length_flatMap]
  simp only [List.length_map, List.length_range]
  induction L with
  | nil => simp
  | cons x L ih => rw [List.map_cons, List.sum_cons, ih, List.length_cons, Nat.add_mul]; omega
theorem inB_iff {sz p : List Int} : inB sz p = true ↔ ∀ i, i < sz.length → 0 ≤ p.getD i 0 ∧ p.getD i 0 < sz.getD i 0 := by
  unfold inB
  rw [List.all_eq_true]
  simp only [List.mem_range, Bool.and_eq_true, decide_eq_true_eq]
theorem getD_app {l : List Int} {a : Int} {i : Nat} : (l ++ [a]).getD i 0 = if i < l.length then l.getD i 0 else if i = l.length then a else 0 := by
  rw [List.getD_eq_getElem?_getD, List.getElem?_append]
  split
  · rw [List.getD_eq_getElem?_getD]
  · rename_i h
    by_cases e : i = l.length
    · subst e; simp
    · rw [if_neg e, List.getElem?_eq_none (by simp; omega)]; rfl
theorem mem_places : ∀ (n : Nat) (sz p : List Int), sz.length = n → (p ∈ places sz ↔ p.length = sz.length ∧ inB sz p = true)
  | 0, sz, p, h => by
    have e : sz = [] := List.length_eq_zero_iff.mp h
    subst e
    simp [places, inB]
  | n + 1, sz, p, h => by
    rcases List.eq_nil_or_concat sz with rfl | ⟨L, b, rfl⟩
    · simp at h
    rw [List.concat_eq_append] at *
    have hL : L.length = n := by simpa using h
    rw [places_snoc]
    unfold pstep
    rw [List.mem_flatMap]
    constructor
    · rintro ⟨q, hq, hp⟩
      obtain ⟨i, hi, rfl⟩ := List.mem_map.mp hp
      obtain ⟨lq, bq⟩ := (mem_places n L q hL).mp hq
      have hi := List.mem_range.mp hi
      refine ⟨by simp [lq], inB_iff.mpr fun j hj => ?_⟩
      rw [getD_app, getD_app]
      by_cases e : j < L.length
      · rw [if_pos (by omega), if_pos e]; exact inB_iff.mp bq j e
      · have e' : j = L.length := by simp at hj; omega
        rw [if_neg (by omega), if_pos (by omega), if_neg e, if_pos e']
        omega
    · rintro ⟨lp, bp⟩
      rcases List.eq_nil_or_concat p with rfl | ⟨q, a, rfl⟩
      · simp at lp
      rw [List.concat_eq_append] at *
      have lq : q.length = L.length := by simpa using lp
      have ha := inB_iff.mp bp L.length (by simp)
      rw [getD_app, getD_app, if_neg (by omega), if_pos (by omega), if_neg (by omega), if_pos rfl] at ha
      refine ⟨q, (mem_places n L q hL).mpr ⟨lq, inB_iff.mpr fun j hj => ?_⟩, List.mem_map.mpr ⟨a.toNat, List.mem_range.mpr (by omega), ?_⟩⟩
      · have := inB_iff.mp bp j (by simp; omega)
        rw [getD_app, getD_app, if_pos (by omega), if_pos hj] at this
        exact this
      · congr 2; omega
theorem places_iff {sz p : List Int} : p ∈ places sz ↔ p.length = sz.length ∧ inB sz p = true := mem_places _ sz p rfl
theorem c_places {k : Nat} (hk : 1 ≤ k) {sz : List Int} (hl : sz.length ≤ 1000) (hz : ∀ n ∈ sz, 0 ≤ n ∧ n ≤ 1000) (hb : ∀ i, (places (sz.take i)).length ≤ 100000) {h : PH} {Q : QV}
    (q : ∀ d h', h d = none → Kp [] h h' → h' d = some (.lst ((places sz).map tI)) → Q (.ref d) h') : (wC k)._law_places [tI sz] h Q := by
  obtain ⟨k, rfl⟩ : ∃ j, k = j + 1 := ⟨k - 1, by omega⟩
  show zFn _ _ (b__law_places (wC k)) _ h Q
  unfold b__law_places
  dsimp! []
  refine ⟨by decide, by decide, fun d0 n0 => ?_⟩
  rw [zSeq_x]
  dsimp! []
  refine forW_V (ps := sz.map .int) (fun i ρ' h' => ∃ (d : Addr) (x y z w : Option PV), ρ' = [some (tI sz), some (.ref d), x, y, z, w] ∧ Kp [] h h' ∧ h d = none ∧ h' d = some (.lst ((places (sz.take i)).map tI))) ⟨d0, none, none, none, none, rfl, kp_new n0, n0, up_same⟩ ?_ ?_
  · rintro i _ h1 p ep ⟨d, x, y, z, w, rfl, k1, nd, e1⟩
    rw [List.getElem?_map] at ep
    obtain ⟨n, en, rfl⟩ := Option.map_eq_some_iff.mp ep
    have hn := hz n (List.mem_of_getElem? en)
    have stp : places (sz.take (i + 1)) = pstep (places (sz.take i)) n := by rw [List.take_add_one, en]; exact places_snoc
    have b1 := hb (i + 1)
    rw [stp] at b1 ⊢
    rw [pstep_len] at b1
    have b0 := hb i
    have hpl : ∀ pl ∈ places (sz.take i), pl.length ≤ 1000 := fun pl hp => by
      have := (places_iff.mp hp).1
      rw [List.length_take] at this; omega
    generalize places (sz.take i) = L at e1 b0 b1 hpl
    dsimp! []
    refine ⟨by decide, fun d2 n2 => ?_⟩
    have h2 : d ≠ d2 := by rintro rfl; rw [e1] at n2; cases n2
    have n2' := kp_fresh k1 n2
    rw [zSeq_x]
    dsimp! [up_ne h2, e1]
    refine forW_L (ps := L.map tI) (fun j ρ' h' => ∃ (d3 : Addr) (z w : Option PV), ρ' = [some (tI sz), some (.ref d), some (.int n), some (.ref d3), z, w] ∧ Kp [] h h' ∧ h d3 = none ∧ h' d = some (.lst (L.map tI)) ∧ h' d3 = some (.lst ((pstep (L.take j) n).map tI))) ⟨d2, z, w, rfl, k1.new n2, n2', by rw [up_ne h2]; exact e1, up_same⟩ (fun j _ h' _ ⟨_, _, _, _, _, _, e, _⟩ => e) ?_ ?_
    · rintro j _ h3 p ep ⟨d3, z, w, rfl, k3, n3, e3, e4⟩
      rw [List.getElem?_map] at ep
      obtain ⟨pl, epl, rfl⟩ := Option.map_eq_some_iff.mp ep
      have hj : j < L.length := (List.getElem?_eq_some_iff.mp epl).1
      have ls : ((pstep (L.take j) n).map tI).length + n.toNat ≤ sizeLine := by
        rw [List.length_map, pstep_len, List.length_take, Nat.min_eq_left (by omega), sizeLine_eq]
        have : (j + 1) * n.toNat ≤ L.length * n.toNat := Nat.mul_le_mul_right _ hj
        rw [Nat.add_mul] at this
        omega
      have stp2 : pstep (L.take (j + 1)) n = pstep (L.take j) n ++ (List.range n.toNat).map fun i : Nat => pl ++ [(i : Int)] := by
        rw [List.take_add_one, epl]; simp [pstep]
      dsimp! [e4]
      refine ⟨by omega, by omega, ?_⟩
      refine lcP_R (fun _ => true) (fun x => match x with | .int i => .tup (pl.map .int ++ [.int i]) | _ => .non) (by rw [sizeLine_eq]; omega) (fun a ha R acc r => ?_) ?_
      · rw [if_pos rfl] at r
        have hlen : (pl.map PV.int).length + 1 ≤ sizeLine := by
          have := hpl pl (List.mem_of_getElem? epl)
          rw [List.length_map, sizeLine_eq]; omega
        dsimp! []
        exact ⟨by decide, hlen, r⟩
      · intro D nD
        have hD : d3 ≠ D := by rintro rfl; rw [e4] at nD; cases nD
        have hD' : d ≠ D := by rintro rfl; rw [e3] at nD; cases nD
        rw [range_int]
        dsimp! [up_ne hD, e4]
        have e5 : ((List.range n.toNat).map fun i : Nat => PV.tup (pl.map .int ++ [.int (i : Int)])) = ((List.range n.toNat).map fun i : Nat => pl ++ [(i : Int)]).map tI := by
          rw [List.map_map]
          refine List.map_congr_left fun i _ => ?_
          simp [tI]
        refine ⟨by simpa using ls, fun d6 n6 => ?_⟩
        exact ⟨_, G.Sub.refl _, d6, _, _, rfl, (k3.new nD).new n6, kp_fresh (k3.new nD) n6, keep_new n6 _ _ (keep_new nD _ _ e3), by rw [up_same, stp2, List.map_append, ← e5]⟩
    · rintro _ h3 ⟨d3, z, w, rfl, k3, n3, e3, e4⟩
      rw [List.length_map, List.take_length] at e4
      dsimp! []
      exact ⟨h3, G.Sub.refl _, d3, _, _, _, _, rfl, k3, n3, e4⟩
  · rintro _ h1 ⟨d, x, y, z, w, rfl, k1, nd, e1⟩
    rw [List.length_map, List.take_length] at e1
    dsimp! []
    exact ⟨h1, G.Sub.refl _, q d h1 nd k1 e1⟩

/-! ### rows by their names, values of givens -/
abbrev TP (ov : PV) (gs : List Giv) (rs : List Row) (hd : PV) : PV := .tup [ov, .tup (gs.map Giv.P), .tup (rs.map Row.P), hd]
def nmOf : PV → List Nat
  | .tup (.str x :: _) => x
  | _ => []
theorem nm_giv (g : Giv) : nmOf g.P = g.name := rfl
theorem nm_row (r : Row) : nmOf r.P = r.name := rfl
/-- a table whose names differ -/
abbrev Nd (gs : List Giv) (rs : List Row) : Prop := (gs.map Giv.name ++ rs.map Row.name).Nodup
theorem rows_nm (gs : List Giv) (rs : List Row) : (gs.map Giv.P ++ rs.map Row.P).map nmOf = gs.map Giv.name ++ rs.map Row.name := by
  rw [List.map_append, List.map_map, List.map_map]; rfl
theorem c_row_named {k : Nat} (hk : 1 ≤ k) {ov hd : PV} {gs : List Giv} {rs : List Row} (nd : Nd gs rs) (hl : gs.length + rs.length ≤ 1000) {p : PV} {x : List Nat} {r : List PV} (m : p ∈ gs.map Giv.P ++ rs.map Row.P) (e : p = .tup (.str x :: r)) {h : PH} {Q : QV} (q : Q p h) : (wC k)._law_row_named [TP ov gs rs hd, .str x] h Q := by
  obtain ⟨k, rfl⟩ : ∃ j, k = j + 1 := ⟨k - 1, by omega⟩
  show zFn _ _ (b__law_row_named (wC k)) _ h Q
  unfold b__law_row_named
  have hd' : ∀ u ∈ gs.map Giv.P ++ rs.map Row.P, ∃ y r, u = .tup (.str y :: r) := fun u hu => by
    rcases List.mem_append.mp hu with hu | hu
    · obtain ⟨g, _, rfl⟩ := List.mem_map.mp hu; exact ⟨_, _, rfl⟩
    · obtain ⟨g, _, rfl⟩ := List.mem_map.mp hu; exact ⟨_, _, rfl⟩
  replace nd : ((gs.map Giv.P ++ rs.map Row.P).map nmOf).Nodup := by rw [rows_nm]; exact nd
  dsimp! [List.length_map]
  rw [zSeq_x]
  dsimp! [List.length_map]
  refine ⟨by rw [sizeLine_eq]; omega, ?_⟩
  generalize gs.map Giv.P ++ rs.map Row.P = l at m nd hd'
  obtain ⟨i, hi, ei⟩ := List.getElem_of_mem m
  refine forW_V (fun j ρ' h' => ∃ y : Option PV, ρ' = [some (TP ov gs rs hd), some (.str x), y] ∧ h = h' ∧ j ≤ i) ⟨none, rfl, rfl, Nat.zero_le _⟩ ?_ ?_
  · rintro j _ _ u eu ⟨y, rfl, rfl, hj⟩
    obtain ⟨z, r', rfl⟩ := hd' u (List.mem_of_getElem? eu)
    dsimp! []
    by_cases ex : z = x
    · dsimp! [ex]
      have : PV.tup (.str z :: r') = p := by
        obtain ⟨hj', ej⟩ := List.getElem?_eq_some_iff.mp eu
        have h3 : (l.map nmOf)[j]'(by simpa using hj') = (l.map nmOf)[i]'(by simpa using hi) := by
          rw [List.getElem_map, List.getElem_map, ej, ei, e]; exact ex
        have : j = i := by
          rw [List.nodup_iff_pairwise_ne, List.pairwise_iff_getElem] at nd
          rcases Nat.lt_trichotomy j i with a | a | a
          · exact absurd h3 (nd j i _ _ a)
          · exact a
          · exact absurd h3.symm (nd i j _ _ a)
        subst this
        rw [← ej, ei]
      subst ex
      rw [this]
      exact ⟨h, G.Sub.refl _, q⟩
    · dsimp! [ex]
      refine ⟨h, G.Sub.refl _, _, rfl, rfl, ?_⟩
      rcases Nat.lt_or_ge j i with a | a
      · exact a
      · exfalso
        have : j = i := by omega
        subst this
        rw [List.getElem?_eq_getElem hi, ei, e] at eu
        simp only [Option.some.injEq, PV.tup.injEq, List.cons.injEq, PV.str.injEq] at eu
        exact ex eu.1.symm
  · rintro _ _ ⟨y, rfl, rfl, hj⟩
    exact absurd hj (by omega)
abbrev Fp := List Int × Int
def fpP (f : Fp) : PV := .tup [tI f.1, .int f.2]
abbrev fsP (fs : List (List Fp)) : PV := .tup (fs.map fun f => .tup (f.map fpP))
def gv (rim : Int) (f : List Fp) (p : List Int) : Int := match f.find? fun a => decide (a.1 = p) with
  | some a => a.2
  | none => rim
theorem map_int_inj {l m : List Int} (h : l.map PV.int = m.map PV.int) : l = m := by
  have := List.map_inj_right (f := PV.int) (fun x y e => by cases e; rfl) |>.mp h
  exact this
theorem tI_dat (p : List Int) : PV.pls (p.map .int) = true ∧ PV.dps (p.map .int) = 0 := by
  induction p with
  | nil => exact ⟨rfl, rfl⟩
  | cons x l ih => simp [PV.pls, PV.pl, PV.dps, PV.dp, ih]
theorem zEq_ii {p q : List Int} {h : PH} {Q : QV} : zEq (.tup (p.map .int)) (.tup (q.map .int)) h Q = Q (.bl (decide (p = q))) h := by
  have a := tI_dat p
  have b := tI_dat q
  have e : decide (PV.tup (p.map .int) = PV.tup (q.map .int)) = decide (p = q) := by
    rw [decide_eq_decide]
    exact ⟨fun z => map_int_inj (by simpa using z), fun z => by rw [z]⟩
  rw [zEq_tt, e]
  simp [PV.pl, PV.dp, a, b]
theorem c_given_value {k : Nat} (hk : 1 ≤ k) {ov hd : PV} {gs : List Giv} {rs : List Row} (nd : (gs.map Giv.name).Nodup) (hl : gs.length ≤ 1000) {fs : List (List Fp)} {i : Nat} {g : Giv} {f : List Fp} (eg : gs[i]? = some g) (ef : fs[i]? = some f) {p : List Int} {h : PH} {Q : QV}
    (q : Q (.int (gv g.rim f p)) h) : (wC k)._law_given_value [TP ov gs rs hd, fsP fs, .str g.name, tI p] h Q := by
  obtain ⟨k, rfl⟩ : ∃ j, k = j + 1 := ⟨k - 1, by omega⟩
  show zFn _ _ (b__law_given_value (wC k)) _ h Q
  unfold b__law_given_value
  dsimp! [List.length_map]
  rw [zSeq_x]
  dsimp! [List.length_map]
  refine ⟨by omega, by omega, ?_⟩
  have hi : i < gs.length := (List.getElem?_eq_some_iff.mp eg).1
  refine forW_R (fun j ρ' h' => ∃ y : Option PV, ρ' = [some (TP ov gs rs hd), some (fsP fs), some (.str g.name), some (tI p), y, none, none] ∧ h = h' ∧ j ≤ i) ⟨none, rfl, rfl, Nat.zero_le _⟩ ?_ ?_
  · rintro j _ _ hj ⟨y, rfl, rfl, hji⟩
    have hj' : j < gs.length := by omega
    have ej : (gs.map Giv.P)[j]? = some (givP gs[j].name gs[j].rim gs[j].lo gs[j].hi) := by rw [List.getElem?_map, List.getElem?_eq_getElem hj']; rfl
    dsimp! [Int.zero_add, atN, ej, givP]
    by_cases e : gs[j].name = g.name
    · have : j = i := by
        have h3 : (gs.map Giv.name)[j]'(by simpa using hj') = (gs.map Giv.name)[i]'(by simpa using hi) := by
          rw [List.getElem_map, List.getElem_map, e]
          rw [List.getElem?_eq_getElem hi] at eg
          rw [Option.some.inj eg]
        rw [List.nodup_iff_pairwise_ne, List.pairwise_iff_getElem] at nd
        rcases Nat.lt_trichotomy j i with a | a | a
        · exact absurd h3 (nd j i _ _ a)
        · exact a
        · exact absurd h3.symm (nd i j _ _ a)
      subst this
      have egj : gs[j] = g := by rw [List.getElem?_eq_getElem hj'] at eg; exact Option.some.inj eg
      dsimp! [e]
      rw [zSeq_x]
      dsimp! [Int.zero_add, atN, List.getElem?_map, ef, Option.map_some]
      refine forW_V (ps := f.map fpP) (fun j' ρ' h' => ∃ y z : Option PV, ρ' = [some (TP ov gs rs hd), some (fsP fs), some (.str g.name), some (tI p), some (.int (j : Nat)), y, z] ∧ h = h' ∧ (f.take j').find? (fun a => decide (a.1 = p)) = none) ⟨none, none, rfl, rfl, rfl⟩ ?_ ?_
      · rintro j' _ _ u eu ⟨y, z, rfl, rfl, hf⟩
        rw [List.getElem?_map] at eu
        obtain ⟨⟨a, m⟩, ea, rfl⟩ := Option.map_eq_some_iff.mp eu
        have stp : (f.take (j' + 1)).find? (fun a => decide (a.1 = p)) = if a = p then some (a, m) else none := by
          rw [List.take_add_one, ea, List.find?_append, hf]
          by_cases e' : a = p <;> simp [e']
        dsimp! [fpP, ↓zEq_ii]
        by_cases e' : a = p
        · rw [if_pos e'] at stp
          dsimp! [e']
          have : gv g.rim f p = m := by
            unfold gv
            have : f.find? (fun a => decide (a.1 = p)) = some (a, m) := by
              conv => lhs; rw [← List.take_append_drop (j' + 1) f]
              rw [List.find?_append, stp]; rfl
            rw [this]
          rw [this] at q
          exact ⟨h, G.Sub.refl _, q⟩
        · rw [if_neg e'] at stp
          dsimp! [e']
          exact ⟨h, G.Sub.refl _, _, _, rfl, rfl, stp⟩
      · rintro _ _ ⟨y, z, rfl, rfl, hf⟩
        rw [List.length_map, List.take_length] at hf
        dsimp! [Int.zero_add, atN, ej, givP]
        rw [egj]
        have : gv g.rim f p = g.rim := by unfold gv; rw [hf]
        rw [this] at q
        exact ⟨h, G.Sub.refl _, q⟩
    · dsimp! [e]
      refine ⟨h, G.Sub.refl _, _, rfl, rfl, ?_⟩
      rcases Nat.lt_or_ge j i with a | a
      · exact a
      · exfalso
        have : j = i := by omega
        subst this
        rw [List.getElem?_eq_getElem hi] at eg
        exact e (by rw [Option.some.inj eg])
  · rintro _ _ ⟨y, rfl, rfl, hj⟩
    exact absurd hj (by simp; omega)
def hsS (s : Sg) (a b : Int) : Bool := match s with
  | .lt => decide (a < b)
  | .le => decide (a ≤ b)
  | .gt => decide (b < a)
  | .ge => decide (b ≤ a)
  | .eq => decide (a = b)
  | .ne => !decide (a = b)
theorem c_holds_sign {k : Nat} (hk : 1 ≤ k) {s : Sg} {a b : Int} {h : PH} {Q : QV} (q : Q (.bl (hsS s a b)) h) : (wC k)._law_holds_sign [.str s.cs, .int a, .int b] h Q := by
  obtain ⟨k, rfl⟩ : ∃ j, k = j + 1 := ⟨k - 1, by omega⟩
  show zFn _ _ (b__law_holds_sign (wC k)) _ h Q
  unfold b__law_holds_sign
  have out : ∃ h2, G.Sub h2 h ∧ Q (.bl (hsS s a b)) h2 := ⟨h, G.Sub.refl _, q⟩
  cases s <;> simp only [Sg.cs] <;> simp_all! [] <;> exact out

/-! ### what an expression is worth -/
abbrev cellP (x : List Nat) (p : List Int) : PV := .tup [.str x, tI p]
def rimOf (gs : List Giv) (rs : List Row) (x : List Nat) : Int := match gs.find? fun g => decide (g.name = x) with
  | some g => g.rim
  | none => match rs.find? fun r => decide (r.name = x) with
    | some r => r.rim
    | none => 0
def gvOf (gs : List Giv) (fs : List (List Fp)) (x : List Nat) (p : List Int) : Int := match (gs.zip fs).find? fun a => decide (a.1.name = x) with
  | some a => gv a.1.rim a.2 p
  | none => 0
abbrev Kn := List Nat → List Int → Option Int
def lookV (gs : List Giv) (rs : List Row) (sz : List Int) (fs : List (List Fp)) (kn : Kn) (x : List Nat) (p : List Int) : Int :=
  if inB sz p = true then (match kn x p with | some v => v | none => gvOf gs fs x p) else rimOf gs rs x
def Ex.worth (L : List Nat → List Int → Int) (p : List Int) : Ex → Int
  | .num n => n
  | .ctr c => p.getD c.toNat 0
  | .cell x os => L x (atO p os)
  | .neg a => 0 - a.worth L p
  | .scl n a => n * a.worth L p
  | .bin .plus a b => a.worth L p + b.worth L p
  | .bin .minus a b => a.worth L p - b.worth L p
  | .bin .least a b => if b.worth L p < a.worth L p then b.worth L p else a.worth L p
  | .bin .greatest a b => if b.worth L p < a.worth L p then a.worth L p else b.worth L p
  | .pick g a b c d => if hsS g (a.worth L p) (b.worth L p) = true then c.worth L p else d.worth L p
/-- the counters there are -/
def Ex.ctrs (m : Nat) : Ex → Prop
  | .num _ => True
  | .ctr c => 0 ≤ c ∧ c < m
  | .cell _ _ => True
  | .neg a => a.ctrs m
  | .scl _ a => a.ctrs m
  | .bin _ a b => a.ctrs m ∧ b.ctrs m
  | .pick _ a b c d => a.ctrs m ∧ b.ctrs m ∧ c.ctrs m ∧ d.ctrs m
structure WAt (h : PH) (w kn : Addr) (tb sz fs : PV) (kk : List (PV × PV)) : Prop where
  dic : ∃ kvs, h w = some (.dic false none kvs) ∧ dget kvs (PV.str [116, 97, 98, 108, 101]) = some tb ∧ dget kvs (PV.str [115, 105, 122, 101, 115]) = some sz ∧ dget kvs (PV.str [102, 105, 101, 108, 100, 115]) = some fs ∧ dget kvs (PV.str [107, 110, 111, 119, 110]) = some (.ref kn)
  known : h kn = some (.dic true none kk)
theorem nks_ints : ∀ l : List Int, nks (l.map .int) = some (l.map NestedKey.num)
  | [] => rfl
  | x :: l => by simp [nks, nk, nks_ints l]
theorem dep_ints : ∀ l : List Int, NestedKey.depthAll (l.map NestedKey.num) ≤ 0
  | [] => by simp [NestedKey.depthAll]
  | x :: l => by
    have := dep_ints l
    simp only [List.map_cons, NestedKey.depthAll, NestedKey.depth]; omega
theorem key_cell (x : List Nat) (p : List Int) : keyOk true (cellP x p) = true := by
  have e : nks [PV.str x, tI p] = some [.text (tS x), .tup (p.map NestedKey.num)] := by simp [nks, nk, nks_ints]
  have := dep_ints p
  show (match nks [PV.str x, tI p] with | some ks => decide (NestedKey.depthAll ks ≤ 7) | none => false) = true
  rw [e]
  simp only [NestedKey.depthAll, NestedKey.depth]
  exact decide_eq_true (by omega)
theorem cellP_inj {x y : List Nat} {p q : List Int} (h : cellP x p = cellP y q) : x = y ∧ p = q := by
  simp only [cellP, PV.tup.injEq, List.cons.injEq, PV.str.injEq, and_true] at h
  exact ⟨h.1, map_int_inj h.2⟩
theorem sort2 (a b : Int) : sortOk [.int a, .int b] = true ∧ isort [.int a, .int b] = if b < a then [.int b, .int a] else [.int a, .int b] := by
  constructor
  · simp [sortOk, PV.pls, PV.pl, PV.dps, PV.dp, PV.lt?, PV.isInt]
  · have oo : PV.o (.int b) (.int a) = decide (b < a) := by
      have : PV.lt? (.int b) (.int a) = some (decide (b < a)) := rfl
      rw [PV.o_of this]
    show insO (insO [] (.int a)) (.int b) = _
    by_cases h : b < a
    · simp [insO, oo, h]
    · simp [insO, oo, h]

theorem find_name {gs : List Giv} {fs : List (List Fp)} (hfs : fs.length = gs.length) (nd : (gs.map Giv.name).Nodup) {x : List Nat} (m : x ∈ gs.map Giv.name) : ∃ (i : Nat) (g : Giv) (f : List Fp), gs[i]? = some g ∧ fs[i]? = some f ∧ g.name = x ∧ ∀ p, gvOf gs fs x p = gv g.rim f p := by
  obtain ⟨g, hg, rfl⟩ := List.mem_map.mp m
  obtain ⟨i, hi, rfl⟩ := List.getElem_of_mem hg
  refine ⟨i, gs[i], fs[i]'(by omega), List.getElem?_eq_getElem hi, List.getElem?_eq_getElem (by omega), rfl, fun p => ?_⟩
  unfold gvOf
  have hz : i < (gs.zip fs).length := by simp; omega
  have : (gs.zip fs).find? (fun a => decide (a.1.name = gs[i].name)) = some (gs[i], fs[i]'(by omega)) := by
    rw [List.find?_eq_some_iff_getElem]
    refine ⟨by simp, i, hz, by simp, fun j hj => ?_⟩
    simp only [List.getElem_zip, Bool.not_eq_eq_eq_not, Bool.not_true, decide_eq_false_iff_not]
    intro e
    rw [List.nodup_iff_pairwise_ne, List.pairwise_iff_getElem] at nd
    exact nd j i (by simp; omega) (by simpa using hi) hj (by simpa using e)
  rw [this]
theorem find_rim {gs : List Giv} {rs : List Row} (nd : Nd gs rs) {x : List Nat} (m : x ∈ gs.map Giv.name ∨ x ∈ rs.map Row.name) : ∃ u r, u ∈ gs.map Giv.P ++ rs.map Row.P ∧ u = .tup (.str x :: .int (rimOf gs rs x) :: r) := by
  by_cases hg : x ∈ gs.map Giv.name
  · obtain ⟨g, hg1, rfl⟩ := List.mem_map.mp hg
    have : ∃ g', gs.find? (fun g' => decide (g'.name = g.name)) = some g' := by
      cases e : gs.find? (fun g' => decide (g'.name = g.name)) with
      | some g' => exact ⟨g', rfl⟩
      | none => rw [List.find?_eq_none] at e; exact absurd (e g hg1) (by simp)
    obtain ⟨g', e⟩ := this
    have e1 := List.find?_some e
    have e2 := List.mem_of_find?_eq_some e
    refine ⟨g'.P, [oi g'.lo, oi g'.hi], List.mem_append_left _ (List.mem_map.mpr ⟨g', e2, rfl⟩), ?_⟩
    unfold rimOf
    rw [e]
    have : g'.name = g.name := by simpa using e1
    rw [← this]
    rfl
  · rcases m with m | m
    · exact absurd m hg
    obtain ⟨g, hg', rfl⟩ := List.mem_map.mp m
    have no : gs.find? (fun g' => decide (g'.name = g.name)) = none := by
      rw [List.find?_eq_none]
      intro g' hg''
      simp only [decide_eq_true_eq]
      exact fun z => hg (List.mem_map.mpr ⟨g', hg'', z⟩)
    have : ∃ g', rs.find? (fun g' => decide (g'.name = g.name)) = some g' := by
      cases e : rs.find? (fun g' => decide (g'.name = g.name)) with
      | some g' => exact ⟨g', rfl⟩
      | none => rw [List.find?_eq_none] at e; exact absurd (e g hg') (by simp)
    obtain ⟨g', e⟩ := this
    have e1 := List.find?_some e
    have e2 := List.mem_of_find?_eq_some e
    refine ⟨g'.P, [g'.e.P], List.mem_append_right _ (List.mem_map.mpr ⟨g', e2, rfl⟩), ?_⟩
    unfold rimOf
    rw [no, e]
    have : g'.name = g.name := by simpa using e1
    rw [← this]
    rfl
section
variable {ov hd : PV} {gs : List Giv} {rs : List Row} {fs : List (List Fp)} {sz p : List Int} {kn : Kn} {w kna : Addr} {kk : List (PV × PV)}
/-- where a reference leads -/
def RefK (gs : List Giv) (rs : List Row) (sz p : List Int) (kn : Kn) (x : List Nat) (os : List Int) : Prop :=
  os.length = sz.length ∧ (x ∈ gs.map Giv.name ∨ (x ∈ rs.map Row.name ∧ (inB sz (atO p os) = true → (kn x (atO p os)).isSome = true)))
theorem c_worth_at (nd : Nd gs rs) (hl : gs.length + rs.length ≤ 1000) (hfs : fs.length = gs.length) (hsz : sz.length ≤ 1000) (hp : p.length = sz.length) (kkok : ∀ x q, dget kk (cellP x q) = (kn x q).map .int) :
    ∀ (n : Nat) (e : Ex), e.dep ≤ n → e.Al (RefK gs rs sz p kn) → e.ctrs sz.length → ∀ {k : Nat}, n + 2 ≤ k → ∀ {h : PH} {Q : QV}, WAt h w kna (TP ov gs rs hd) (tI sz) (fsP fs) kk → Q (.int (e.worth (lookV gs rs sz fs kn) p)) h → (wC k)._law_worth_at [.ref w, e.P, tI p] h Q := by
  intro n
  induction n with
  | zero => exact fun e he al ct {k} hk {h Q} wa q => body 0 (fun c hc => absurd hc (by omega)) e he al ct hk wa q
  | succ n ih => exact fun e he al ct {k} hk {h Q} wa q => body (n + 1) (fun c hc al ct => by
      intro k' hk' h' Q' wa' q'
      exact ih c (by omega) al ct (by omega) wa' q') e he al ct hk wa q
where
  body (n : Nat) (ih : ∀ c : Ex, c.dep + 1 ≤ n → c.Al (RefK gs rs sz p kn) → c.ctrs sz.length → ∀ {k : Nat}, n + 1 ≤ k → ∀ {h : PH} {Q : QV}, WAt h w kna (TP ov gs rs hd) (tI sz) (fsP fs) kk → Q (.int (c.worth (lookV gs rs sz fs kn) p)) h → (wC k)._law_worth_at [.ref w, c.P, tI p] h Q)
      (e : Ex) (he : e.dep ≤ n) (al : e.Al (RefK gs rs sz p kn)) (ct : e.ctrs sz.length) {k : Nat} (hk : n + 2 ≤ k) {h : PH} {Q : QV} (wa : WAt h w kna (TP ov gs rs hd) (tI sz) (fsP fs) kk) (q : Q (.int (e.worth (lookV gs rs sz fs kn) p)) h) : (wC k)._law_worth_at [.ref w, e.P, tI p] h Q := by
    obtain ⟨k, rfl⟩ : ∃ j, k = j + 1 := ⟨k - 1, by omega⟩
    show zFn _ _ (b__law_worth_at (wC k)) _ h Q
    unfold b__law_worth_at
    have out : ∃ h2, G.Sub h2 h ∧ Q (.int (e.worth (lookV gs rs sz fs kn) p)) h2 := ⟨h, G.Sub.refl _, q⟩
    obtain ⟨⟨kvs, e0, w1, w2, w3, w4⟩, e1⟩ := id wa
    have kz : ∀ z, keyOk false (.str z) = true := fun _ => rfl
    cases e with
    | num m =>
      simp only [Ex.P]
      simp_all! []
      exact out
    | ctr m =>
      obtain ⟨c, rfl⟩ : ∃ c : Nat, m = c := ⟨m.toNat, by have := ct.1; omega⟩
      have hc : c < p.length := by have := ct.2; omega
      simp only [Ex.P]
      simp_all! [atN, ints_at hc]
      simpa [Ex.worth] using out
    | cell x os =>
      obtain ⟨lo, hx⟩ := al
      simp only [Ex.P]
      simp_all! []
      refine c_at_offsets (by omega) (show p.length = os.length by omega) (by omega) ?_
      simp_all! [e0, kz, w2]
      have hlt : (atO p os).length = sz.length := by rw [atO_len (by omega)]; exact hp
      refine c_in_box (by omega) hlt (by omega) ?_
      simp only [Ex.worth, lookV] at out q
      cases hb : inB sz (atO p os) with
      | false =>
        simp_all! [Bool.not_false, e0, kz, w1]
        obtain ⟨u, r, mu, eu⟩ := find_rim nd (hx.imp_right And.left)
        refine c_row_named (by omega) nd hl mu eu ?_
        rw [eu]
        dsimp! []
        rw [if_neg (by rw [hb]; decide)] at out
        exact out
      | true =>
        rw [if_pos hb] at out
        simp_all! [Bool.not_true, e0, kz, w4, e1, key_cell, kkok]
        refine ⟨by decide, ?_⟩
        cases hk' : kn x (atO p os) with
        | some v =>
          rw [hk'] at out
          dsimp! [Option.map_some, Option.isSome_some, e0, kz, w4, e1, key_cell, kkok, hk']
          exact ⟨by decide, out⟩
        | none =>
          rw [hk'] at out
          have hg : x ∈ gs.map Giv.name := by
            rcases hx with hx | ⟨_, hx⟩
            · exact hx
            · have := hx hb; rw [hk'] at this; cases this
          obtain ⟨i, g, f, eg, ef, rfl, hv⟩ := find_name hfs (List.nodup_append.mp nd).1 hg
          simp only [hv] at out
          dsimp! [Option.map_none, Option.isSome_none, e0, kz, w1, w3]
          exact c_given_value (by omega) (List.nodup_append.mp nd).1 (by omega) eg ef out
    | neg a =>
      simp only [Ex.dep] at he
      simp only [Ex.P]
      simp_all! []
      refine ih a he al ct (by omega) wa ?_
      simp_all! []
      exact out
    | scl m a =>
      simp only [Ex.dep] at he
      simp only [Ex.P]
      simp_all! []
      refine ih a he al.2 ct (by omega) wa ?_
      simp_all! []
      exact ⟨mulR (by have := al.1; omega), out⟩
    | bin o a b =>
      simp only [Ex.dep] at he
      simp only [Ex.P]
      cases o <;> simp only [Op2.cs] <;> simp_all! [] <;> refine ih a (by omega) al.1 ct.1 (by omega) wa (ih b (by omega) al.2 ct.2 (by omega) wa ?_) <;> simp_all! []
      · exact out
      · exact out
      · simp only [Ex.worth] at out q
        generalize a.worth (lookV gs rs sz fs kn) p = x at q
        generalize b.worth (lookV gs rs sz fs kn) p = y at q
        obtain ⟨s1, s2⟩ := sort2 x y
        refine ⟨by decide, fun p1 n1 => ⟨s1, fun d nd => ?_⟩⟩
        rw [s2]
        refine ⟨.int (if y < x then y else x), by split <;> exact at0, h, sub_of_kp ((kp_new n1).new nd), q⟩
      · simp only [Ex.worth] at out q
        generalize a.worth (lookV gs rs sz fs kn) p = x at q
        generalize b.worth (lookV gs rs sz fs kn) p = y at q
        obtain ⟨s1, s2⟩ := sort2 x y
        refine ⟨by decide, fun p1 n1 => ⟨s1, fun d nd => ?_⟩⟩
        rw [s2]
        refine ⟨.int (if y < x then x else y), by split <;> exact at1, h, sub_of_kp ((kp_new n1).new nd), q⟩
    | pick g a b c d =>
      simp only [Ex.dep] at he
      simp only [Ex.P]
      simp_all! []
      have al4 : ∀ e ∈ [a, b, c, d], e.dep + 1 ≤ n ∧ e.Al (RefK gs rs sz p kn) ∧ e.ctrs sz.length := fun e he' => by
        simp only [List.mem_cons, List.not_mem_nil, or_false] at he'
        rcases he' with rfl | rfl | rfl | rfl
        · exact ⟨by omega, al.1, ct.1⟩
        · exact ⟨by omega, al.2.1, ct.2.1⟩
        · exact ⟨by omega, al.2.2.1, ct.2.2.1⟩
        · exact ⟨by omega, al.2.2.2, ct.2.2.2⟩
      rw [cut_from (show (0 : Int) ≤ 2 by omega), show (2 : Int).toNat = 2 from rfl]
      refine lcW_V (ps := [a, b, c, d].map Ex.P) (by rw [sizeLine_eq, List.length_map]; simp) (fun i acc h' => h = h' ∧ acc = ([a, b, c, d].take i).map fun e => .int (e.worth (lookV gs rs sz fs kn) p)) ⟨rfl, rfl⟩ (fun i acc h' e => by rw [e.2, List.length_map]; exact List.length_take_le _ _) ?_ ?_
      · rintro i _ _ u eu ⟨rfl, rfl⟩
        rw [List.getElem?_map] at eu
        obtain ⟨e, er, rfl⟩ := Option.map_eq_some_iff.mp eu
        obtain ⟨e1, e2, e3⟩ := al4 e (List.mem_of_getElem? er)
        dsimp! []
        refine ih e e1 e2 e3 (by omega) wa ⟨h, G.Sub.refl _, rfl, ?_⟩
        rw [List.take_add_one, er, List.map_append]; rfl
      · rintro _ _ ⟨rfl, rfl⟩ D nD
        simp only [List.length_map, List.length_cons, List.length_nil, List.take, List.map_cons, List.map_nil]
        dsimp! []
        refine ⟨by decide, fun p1 n1 => ?_⟩
        have hD : D ≠ p1 := by rintro rfl; rw [up_same] at n1; cases n1
        dsimp! [up_ne hD]
        refine c_holds_sign (by omega) ?_
        simp only [Ex.worth] at q
        cases hb : hsS g (a.worth (lookV gs rs sz fs kn) p) (b.worth (lookV gs rs sz fs kn) p) with
        | true =>
          rw [if_pos hb] at q
          dsimp! []
          exact ⟨h, sub_of_kp ((kp_new nD).new n1), q⟩
        | false =>
          rw [if_neg (by rw [hb]; decide)] at q
          dsimp! []
          exact ⟨h, sub_of_kp ((kp_new nD).new n1), q⟩
end

/-! ### cells and what they need -/
abbrev Cl := List Nat × List Int
abbrev clP (c : Cl) : PV := cellP c.1 c.2
theorem clP_inj {a b : Cl} (h : clP a = clP b) : a = b := by
  obtain ⟨h1, h2⟩ := cellP_inj h
  exact Prod.ext h1 h2
theorem clP_mem {c : Cl} {l : List Cl} : clP c ∈ l.map clP ↔ c ∈ l := by
  rw [List.mem_map]
  exact ⟨fun ⟨d, hd, e⟩ => clP_inj e ▸ hd, fun h => ⟨c, h, rfl⟩⟩
theorem cl_dat {l : List Cl} (h : ∀ c ∈ l, okS c.1 = true) : PV.pls (l.map clP) = true ∧ PV.dps (l.map clP) ≤ 2 := by
  induction l with
  | nil => exact ⟨rfl, by simp [PV.dps]⟩
  | cons c l ih =>
    obtain ⟨i1, i2⟩ := ih fun d hd => h d (List.mem_cons_of_mem _ hd)
    have h1 := dat_pl _ (okS_dat (h c List.mem_cons_self))
    have h2 := tI_dat c.2
    refine ⟨by simp [PV.pls, PV.pl, h1, h2, i1] at h1 ⊢; simpa [PV.pl] using h1, ?_⟩
    simp only [List.map_cons, PV.dps, PV.dp, h2]; omega
theorem cl_pl {c : Cl} (h : okS c.1 = true) : (clP c).pl = true ∧ (clP c).dp ≤ 2 := by
  obtain ⟨h1, h2⟩ := cl_dat (l := [c]) (by simpa using h)
  simp only [List.map_cons, List.map_nil, PV.pls, PV.dps, Bool.and_true] at h1 h2
  exact ⟨h1, by omega⟩
def needs (rs : List Row) (sz : List Int) (e : Ex) (p : List Int) : List Cl := (e.refs.filter fun a => decide (a.1 ∈ rs.map Row.name) && inB sz (atO p a.2)).map fun a => (a.1, atO p a.2)
theorem c_needs_of {ov hd : PV} {gs : List Giv} {rs : List Row} (nd : Nd gs rs) (hl : gs.length + rs.length ≤ 1000) (okr : ∀ r ∈ rs, okS r.name = true) {sz : List Int} (hsz : sz.length ≤ 1000) {r : Row} (mr : r ∈ rs) (hdep : r.e.dep ≤ 9) (hx : ∀ a ∈ r.e.refs, a.2.length = sz.length ∧ okS a.1 = true)
    {p : List Int} (hp : p.length = sz.length) {k : Nat} (hk : 12 ≤ k) {h : PH} {Q : QV} (q : ∀ d (ns : List Cl) h', h d = none → Kp [] h h' → h' d = some (.lst (ns.map clP)) → (∀ c, c ∈ ns ↔ c ∈ needs rs sz r.e p) → ns.length ≤ 1000000 → Q (.ref d) h') :
    (wC k)._law_needs_of [TP ov gs rs hd, tI sz, .str r.name, tI p] h Q := by
  obtain ⟨k, rfl⟩ : ∃ j, k = j + 1 := ⟨k - 1, by omega⟩
  show zFn _ _ (b__law_needs_of (wC k)) _ h Q
  unfold b__law_needs_of
  have rn : ((rs.map Row.P).filter fun _ => true).map (fun p => match p with | .tup (x :: _) => x | p => p) = (rs.map Row.name).map .str := by
    rw [List.filter_eq_self.mpr (by simp), List.map_map, List.map_map]; rfl
  have okn := pls_strs (l := rs.map Row.name) fun x hx => by
    obtain ⟨r, hr, rfl⟩ := List.mem_map.mp hx
    exact okr r hr
  have lr : r.e.refs.length ≤ 1000000 := Nat.le_trans (refs_len r.e) (by
    have := pow9 hdep; omega)
  dsimp! []
  refine ⟨by decide, fun d nd0 => ?_⟩
  refine lcP_V (fun _ => true) (fun p => match p with | .tup (x :: _) => x | p => p) (by rw [sizeLine_eq, List.length_map]; omega) (fun p hp R acc r => ?_) ?_
  · obtain ⟨s, _, rfl⟩ := List.mem_map.mp hp
    simp only [Row.P] at r ⊢
    dsimp! []
    simpa using r
  intro d1 nd1
  rw [rn]
  have h01 : d ≠ d1 := by rintro rfl; rw [up_same] at nd1; cases nd1
  rw [zSeq_x]
  dsimp! []
  refine c_row_named (x := r.name) (r := [.int r.rim, r.e.P]) (by omega) nd hl (List.mem_append_right _ (List.mem_map.mpr ⟨r, mr, rfl⟩)) rfl ?_
  rw [show r.P = .tup [.str r.name, .int r.rim, r.e.P] from rfl]
  dsimp! []
  refine c_refs 9 r.e hdep (by decide) (by omega) fun d2 nd2 => ?_
  have h02 : d ≠ d2 := by rintro rfl; rw [up_ne h01, up_same] at nd2; cases nd2
  have h12 : d1 ≠ d2 := by rintro rfl; rw [up_same] at nd2; cases nd2
  have e0 : up (up (up h d (.lst [])) d1 (.lst ((rs.map Row.name).map .str))) d2 (.lst (r.e.refs.map refP)) d = some (.lst []) := by rw [up_ne h02, up_ne h01, up_same]
  have e1 : up (up (up h d (.lst [])) d1 (.lst ((rs.map Row.name).map .str))) d2 (.lst (r.e.refs.map refP)) d1 = some (.lst ((rs.map Row.name).map .str)) := by rw [up_ne h12, up_same]
  have e2 : up (up (up h d (.lst [])) d1 (.lst ((rs.map Row.name).map .str))) d2 (.lst (r.e.refs.map refP)) d2 = some (.lst (r.e.refs.map refP)) := up_same
  have k0 : Kp [] h (up (up (up h d (.lst [])) d1 (.lst ((rs.map Row.name).map .str))) d2 (.lst (r.e.refs.map refP))) := (((Kp.refl [] h).new nd0).new nd1).new nd2
  generalize up (up (up h d (.lst [])) d1 (.lst ((rs.map Row.name).map .str))) d2 (.lst (r.e.refs.map refP)) = H at e0 e1 e2 k0
  clear nd1 nd2
  dsimp! [e2]
  refine forW_L (ps := r.e.refs.map refP) (fun i ρ' h' => ∃ (ns : List Cl) (x6 x7 x8 x9 : Option PV), ρ' = [some (TP ov gs rs hd), some (tI sz), some (.str r.name), some (tI p), some (.ref d), some (.ref d1), x6, x7, x8, x9, none] ∧ Kp [] h h' ∧ h' d = some (.lst (ns.map clP)) ∧ h' d1 = some (.lst ((rs.map Row.name).map .str)) ∧ h' d2 = some (.lst (r.e.refs.map refP)) ∧ ns.length ≤ i ∧
    (∀ c ∈ ns, okS c.1 = true) ∧ ∀ c, c ∈ ns ↔ c ∈ ((r.e.refs.take i).filter fun a => decide (a.1 ∈ rs.map Row.name) && inB sz (atO p a.2)).map fun a => (a.1, atO p a.2)) ⟨[], none, none, none, none, rfl, k0, e0, e1, e2, Nat.le_refl _, by simp, by simp⟩ (fun i _ h' _ ⟨_, _, _, _, _, _, _, _, _, e, _⟩ => e) ?_ ?_
  · rintro i _ h6 u eu ⟨ns, x6, x7, x8, x9, rfl, k6, f0, f1, f2, ln, okc, spec⟩
    rw [List.getElem?_map] at eu
    obtain ⟨⟨x, os⟩, ea, rfl⟩ := Option.map_eq_some_iff.mp eu
    obtain ⟨lo, okx⟩ := hx _ (List.mem_of_getElem? ea)
    simp only at lo okx
    have hi : i < r.e.refs.length := (List.getElem?_eq_some_iff.mp ea).1
    rw [List.take_add_one, ea]
    simp only [Option.toList_some, List.filter_append, List.map_append]
    show zgTup 3 _ (refP (x, os)) _ _ _
    unfold refP
    dsimp! []
    refine c_at_offsets (by omega) (show p.length = os.length by omega) (by omega) ?_
    dsimp! [f1]
    have hxp : (PV.str x).pl = true := dat_pl _ (okS_dat okx)
    refine ⟨hxp, by simp [PV.dp], okn.1, by have := okn.2; omega, ?_⟩
    have xin : (PV.str x ∈ (rs.map Row.name).map PV.str) ↔ x ∈ rs.map Row.name := by
      rw [List.mem_map]
      exact ⟨fun ⟨y, hy, e⟩ => by cases e; exact hy, fun h => ⟨x, h, rfl⟩⟩
    by_cases hxr : x ∈ rs.map Row.name
    · dsimp! [xin, hxr]
      have hlt : (atO p os).length = sz.length := by rw [atO_len (by omega)]; exact hp
      refine c_in_box (by omega) hlt (by omega) ?_
      cases hb : inB sz (atO p os) with
      | false =>
        dsimp! []
        refine ⟨h6, G.Sub.refl _, ns, _, _, _, _, rfl, k6, f0, f1, f2, by omega, okc, fun c => ?_⟩
        rw [spec c, List.filter_cons_of_neg (by simp [hb]), List.filter_nil, List.map_nil, List.append_nil]
      | true =>
        dsimp! [f0]
        have cp := cl_pl (c := (x, atO p os)) okx
        have dn := cl_dat okc
        refine ⟨by decide, cp.1, Nat.le_trans cp.2 (by decide), dn.1, by omega, ?_⟩
        have cin : (PV.tup [.str x, .tup ((atO p os).map .int)] ∈ ns.map clP) ↔ (x, atO p os) ∈ ns := clP_mem (c := (x, atO p os))
        have fl : (List.filter (fun a : List Nat × List Int => decide (a.1 ∈ rs.map Row.name) && inB sz (atO p a.2)) [(x, os)]).map (fun a => (a.1, atO p a.2)) = [(x, atO p os)] := by
          rw [List.filter_cons_of_pos (by simp [hb]; simpa using hxr)]; rfl
        rw [fl]
        by_cases hc : (x, atO p os) ∈ ns
        · dsimp! [cin, hc, Bool.not_true]
          refine ⟨h6, G.Sub.refl _, ns, _, _, _, _, rfl, k6, f0, f1, f2, by omega, okc, fun c => ?_⟩
          rw [List.mem_append, ← spec c, List.mem_singleton]
          exact ⟨.inl, fun z => z.elim id fun z => z ▸ hc⟩
        · dsimp! [cin, hc, Bool.not_false, f0]
          refine ⟨by decide, by rw [sizeLine_eq, List.length_map]; omega, _, G.Sub.refl _, ns ++ [(x, atO p os)], _, _, _, _, rfl, k6.put0 nd0, ?_, by rw [up_ne h01.symm]; exact f1, by rw [up_ne h02.symm]; exact f2, by simp; omega, fun c hc => ?_, fun c => ?_⟩
          · rw [up_same, List.map_append]; rfl
          · rcases List.mem_append.mp hc with hc | hc
            · exact okc c hc
            · rw [List.mem_singleton.mp hc]; exact okx
          · rw [List.mem_append, List.mem_append, ← spec c]
    · dsimp! [xin, hxr]
      refine ⟨h6, G.Sub.refl _, ns, _, _, _, _, rfl, k6, f0, f1, f2, by omega, okc, fun c => ?_⟩
      rw [spec c, List.filter_cons_of_neg (by simp; intro y hy e; exact absurd (List.mem_map.mpr ⟨y, hy, e⟩) hxr), List.filter_nil, List.map_nil, List.append_nil]
  · rintro _ h6 ⟨ns, x6, x7, x8, x9, rfl, k6, f0, f1, f2, ln, okc, spec⟩
    rw [List.length_map] at ln
    rw [List.length_map, List.take_length] at spec
    dsimp! []
    exact ⟨h6, G.Sub.refl _, q d ns h6 nd0 k6 f0 spec (by omega)⟩

/-! ### telling the cells, round by round -/
section
variable (gs : List Giv) (rs : List Row) (fs : List (List Fp)) (sz : List Int)
def told : Nat → Cl → Option Int
  | 0, _ => none
  | i + 1, c => match rs.find? fun r => decide (r.name = c.1) with
    | some r => if c.2 ∈ places sz ∧ ∀ d ∈ needs rs sz r.e c.2, (told i d).isSome = true then some (r.e.worth (lookV gs rs sz fs fun x q => told i (x, q)) c.2) else none
    | none => none
def cells : List Cl := rs.flatMap fun r => (places sz).map fun p => (r.name, p)
/-- nothing more comes -/
def Stable (i : Nat) : Prop := ∀ c, told gs rs fs sz (i + 1) c = told gs rs fs sz i c
/-- what a table keeps, to be told -/
structure Tell : Prop where
  nd : Nd gs rs
  few : gs.length + rs.length ≤ 100
  okr : ∀ r ∈ rs, okS r.name = true
  fl : fs.length = gs.length
  sl : 1 ≤ sz.length ∧ sz.length ≤ 10
  sp : ∀ n ∈ sz, 0 ≤ n ∧ n ≤ 1000
  pl : ∀ i, (places (sz.take i)).length ≤ 1000
  dep : ∀ r ∈ rs, r.e.dep ≤ 9
  al : ∀ r ∈ rs, r.e.Al fun x os => okS x = true ∧ os.length = sz.length ∧ (x ∈ gs.map Giv.name ∨ x ∈ rs.map Row.name)
  ct : ∀ r ∈ rs, r.e.ctrs sz.length
end
theorem al_refs {F : List Nat → List Int → Prop} : ∀ {e : Ex}, e.Al F → ∀ a ∈ e.refs, F a.1 a.2
  | .num _, _, a, h => by simp [Ex.refs] at h
  | .ctr _, _, a, h => by simp [Ex.refs] at h
  | .cell x os, w, a, h => by simp [Ex.refs] at h; subst h; exact w
  | .neg e, w, a, h => al_refs (e := e) w a (by simpa [Ex.refs] using h)
  | .scl _ e, w, a, h => al_refs (e := e) w.2 a (by simpa [Ex.refs] using h)
  | .bin _ e f, w, a, h => by
    simp [Ex.refs] at h
    rcases h with h | h
    · exact al_refs w.1 a h
    · exact al_refs w.2 a h
  | .pick _ e f g i, w, a, h => by
    simp [Ex.refs] at h
    rcases h with h | h | h | h
    · exact al_refs w.1 a h
    · exact al_refs w.2.1 a h
    · exact al_refs w.2.2.1 a h
    · exact al_refs w.2.2.2 a h
theorem al_of {F H : List Nat → List Int → Prop} : ∀ {e : Ex}, e.Al F → (∀ a ∈ e.refs, F a.1 a.2 → H a.1 a.2) → e.Al H
  | .num _, w, _ => w
  | .ctr _, w, _ => w
  | .cell x os, w, h => h (x, os) (by simp [Ex.refs]) w
  | .neg e, w, h => al_of (e := e) w fun a m => h a (by simpa [Ex.refs] using m)
  | .scl _ e, w, h => ⟨w.1, al_of (e := e) w.2 fun a m => h a (by simpa [Ex.refs] using m)⟩
  | .bin _ e f, w, h => ⟨al_of w.1 fun a m => h a (by simp [Ex.refs, m]), al_of w.2 fun a m => h a (by simp [Ex.refs, m])⟩
  | .pick _ e f g i, w, h => ⟨al_of w.1 fun a m => h a (by simp [Ex.refs, m]), al_of w.2.1 fun a m => h a (by simp [Ex.refs, m]), al_of w.2.2.1 fun a m => h a (by simp [Ex.refs, m]), al_of w.2.2.2 fun a m => h a (by simp [Ex.refs, m])⟩
theorem worth_congr {L M : List Nat → List Int → Int} {p : List Int} : ∀ {e : Ex}, (∀ a ∈ e.refs, L a.1 (atO p a.2) = M a.1 (atO p a.2)) → e.worth L p = e.worth M p
  | .num _, _ => rfl
  | .ctr _, _ => rfl
  | .cell x os, h => h (x, os) (by simp [Ex.refs])
  | .neg e, h => by simp only [Ex.worth]; rw [worth_congr (e := e) fun a m => h a (by simpa [Ex.refs] using m)]
  | .scl _ e, h => by simp only [Ex.worth]; rw [worth_congr (e := e) fun a m => h a (by simpa [Ex.refs] using m)]
  | .bin o e f, h => by
    have h1 := worth_congr (e := e) fun a m => h a (by simp [Ex.refs, m])
    have h2 := worth_congr (e := f) fun a m => h a (by simp [Ex.refs, m])
    cases o <;> simp only [Ex.worth, h1, h2]
  | .pick o e f g i, h => by
    have h1 := worth_congr (e := e) fun a m => h a (by simp [Ex.refs, m])
    have h2 := worth_congr (e := f) fun a m => h a (by simp [Ex.refs, m])
    have h3 := worth_congr (e := g) fun a m => h a (by simp [Ex.refs, m])
    have h4 := worth_congr (e := i) fun a m => h a (by simp [Ex.refs, m])
    simp only [Ex.worth, h1, h2, h3, h4]
section
variable {gs : List Giv} {rs : List Row} {fs : List (List Fp)} {sz : List Int}
theorem row_find (nd : Nd gs rs) {r : Row} (m : r ∈ rs) : rs.find? (fun r' => decide (r'.name = r.name)) = some r := by
  obtain ⟨i, hi, rfl⟩ := List.getElem_of_mem m
  rw [List.find?_eq_some_iff_getElem]
  refine ⟨by simp, i, hi, rfl, fun j hj => ?_⟩
  have nd2 := (List.nodup_append.mp nd).2.1
  rw [List.nodup_iff_pairwise_ne, List.pairwise_iff_getElem] at nd2
  have := nd2 j i (by simp; omega) (by simpa using hi) hj
  simpa using this
theorem told_row (nd : Nd gs rs) {r : Row} (m : r ∈ rs) (i : Nat) (p : List Int) : told gs rs fs sz (i + 1) (r.name, p) = if p ∈ places sz ∧ ∀ d ∈ needs rs sz r.e p, (told gs rs fs sz i d).isSome = true then some (r.e.worth (lookV gs rs sz fs fun x q => told gs rs fs sz i (x, q)) p) else none := by
  simp only [told, row_find nd m]
theorem told_none {c : Cl} (h : c ∉ cells rs sz) : ∀ i, told gs rs fs sz i c = none
  | 0 => rfl
  | i + 1 => by
    simp only [told]
    cases e : rs.find? fun r => decide (r.name = c.1) with
    | none => rfl
    | some r =>
      have e1 := List.find?_some e
      have e2 := List.mem_of_find?_eq_some e
      simp only
      rw [if_neg]
      rintro ⟨hp, _⟩
      refine h (List.mem_flatMap.mpr ⟨r, e2, List.mem_map.mpr ⟨c.2, hp, ?_⟩⟩)
      exact Prod.ext (by simpa using e1) rfl
/-- a name of a given is none of a rule -/
theorem nd_apart (nd : Nd gs rs) {x : List Nat} (h1 : x ∈ gs.map Giv.name) (h2 : x ∈ rs.map Row.name) : False := (List.nodup_append.mp nd).2.2 x h1 x h2 rfl
theorem told_given (nd : Nd gs rs) {x : List Nat} (h1 : x ∈ gs.map Giv.name) (p : List Int) (i : Nat) : told gs rs fs sz i (x, p) = none := told_none (fun h => by
  obtain ⟨r, hr, hp⟩ := List.mem_flatMap.mp h
  obtain ⟨q, _, e⟩ := List.mem_map.mp hp
  simp only [Prod.mk.injEq] at e
  exact nd_apart nd h1 (List.mem_map.mpr ⟨r, hr, e.1⟩)) i
theorem told_mono (T : Tell gs rs fs sz) : ∀ (i : Nat) (c : Cl) (v : Int), told gs rs fs sz i c = some v → told gs rs fs sz (i + 1) c = some v
  | 0, c, v, h => by simp [told] at h
  | i + 1, c, v, h => by
    by_cases hc : c ∈ cells rs sz
    case neg => rw [told_none hc] at h; cases h
    obtain ⟨r, hr, hp⟩ := List.mem_flatMap.mp hc
    obtain ⟨p, _, rfl⟩ := List.mem_map.mp hp
    rw [told_row T.nd hr] at h ⊢
    split at h
    · rename_i hh
      have up : ∀ d ∈ needs rs sz r.e p, told gs rs fs sz (i + 1) d = told gs rs fs sz i d := fun d hd => by
        obtain ⟨w, hw⟩ := Option.isSome_iff_exists.mp (hh.2 d hd)
        rw [hw, told_mono T i d w hw]
      rw [if_pos ⟨hh.1, fun d hd => by rw [up d hd]; exact hh.2 d hd⟩, ← h]
      congr 1
      refine worth_congr fun a ha => ?_
      unfold lookV
      cases hb : inB sz (atO p a.2) with
      | false => rfl
      | true =>
        simp only [if_true]
        rcases (al_refs (T.al r hr) a ha).2.2 with hg | hg
        · rw [told_given T.nd hg, told_given T.nd hg]
        · rw [up (a.1, atO p a.2) (List.mem_map.mpr ⟨a, List.mem_filter.mpr ⟨ha, by simp only [Bool.and_eq_true, decide_eq_true_eq]; exact ⟨hg, hb⟩⟩, rfl⟩)]
    · cases h
end

section
variable {gs : List Giv} {rs : List Row} {fs : List (List Fp)} {sz : List Int}
theorem cells_mem {c : Cl} (h : c ∈ cells rs sz) : ∃ r ∈ rs, ∃ p ∈ places sz, c = (r.name, p) := by
  obtain ⟨r, hr, hp⟩ := List.mem_flatMap.mp h
  obtain ⟨p, hq, rfl⟩ := List.mem_map.mp hp
  exact ⟨r, hr, p, hq, rfl⟩
theorem row_one (nd : Nd gs rs) {r r' : Row} (h : r ∈ rs) (h' : r' ∈ rs) (e : r'.name = r.name) : r' = r := by
  have a := row_find nd h'
  rw [e, row_find nd h] at a
  exact (Option.some.inj a).symm
theorem flat_const {α β : Type} (f : α → List β) (n : Nat) : ∀ l : List α, (∀ a ∈ l, (f a).length ≤ n) → (l.flatMap f).length ≤ l.length * n
  | [], _ => by simp
  | a :: l, h => by
    have := flat_const f n l fun b hb => h b (List.mem_cons_of_mem _ hb)
    have := h a List.mem_cons_self
    rw [List.flatMap_cons, List.length_append, List.length_cons, Nat.add_mul]; omega
theorem Tell.cells_len (T : Tell gs rs fs sz) (i : Nat) : ((rs.take i).flatMap fun r => (places sz).map fun p => (r.name, p)).length ≤ 100000 := by
  have h1 := T.pl sz.length
  rw [List.take_length] at h1
  have h2 := flat_const (fun r : Row => (places sz).map fun p => (r.name, p)) 1000 (rs.take i) fun a _ => by rw [List.length_map]; exact h1
  have h3 : (rs.take i).length ≤ 100 := by
    rw [List.length_take]
    have := T.few; omega
  exact Nat.le_trans h2 (Nat.mul_le_mul_right 1000 h3)
theorem Tell.okc (T : Tell gs rs fs sz) {c : Cl} (h : c ∈ cells rs sz) : okS c.1 = true := by
  obtain ⟨r, hr, p, _, rfl⟩ := cells_mem h
  exact T.okr r hr
/-- the dict of needs -/
def NeedsAt (rs : List Row) (sz : List Int) (nk : List (PV × PV)) (l : List Cl) (h' : PH) : Prop :=
  ∀ r ∈ rs, ∀ p, (r.name, p) ∈ l → ∃ (a : Addr) (ns : List Cl), dget nk (clP (r.name, p)) = some (.ref a) ∧ h' a = some (.lst (ns.map clP)) ∧ (∀ c, c ∈ ns ↔ c ∈ needs rs sz r.e p) ∧ ns.length ≤ 1000000
theorem needs_cells (T : Tell gs rs fs sz) {r : Row} (hr : r ∈ rs) {p : List Int} (hp : p.length = sz.length) {c : Cl} (h : c ∈ needs rs sz r.e p) : c ∈ cells rs sz := by
  obtain ⟨a, ha, rfl⟩ := List.mem_map.mp h
  obtain ⟨ha1, ha2⟩ := List.mem_filter.mp ha
  simp only [Bool.and_eq_true, decide_eq_true_eq] at ha2
  obtain ⟨r', hr', e⟩ := List.mem_map.mp ha2.1
  have lo := (al_refs (T.al r hr) a ha1).2.1
  exact List.mem_flatMap.mpr ⟨r', hr', List.mem_map.mpr ⟨_, places_iff.mpr ⟨by rw [atO_len (by omega)]; exact hp, ha2.2⟩, Prod.ext e rfl⟩⟩
/-- c is left at i -/
def isLeft (gs : List Giv) (rs : List Row) (fs : List (List Fp)) (sz : List Int) (i : Nat) (c : Cl) : Bool := (told gs rs fs sz i c).isNone
def leftL (gs : List Giv) (rs : List Row) (fs : List (List Fp)) (sz : List Int) (i : Nat) : List Cl := (cells rs sz).filter (isLeft gs rs fs sz i)
/-- c is ready at i -/
def isReady (gs : List Giv) (rs : List Row) (fs : List (List Fp)) (sz : List Int) (i : Nat) (c : Cl) : Bool := match rs.find? fun r => decide (r.name = c.1) with
  | some r => (needs rs sz r.e c.2).all fun d => (told gs rs fs sz i d).isSome
  | none => false
theorem ready_iff (nd : Nd gs rs) {r : Row} (hr : r ∈ rs) {i : Nat} {p : List Int} : isReady gs rs fs sz i (r.name, p) = true ↔ ∀ d ∈ needs rs sz r.e p, (told gs rs fs sz i d).isSome = true := by
  unfold isReady
  rw [row_find nd hr]
  simp only [List.all_eq_true]
theorem ready_told (T : Tell gs rs fs sz) {i : Nat} {c : Cl} (hc : c ∈ cells rs sz) : isReady gs rs fs sz i c = (told gs rs fs sz (i + 1) c).isSome := by
  obtain ⟨r, hr, p, hp, rfl⟩ := cells_mem hc
  rw [Bool.eq_iff_iff, ready_iff T.nd hr, told_row T.nd hr]
  constructor
  · intro h; rw [if_pos ⟨hp, h⟩]; rfl
  · intro h; split at h
    · rename_i hh; exact hh.2
    · cases h
theorem left_succ (T : Tell gs rs fs sz) (i : Nat) : leftL gs rs fs sz (i + 1) = (leftL gs rs fs sz i).filter fun c => !isReady gs rs fs sz i c := by
  unfold leftL
  rw [List.filter_filter]
  refine List.filter_congr fun c hc => ?_
  rw [ready_told T hc]
  unfold isLeft
  cases h : told gs rs fs sz i c with
  | some v => rw [told_mono T i c v h]; rfl
  | none => cases told gs rs fs sz (i + 1) c <;> rfl
theorem filter_split {α : Type} (p : α → Bool) (l : List α) : (l.filter p).length + (l.filter fun a => !p a).length = l.length := by
  induction l with
  | nil => rfl
  | cons a l ih => cases h : p a <;> simp [h] <;> omega
theorem stable_of (T : Tell gs rs fs sz) {i : Nat} (h : (leftL gs rs fs sz i).filter (isReady gs rs fs sz i) = []) : Stable gs rs fs sz i := by
  intro c
  by_cases hc : c ∈ cells rs sz
  case neg => rw [told_none hc, told_none hc]
  cases e : told gs rs fs sz i c with
  | some v => exact told_mono T i c v e
  | none =>
    have hl : c ∈ leftL gs rs fs sz i := List.mem_filter.mpr ⟨hc, by unfold isLeft; rw [e]; rfl⟩
    have := (List.filter_eq_nil_iff.mp h) c hl
    rw [ready_told T hc] at this
    cases e2 : told gs rs fs sz (i + 1) c with
    | none => rfl
    | some v => rw [e2] at this; exact absurd rfl this
end
theorem dput_len_le {kvs : List (PV × PV)} {k v : PV} : (dput kvs k v).length ≤ kvs.length + 1 := len_dput _ _ _
theorem c_told_cells {ov hd : PV} {gs : List Giv} {rs : List Row} {fs : List (List Fp)} {sz : List Int} (T : Tell gs rs fs sz) {k : Nat} (hk : 14 ≤ k) {h : PH} {Q : QV}
    (q : ∀ D kk h' i, h D = none → Kp [] h h' → h' D = some (.dic true none kk) → Stable gs rs fs sz i → (∀ x p, dget kk (cellP x p) = (told gs rs fs sz i (x, p)).map .int) → Q (.ref D) h') :
    (wC k)._law_told_cells [TP ov gs rs hd, tI sz, fsP fs] h Q := by
  obtain ⟨k, rfl⟩ : ∃ j, k = j + 1 := ⟨k - 1, by omega⟩
  show zFn _ _ (b__law_told_cells (wC k)) _ h Q
  unfold b__law_told_cells
  have fewg := T.few
  have hcl : (cells rs sz).length ≤ 100000 := by have := T.cells_len rs.length; rwa [List.take_length] at this
  dsimp! []
  refine ⟨true, fun kn nkn => ?_⟩
  refine ⟨by decide, rfl, fun w nw => ?_⟩
  have hkw : kn ≠ w := by rintro rfl; rw [up_same] at nw; cases nw
  have nwh : h w = none := by rw [up_ne hkw.symm] at nw; exact nw
  obtain ⟨kvs, ekvs⟩ : ∃ kvs, kvs = dputs [] [(PV.str [116, 97, 98, 108, 101], TP ov gs rs hd), (PV.str [115, 105, 122, 101, 115], tI sz), (PV.str [102, 105, 101, 108, 100, 115], fsP fs), (PV.str [107, 110, 111, 119, 110], PV.ref kn)] := ⟨_, rfl⟩
  have w1 : dget kvs (PV.str [116, 97, 98, 108, 101]) = some (TP ov gs rs hd) := by rw [ekvs]; rfl
  have w2 : dget kvs (PV.str [115, 105, 122, 101, 115]) = some (tI sz) := by rw [ekvs]; rfl
  have w3 : dget kvs (PV.str [102, 105, 101, 108, 100, 115]) = some (fsP fs) := by rw [ekvs]; rfl
  have w4 : dget kvs (PV.str [107, 110, 111, 119, 110]) = some (.ref kn) := by rw [ekvs]; rfl
  rw [← ekvs]
  clear ekvs
  have kz : ∀ z, keyOk false (.str z) = true := fun _ => rfl
  refine ⟨by decide, fun l0 nl0 => ?_⟩
  have k0 : Kp [] h (up (up (up h kn (.dic true none [])) w (.dic false none kvs)) l0 (.lst [])) := (((Kp.refl [] h).new nkn).new nw).new nl0
  have hk0 : kn ≠ l0 := by rintro rfl; rw [up_ne hkw, up_same] at nl0; cases nl0
  have hw0 : w ≠ l0 := by rintro rfl; rw [up_same] at nl0; cases nl0
  have b1 : up (up (up h kn (.dic true none [])) w (.dic false none kvs)) l0 (.lst []) kn = some (.dic true none []) := by rw [up_ne hk0, up_ne hkw, up_same]
  have b2 : up (up (up h kn (.dic true none [])) w (.dic false none kvs)) l0 (.lst []) w = some (.dic false none kvs) := by rw [up_ne hw0, up_same]
  have b3 : up (up (up h kn (.dic true none [])) w (.dic false none kvs)) l0 (.lst []) l0 = some (.lst []) := up_same
  generalize up (up (up h kn (.dic true none [])) w (.dic false none kvs)) l0 (.lst []) = h1 at k0 b1 b2 b3
  clear nl0 nw hk0 hw0
  -- the cells
  refine zSeq_key (fun ρ' h' => ∃ (l : Addr) (x5 x8 : Option PV), ρ' = [some (TP ov gs rs hd), some (tI sz), some (fsP fs), some (.ref w), some (.ref l), x5, none, none, x8, none, none, none, none, none] ∧ Kp [] h1 h' ∧ h' l = some (.lst ((cells rs sz).map clP))) ?_ fun X fx => ?_
  rotate_left
  · dsimp! []
    refine forW_V (ps := rs.map Row.P) (fun i ρ' h' => ∃ (l : Addr) (x5 x8 : Option PV), ρ' = [some (TP ov gs rs hd), some (tI sz), some (fsP fs), some (.ref w), some (.ref l), x5, none, none, x8, none, none, none, none, none] ∧ Kp [] h1 h' ∧ h' l = some (.lst (((rs.take i).flatMap fun r => (places sz).map fun p => ((r.name, p) : Cl)).map clP))) ⟨l0, none, none, rfl, Kp.refl _ _, b3⟩ ?_ ?_
    · rintro i _ h2 u eu ⟨l, x5, x8, rfl, k2, e2⟩
      rw [List.getElem?_map] at eu
      obtain ⟨r, er, rfl⟩ := Option.map_eq_some_iff.mp eu
      have mr := List.mem_of_getElem? er
      have bl := T.cells_len (i + 1)
      have stp : ((rs.take (i + 1)).flatMap fun r => (places sz).map fun p => ((r.name, p) : Cl)) = ((rs.take i).flatMap fun r => (places sz).map fun p => ((r.name, p) : Cl)) ++ (places sz).map fun p => ((r.name, p) : Cl) := by
        rw [List.take_add_one, er]; simp
      rw [stp] at bl ⊢
      generalize (rs.take i).flatMap (fun r => (places sz).map fun p => ((r.name, p) : Cl)) = acc at e2 bl
      rw [show r.P = .tup [.str r.name, .int r.rim, r.e.P] from rfl]
      dsimp! []
      refine c_places (by omega) (by have := T.sl.2; omega) T.sp (fun i => Nat.le_trans (T.pl i) (by decide)) fun d h3 nd3 k3 e3 => ?_
      dsimp! [e3]
      have lp : ((places sz).map tI).length ≤ sizeLine := by have := T.pl sz.length; rw [List.take_length] at this; rw [List.length_map, sizeLine_eq]; omega
      refine lcP_L (fun _ => true) (fun p => .tup [.str r.name, p]) lp e3 (fun p hp R acc r' => ?_) ?_
      · obtain ⟨p, _, rfl⟩ := List.mem_map.mp hp
        dsimp! []
        exact ⟨by decide, by simpa using r'⟩
      · intro D nD
        have ec : (((places sz).map tI).filter fun _ => true).map (fun p => PV.tup [.str r.name, p]) = ((places sz).map fun p => ((r.name, p) : Cl)).map clP := by
          rw [List.filter_eq_self.mpr (by simp), List.map_map, List.map_map]; rfl
        rw [ec]
        have e2' : h3 l = some (.lst (acc.map clP)) := k3 l _ (by simp) e2
        have hD : l ≠ D := by rintro rfl; rw [e2'] at nD; cases nD
        dsimp! [up_ne hD, e2']
        refine ⟨by rw [List.length_append] at bl; rw [List.length_map, List.length_map, sizeLine_eq]; omega, fun l' nl' => ?_⟩
        exact ⟨_, G.Sub.refl _, l', _, _, rfl, (((k2.trans k3).new nD).new nl'), by rw [up_same, List.map_append]⟩
    · rintro _ h2 ⟨l, x5, x8, rfl, k2, e2⟩
      rw [List.length_map, List.take_length] at e2
      exact fx _ _ ⟨l, x5, x8, rfl, k2, e2⟩
  rintro _ h2 ⟨l, x5, x8, rfl, k2, e2⟩
  have c1 : h2 kn = some (.dic true none []) := k2 _ _ (by simp) b1
  have c2 : h2 w = some (.dic false none kvs) := k2 _ _ (by simp) b2
  have kk2 : Kp [] h h2 := k0.trans k2
  clear b1 b2 b3 k0 k2 h1
  -- the needs
  dsimp! []
  refine ⟨true, fun nd0 nnd0 => ?_⟩
  have hnk : nd0 ≠ kn := by rintro rfl; rw [c1] at nnd0; cases nnd0
  have hnl : l ≠ nd0 := by rintro rfl; rw [e2] at nnd0; cases nnd0
  have hnw : w ≠ nd0 := by rintro rfl; rw [c2] at nnd0; cases nnd0
  have hlk : l ≠ kn := by rintro rfl; rw [e2] at c1; cases c1
  have hwk : w ≠ kn := by rintro rfl; rw [c2] at c1; cases c1
  have ndh : h nd0 = none := kp_fresh kk2 nnd0
  refine zSeq_key (fun ρ' h' => ∃ (nk : List (PV × PV)) (x7 x8 : Option PV), ρ' = [some (TP ov gs rs hd), some (tI sz), some (fsP fs), some (.ref w), some (.ref l), x5, some (.ref nd0), x7, x8, none, none, none, none, none] ∧ Kp [] h2 h' ∧ h' nd0 = some (.dic true none nk) ∧ NeedsAt rs sz nk (cells rs sz) h') ?_ fun X fx => ?_
  rotate_left
  · dsimp! [up_ne hnl, e2]
    refine forW_L (ps := (cells rs sz).map clP) (fun i ρ' h' => ∃ (nk : List (PV × PV)) (x7 x8 : Option PV), ρ' = [some (TP ov gs rs hd), some (tI sz), some (fsP fs), some (.ref w), some (.ref l), x5, some (.ref nd0), x7, x8, none, none, none, none, none] ∧ Kp [] h2 h' ∧ h' nd0 = some (.dic true none nk) ∧ nk.length ≤ i ∧ NeedsAt rs sz nk ((cells rs sz).take i) h')
      ⟨[], none, x8, rfl, (Kp.refl _ _).new nnd0, up_same, Nat.le_refl _, fun r _ p hp => by simp at hp⟩ (fun i _ h' _ ⟨_, _, _, _, kx, _⟩ => kx _ _ (by simp) e2) ?_ ?_
    · rintro i _ h3 u eu ⟨nk, x7, x8, rfl, k3, e3, ln, na⟩
      rw [List.getElem?_map] at eu
      obtain ⟨c, ec, rfl⟩ := Option.map_eq_some_iff.mp eu
      obtain ⟨r, hr, p, hp, rfl⟩ := cells_mem (List.mem_of_getElem? ec)
      have hi : i < (cells rs sz).length := (List.getElem?_eq_some_iff.mp ec).1
      dsimp! []
      refine c_needs_of T.nd (by omega) T.okr (by have := T.sl.2; omega) hr (T.dep r hr) (fun a ha => ⟨(al_refs (T.al r hr) a ha).2.1, (al_refs (T.al r hr) a ha).1⟩) (places_iff.mp hp).1 (by omega) fun d ns h4 nd4 k4 e4 spec lns => ?_
      have e3' : h4 nd0 = some (.dic true none nk) := k4 _ _ (by simp) e3
      have hd0 : d ≠ nd0 := by rintro rfl; rw [e4] at e3'; cases e3'
      dsimp! [e3', key_cell]
      refine ⟨by decide, by rw [sizeLine_eq]; omega, _, G.Sub.refl _, dput nk (clP (r.name, p)) (.ref d), _, _, rfl, (k3.trans k4).put0 nnd0, up_same, Nat.le_trans dput_len_le (by omega), ?_⟩
      intro r' hr' p' hp'
      rw [List.take_add_one, ec] at hp'
      rw [dget_dput]
      by_cases e : clP (r'.name, p') = clP (r.name, p)
      · have e' := clP_inj e
        simp only [Prod.mk.injEq] at e'
        have := row_one T.nd hr hr' e'.1
        subst this
        obtain ⟨_, rfl⟩ := e'
        exact ⟨d, ns, by rw [if_pos rfl], by rw [up_ne hd0]; exact e4, spec, lns⟩
      · rw [if_neg e]
        rcases List.mem_append.mp hp' with hp' | hp'
        · obtain ⟨a, ns', a1, a2, a3⟩ := na r' hr' p' hp'
          have a2' : h4 a = some (.lst (ns'.map clP)) := k4 _ _ (by simp) a2
          have ha0 : a ≠ nd0 := by rintro rfl; rw [a2'] at e3'; cases e3'
          exact ⟨a, ns', a1, by rw [up_ne ha0]; exact a2', a3⟩
        · simp at hp'
          exact absurd (by rw [hp'.1, hp'.2]) e
    · rintro _ h3 ⟨nk, x7, x8, rfl, k3, e3, ln, na⟩
      rw [List.length_map, List.take_length] at na
      exact fx _ _ ⟨nk, x7, x8, rfl, k3, e3, na⟩
  rintro _ h3 ⟨nk, x7, x8, rfl, k3, e3, na⟩
  have d1 : h3 kn = some (.dic true none []) := k3 _ _ (by simp) c1
  have d2 : h3 w = some (.dic false none kvs) := k3 _ _ (by simp) c2
  have d3 : h3 l = some (.lst ((cells rs sz).map clP)) := k3 _ _ (by simp) e2
  have kk3 : Kp [] h h3 := kk2.trans k3
  dsimp! [d2, kz, w4]
  -- the rounds
  have l0 : leftL gs rs fs sz 0 = cells rs sz := by
    unfold leftL
    exact List.filter_eq_self.mpr fun c _ => rfl
  have kn0 : ∀ x p, dget [] (cellP x p) = (told gs rs fs sz 0 (x, p)).map .int := fun x p => rfl
  refine zSeq_key (fun ρ' h' => ∃ (kk : List (PV × PV)) (i : Nat) (x4 x7 x8 x10 x11 : Option PV), ρ' = [some (TP ov gs rs hd), some (tI sz), some (fsP fs), some (.ref w), x4, x5, some (.ref nd0), x7, x8, some (.ref kn), x10, x11, none, none] ∧ Kp [kn] h3 h' ∧ h' kn = some (.dic true none kk) ∧ Stable gs rs fs sz i ∧ ∀ x p, dget kk (cellP x p) = (told gs rs fs sz i (x, p)).map .int) ?_ fun X fx => ?_
  · rintro _ h4 ⟨kk, i, x4, x7, x8, x10, x11, rfl, k4, e4, st, sp⟩
    dsimp! []
    refine ⟨h4, G.Sub.refl _, q kn kk h4 i nkn (fun b o _ e => ?_) e4 st sp⟩
    have hb : b ≠ kn := by rintro rfl; rw [nkn] at e; cases e
    exact k4 b o (by simpa using hb) (kk3 b o (by simp) e)
  dsimp! [d3]
  refine ⟨by rw [List.length_map]; omega, by rw [List.length_map]; omega, ?_⟩
  refine forW_R (fun i ρ' h' => ∃ (kk : List (PV × PV)) (l : Addr) (x7 x8 x10 x11 : Option PV), ρ' = [some (TP ov gs rs hd), some (tI sz), some (fsP fs), some (.ref w), some (.ref l), x5, some (.ref nd0), x7, x8, some (.ref kn), x10, x11, none, none] ∧ Kp [kn] h3 h' ∧ h' kn = some (.dic true none kk) ∧ (∀ x p, dget kk (cellP x p) = (told gs rs fs sz i (x, p)).map .int) ∧
    h' l = some (.lst ((leftL gs rs fs sz i).map clP)) ∧ kk.length + (leftL gs rs fs sz i).length ≤ (cells rs sz).length ∧ (leftL gs rs fs sz i).length + i ≤ (cells rs sz).length) ⟨[], l, x7, x8, none, none, rfl, Kp.refl _ _, d1, kn0, by rw [l0]; exact d3, by rw [l0]; simp, by rw [l0]; simp⟩ ?_ ?_
  · rintro i _ h4 hi ⟨kk, l, x7, x8, x10, x11, rfl, k4, f1, f2, f3, f4, f5⟩
    have hlk : l ≠ kn := by rintro rfl; rw [f3] at f1; cases f1
    have okl : ∀ c ∈ leftL gs rs fs sz i, c ∈ cells rs sz := fun c hc => (List.mem_filter.mp hc).1
    dsimp! [f3]
    have has : ∀ d : Cl, (dget kk (clP d)).isSome = (told gs rs fs sz i d).isSome := fun d => by
      have := f2 d.1 d.2
      rw [show clP d = cellP d.1 d.2 from rfl, this]; simp
    refine lcW_L (ps := (leftL gs rs fs sz i).map clP) (by rw [sizeLine_eq, List.length_map]; omega) (fun j acc h' => Kp [] h4 h' ∧ acc = (((leftL gs rs fs sz i).take j).filter (isReady gs rs fs sz i)).map clP) ⟨Kp.refl _ _, rfl⟩ (fun j acc h' e => by rw [e.2, List.length_map]; exact Nat.le_trans (List.length_filter_le _ _) (List.length_take_le _ _)) (fun j acc h' _ e => e.1 _ _ (by simp) f3) ?_ ?_
    · rintro j _ h5 u eu ⟨k5, rfl⟩
      rw [List.getElem?_map] at eu
      obtain ⟨c, ec, rfl⟩ := Option.map_eq_some_iff.mp eu
      have mc := List.mem_of_getElem? ec
      obtain ⟨r, hr, p, hp, rfl⟩ := cells_mem (okl c mc)
      obtain ⟨a, ns, a1, a2, a3, a4⟩ := na r hr p (okl _ mc)
      have hak : a ≠ kn := by rintro rfl; rw [a2] at d1; cases d1
      have e3' : h5 nd0 = some (.dic true none nk) := k5 _ _ (by simp) (k4 _ _ (by simpa using hnk) e3)
      have a2' : h5 a = some (.lst (ns.map clP)) := k5 _ _ (by simp) (k4 _ _ (by simpa using hak) a2)
      have f1' : h5 kn = some (.dic true none kk) := k5 _ _ (by simp) f1
      have okn : ∀ d ∈ ns, d ∈ cells rs sz := fun d hd => needs_cells T hr (places_iff.mp hp).1 ((a3 d).mp hd)
      dsimp! [e3', key_cell, a1, a2']
      refine lcP_L (fun _ => true) (fun p => .bl (dget kk p).isSome) (by rw [sizeLine_eq, List.length_map]; omega) a2' (fun p hp R acc r => ?_) ?_
      · obtain ⟨d, hd, rfl⟩ := List.mem_map.mp hp
        rw [if_pos rfl] at r
        dsimp! [f1', key_cell]
        exact r
      · intro D nD
        have eb : ((ns.map clP).filter fun _ => true).map (fun p => PV.bl (dget kk p).isSome) = ns.map fun d => .bl (told gs rs fs sz i d).isSome := by
          rw [List.filter_eq_self.mpr (by simp), List.map_map]
          exact List.map_congr_left fun d _ => by rw [← has d]; rfl
        rw [eb]
        have eall : (ns.map fun d => (told gs rs fs sz i d).isSome).all id = isReady gs rs fs sz i (r.name, p) := by
          rw [Bool.eq_iff_iff, ready_iff T.nd hr, List.all_map, List.all_eq_true]
          exact ⟨fun h d hd => h d ((a3 d).mpr hd), fun h d hd => h d ((a3 d).mp hd)⟩
        dsimp! [bls_map, eall]
        rw [List.take_add_one, ec]
        simp only [Option.toList_some, List.filter_append, List.map_append]
        by_cases hb : isReady gs rs fs sz i (r.name, p) = true
        · dsimp! [hb]
          exact ⟨_, G.Sub.refl _, k5.new nD, by rw [List.filter_cons_of_pos hb]; rfl⟩
        · dsimp! [hb]
          exact ⟨_, G.Sub.refl _, k5.new nD, by rw [List.filter_cons_of_neg hb]; simp⟩
    · rintro _ h5 ⟨k5, rfl⟩ R nR
      rw [List.length_map, List.take_length]
      have okR : ∀ c ∈ (leftL gs rs fs sz i).filter (isReady gs rs fs sz i), c ∈ leftL gs rs fs sz i ∧ isReady gs rs fs sz i c = true := fun c hc => List.mem_filter.mp hc
      have spl := filter_split (isReady gs rs fs sz i) (leftL gs rs fs sz i)
      rw [← left_succ T] at spl
      have stab := stable_of T (i := i)
      have tol : ∀ c ∈ leftL gs rs fs sz i, c ∉ (leftL gs rs fs sz i).filter (isReady gs rs fs sz i) → told gs rs fs sz (i + 1) c = none := fun c hc hn => by
        have hr : ¬ isReady gs rs fs sz i c = true := fun z => hn (List.mem_filter.mpr ⟨hc, z⟩)
        rw [ready_told T (okl c hc)] at hr
        cases e : told gs rs fs sz (i + 1) c with
        | none => rfl
        | some v => rw [e] at hr; exact absurd rfl hr
      have f1' : up h5 R (.lst (((leftL gs rs fs sz i).filter (isReady gs rs fs sz i)).map clP)) kn = some (.dic true none kk) := keep_new nR _ _ (k5 _ _ (by simp) f1)
      have f3' : up h5 R (.lst (((leftL gs rs fs sz i).filter (isReady gs rs fs sz i)).map clP)) l = some (.lst ((leftL gs rs fs sz i).map clP)) := keep_new nR _ _ (k5 _ _ (by simp) f3)
      have fR : up h5 R (.lst (((leftL gs rs fs sz i).filter (isReady gs rs fs sz i)).map clP)) R = some (.lst (((leftL gs rs fs sz i).filter (isReady gs rs fs sz i)).map clP)) := up_same
      have k6 : Kp [kn] h3 (up h5 R (.lst (((leftL gs rs fs sz i).filter (isReady gs rs fs sz i)).map clP))) := (k4.trans (fun b o _ e => k5 b o (by simp) e)).new nR
      generalize up h5 R (.lst (((leftL gs rs fs sz i).filter (isReady gs rs fs sz i)).map clP)) = h6 at f1' f3' fR k6
      generalize (leftL gs rs fs sz i).filter (isReady gs rs fs sz i) = Rl at okR spl stab tol fR
      clear f1 f3 k4 k5 nR h4 h5
      rw [zSeq_x]
      have hRk : R ≠ kn := by rintro rfl; rw [fR] at f1'; cases f1'
      dsimp! []
      refine ⟨by decide, fun e ne => ?_⟩
      have hRe : R ≠ e := by rintro rfl; rw [fR] at ne; cases ne
      have dR := cl_dat fun c hc => T.okc (okl c (okR c hc).1)
      dsimp! [up_ne hRe, fR]
      refine ⟨dR.1, rfl, by have := dR.2; omega, by decide, ?_⟩
      by_cases h0 : Rl = []
      · dsimp! [h0, List.map_nil]
        exact fx _ _ ⟨kk, i, _, _, _, _, _, rfl, k6.new ne, keep_new ne _ _ f1', stab h0, f2⟩
      dsimp! [show (Rl.map clP = []) ↔ False from ⟨fun z => h0 (List.map_eq_nil_iff.mp z), False.elim⟩]
      have g1 := keep_new (x := .lst []) ne _ _ f1'
      have g3 := keep_new (x := .lst []) ne _ _ f3'
      have gR := keep_new (x := .lst []) ne _ _ fR
      have k7 := k6.new (o := .lst []) ne
      generalize up h6 e (.lst []) = h7 at g1 g3 gR k7
      clear f1' f3' fR k6 ne hRe h6 e
      have pos : 1 ≤ Rl.length := by
        cases Rl with
        | nil => exact absurd rfl h0
        | cons _ _ => simp
      rw [zSeq_x]
      dsimp! [gR]
      refine forW_L (ps := Rl.map clP) (fun t ρ' h' => ∃ (kk' : List (PV × PV)) (x7 x8 : Option PV), ρ' = [some (TP ov gs rs hd), some (tI sz), some (fsP fs), some (.ref w), some (.ref l), x5, some (.ref nd0), x7, x8, some (.ref kn), some (.int ((0 : Int) + (i : Nat))), some (.ref R), none, none] ∧ Kp [kn] h7 h' ∧ h' kn = some (.dic true none kk') ∧ kk'.length ≤ kk.length + t ∧
        ∀ x p, dget kk' (cellP x p) = (if (x, p) ∈ Rl.take t then told gs rs fs sz (i + 1) (x, p) else told gs rs fs sz i (x, p)).map .int) ⟨kk, x7, x8, rfl, Kp.refl _ _, g1, by omega, fun x p => by simpa using f2 x p⟩ (fun t _ h' _ ⟨_, _, _, _, kx, _⟩ => kx _ _ (by simpa using hRk) gR) ?_ ?_
      · rintro t _ h8 u eu ⟨kk', x7, x8, rfl, k8, e8, l8, s8⟩
        rw [List.getElem?_map] at eu
        obtain ⟨c, ec, rfl⟩ := Option.map_eq_some_iff.mp eu
        obtain ⟨cl, cr⟩ := okR c (List.mem_of_getElem? ec)
        have ht : t < Rl.length := (List.getElem?_eq_some_iff.mp ec).1
        obtain ⟨r, hr, p, hp, rfl⟩ := cells_mem (okl c cl)
        have nds := (ready_iff T.nd hr).mp cr
        have hpl := (places_iff.mp hp).1
        have tv : told gs rs fs sz (i + 1) (r.name, p) = some (r.e.worth (lookV gs rs sz fs fun x q => told gs rs fs sz i (x, q)) p) := by
          rw [told_row T.nd hr, if_pos ⟨hp, nds⟩]
        have k8' : Kp [kn] h3 h8 := k7.trans k8
        have ew : h8 w = some (.dic false none kvs) := k8' _ _ (by simpa using hwk) d2
        have knd : ∀ a ∈ r.e.refs, a.1 ∈ rs.map Row.name → inB sz (atO p a.2) = true → (told gs rs fs sz i (a.1, atO p a.2)).isSome = true := fun a ha h1 h2 =>
          nds _ (List.mem_map.mpr ⟨a, List.mem_filter.mpr ⟨ha, by simp only [Bool.and_eq_true, decide_eq_true_eq]; exact ⟨h1, h2⟩⟩, rfl⟩)
        have kvt : ∀ a ∈ r.e.refs, inB sz (atO p a.2) = true → (if (a.1, atO p a.2) ∈ Rl.take t then told gs rs fs sz (i + 1) (a.1, atO p a.2) else told gs rs fs sz i (a.1, atO p a.2)) = told gs rs fs sz i (a.1, atO p a.2) := fun a ha hb => by
          split
          · rcases (al_refs (T.al r hr) a ha).2.2 with hg | hg
            · rw [told_given T.nd hg, told_given T.nd hg]
            · obtain ⟨v, hv⟩ := Option.isSome_iff_exists.mp (knd a ha hg hb)
              rw [hv, told_mono T i _ v hv]
          · rfl
        dsimp! []
        refine c_row_named (x := r.name) (r := [.int r.rim, r.e.P]) (by omega) T.nd (by omega) (List.mem_append_right _ (List.mem_map.mpr ⟨r, hr, rfl⟩)) rfl ?_
        rw [show r.P = .tup [.str r.name, .int r.rim, r.e.P] from rfl]
        dsimp! []
        refine c_worth_at (kn := fun x q => if (x, q) ∈ Rl.take t then told gs rs fs sz (i + 1) (x, q) else told gs rs fs sz i (x, q)) T.nd (by omega) T.fl (by have := T.sl.2; omega) hpl s8 9 r.e (T.dep r hr) (al_of (T.al r hr) fun a ha f => ⟨f.2.1, f.2.2.imp_right fun hg => ⟨hg, fun hb => ?_⟩⟩) (T.ct r hr) (by omega) ⟨⟨kvs, ew, w1, w2, w3, w4⟩, e8⟩ ?_
        · show (if (a.1, atO p a.2) ∈ Rl.take t then told gs rs fs sz (i + 1) (a.1, atO p a.2) else told gs rs fs sz i (a.1, atO p a.2)).isSome = true
          rw [kvt a ha hb]
          exact knd a ha hg hb
        have ev : r.e.worth (lookV gs rs sz fs fun x q => if (x, q) ∈ Rl.take t then told gs rs fs sz (i + 1) (x, q) else told gs rs fs sz i (x, q)) p = r.e.worth (lookV gs rs sz fs fun x q => told gs rs fs sz i (x, q)) p := by
          refine worth_congr fun a ha => ?_
          unfold lookV
          cases hb : inB sz (atO p a.2) with
          | false => rfl
          | true => simp only [if_true]; rw [kvt a ha hb]
        rw [ev]
        dsimp! [e8, key_cell]
        refine ⟨by decide, by rw [sizeLine_eq]; omega, _, G.Sub.refl _, _, _, _, rfl, k8.put (by simp), up_same, Nat.le_trans dput_len_le (by omega), fun x p' => ?_⟩
        rw [dget_dput, List.take_add_one, ec]
        simp only [Option.toList_some, List.mem_append, List.mem_singleton]
        by_cases e : (x, p') = (r.name, p)
        · rw [if_pos (by rw [show cellP x p' = clP (x, p') from rfl, e]), if_pos (.inr e), e, tv]; rfl
        · rw [if_neg fun z => e (clP_inj (a := (x, p')) (b := (r.name, p)) z), s8]
          congr 1
          by_cases e2 : (x, p') ∈ Rl.take t
          · rw [if_pos e2, if_pos (.inl e2)]
          · rw [if_neg e2, if_neg fun z => z.elim e2 e]
      · rintro _ h8 ⟨kk', x7, x8, rfl, k8, e8, l8, s8⟩
        rw [List.length_map] at l8
        rw [List.length_map, List.take_length] at s8
        have s9 : ∀ x p, dget kk' (cellP x p) = (told gs rs fs sz (i + 1) (x, p)).map .int := fun x p => by
          rw [s8 x p]
          split
          · rfl
          · rename_i hn
            cases e : told gs rs fs sz i (x, p) with
            | some v => rw [told_mono T i _ v e]
            | none =>
              by_cases hc : (x, p) ∈ cells rs sz
              · rw [tol _ (List.mem_filter.mpr ⟨hc, by unfold isLeft; rw [e]; rfl⟩) hn]
              · rw [told_none hc]
        have g3' : h8 l = some (.lst ((leftL gs rs fs sz i).map clP)) := k8 _ _ (by simpa using hlk) g3
        dsimp! [g3']
        have ltl : ∀ c ∈ leftL gs rs fs sz i, (dget kk' (clP c)).isSome = isReady gs rs fs sz i c := fun c hc => by
          rw [ready_told T (okl c hc), show clP c = cellP c.1 c.2 from rfl, s9]; simp
        refine lcP_L (fun p => !(dget kk' p).isSome) (fun p => p) (by rw [sizeLine_eq, List.length_map]; omega) g3' (fun p hp R acc r => ?_) ?_
        · obtain ⟨c, hc, rfl⟩ := List.mem_map.mp hp
          dsimp! [e8, key_cell]
          exact r
        · intro D nD
          have el : ((((leftL gs rs fs sz i).map clP).filter fun p => !(dget kk' p).isSome).map fun p => p) = (leftL gs rs fs sz (i + 1)).map clP := by
            rw [show (fun p : PV => p) = id from rfl, List.map_id, List.filter_map, left_succ T]
            congr 1
            refine List.filter_congr fun c hc => ?_
            show (!(dget kk' (clP c)).isSome) = _
            rw [ltl c hc]
          rw [el]
          exact ⟨_, G.Sub.refl _, kk', D, _, _, _, _, rfl, (k7.trans k8).new nD, keep_new nD _ _ e8, s9, up_same, by omega, by omega⟩
  · rintro _ h4 ⟨kk, l, x7, x8, x10, x11, rfl, k4, f1, f2, f3, f4, f5⟩
    exfalso
    rw [List.length_map] at f5
    omega

def zExtO (l : Addr) (ys : List PV) : Option PO → PH → QV → Prop
  | some (.lst xs), h, Q => xs.length + ys.length ≤ sizeLine ∧ Q .non (up h l (.lst (xs ++ ys)))
  | _, _, _ => False
def zExtP (l : Addr) : Option PO → Option PO → PH → QV → Prop
  | some (.lst xs), some (.lst ys), h, Q => xs.length + ys.length ≤ sizeLine ∧ Q .non (up h l (.lst (xs ++ ys)))
  | _, _, _, _ => False
theorem zExt_t {l : Addr} {ys : List PV} {h : PH} {Q : QV} : zExtend (.ref l) [.tup ys] h Q = zExtO l ys (h l) h Q := by
  simp only [zExtend]
  cases h l with
  | none => rfl
  | some o => cases o <;> rfl
theorem zExt_r {l b : Addr} {h : PH} {Q : QV} : zExtend (.ref l) [.ref b] h Q = zExtP l (h l) (h b) h Q := by
  simp only [zExtend]
  cases h l with
  | none => rfl
  | some o => cases o <;> cases h b <;> first | rfl | (rename_i p; cases p <;> rfl)
theorem zExtO_l {l : Addr} {xs ys : List PV} {h : PH} {Q : QV} : zExtO l ys (some (.lst xs)) h Q = (xs.length + ys.length ≤ sizeLine ∧ Q .non (up h l (.lst (xs ++ ys)))) := rfl
theorem zExtP_l {l : Addr} {xs ys : List PV} {h : PH} {Q : QV} : zExtP l (some (.lst xs)) (some (.lst ys)) h Q = (xs.length + ys.length ≤ sizeLine ∧ Q .non (up h l (.lst (xs ++ ys)))) := rfl

theorem c_references_in : ∀ (n : Nat) (e : Ex), e.dep ≤ n → n ≤ 9 → ∀ {k : Nat}, n + 1 ≤ k → ∀ {h : PH} {Q : QV}, (∀ p, h p = none → Q (.ref p) (up h p (.lst (e.refs.map refP)))) → (wC k).references_in [e.P] h Q := by
  intro n
  induction n with
  | zero => exact fun e he h9 {k} hk {h Q} q => body 0 (fun c hc => absurd hc (by omega)) e he h9 hk q
  | succ n ih => exact fun e he h9 {k} hk {h Q} q => body (n + 1) (fun c hc => by
      intro k' hk' h' Q' q'
      exact ih c (by omega) (by omega) (by omega) q') e he h9 hk q
where
  body (n : Nat) (ih : ∀ c : Ex, c.dep + 1 ≤ n → ∀ {k : Nat}, n ≤ k → ∀ {h : PH} {Q : QV}, (∀ p, h p = none → Q (.ref p) (up h p (.lst (c.refs.map refP)))) → (wC k).references_in [c.P] h Q) (e : Ex) (he : e.dep ≤ n) (h9 : n ≤ 9) {k : Nat} (hk : n + 1 ≤ k) {h : PH} {Q : QV}
      (q : ∀ p, h p = none → Q (.ref p) (up h p (.lst (e.refs.map refP)))) : (wC k).references_in [e.P] h Q := by
    obtain ⟨k, rfl⟩ : ∃ j, k = j + 1 := ⟨k - 1, by omega⟩
    show zFn _ _ (b_references_in (wC k)) _ h Q
    unfold b_references_in
    cases hc : e.isCell with
    | true =>
      cases e <;> first | (cases hc; done) | skip
      rename_i x os
      show zFn _ _ _ [refP (x, os)] h Q
      unfold refP
      dsimp! []
      rw [zSeq_x]; dsimp! []
      exact ⟨by decide, fun p np => ⟨_, G.Sub.refl _, q p np⟩⟩
    | false =>
      rw [Ex.P_kids hc]
      dsimp! []
      rw [zSeq_x]; dsimp! [hd_cell hc]
      refine ⟨by decide, fun p0 np0 => ?_⟩
      rw [zSeq_x]
      dsimp! [cut_from (show (0 : Int) ≤ 1 by omega), show (1 : Int).toNat = 1 from rfl, List.drop_succ_cons, List.drop_zero]
      refine forW_V (fun i ρ' h' => ∃ (x : Option PV), ρ' = [some (.tup (.str e.hd :: e.kids.map Kid.P)), some (.ref p0), x] ∧ Kp [] h h' ∧ h' p0 = some (.lst (((e.kids.take i).flatMap Kid.refs).map refP))) ⟨none, rfl, kp_new np0, up_same⟩ ?_ ?_
      · rintro i _ h1 p ep ⟨x, rfl, k1, e1⟩
        rw [List.getElem?_map] at ep
        obtain ⟨c, ec, rfl⟩ := Option.map_eq_some_iff.mp ep
        cases c with
        | val v =>
          have fin : ∃ h2, G.Sub h2 h1 ∧ ∃ (x : Option PV), [some (PV.tup (.str e.hd :: e.kids.map Kid.P)), some (.ref p0), some v] = [some (.tup (.str e.hd :: e.kids.map Kid.P)), some (.ref p0), x] ∧ Kp [] h h2 ∧ h2 p0 = some (.lst (((e.kids.take (i + 1)).flatMap Kid.refs).map refP)) :=
            ⟨h1, G.Sub.refl _, some v, rfl, k1, by rw [flat_take ec]; simpa [Kid.refs] using e1⟩
          rcases kid_val (List.mem_of_getElem? ec) with ⟨m, rfl⟩ | ⟨m, rfl⟩
          · simp only [Kid.P]
            dsimp! [show decide (Ty.tuple = Ty.int) = false from rfl]
            exact fin
          · simp only [Kid.P]
            dsimp! [show decide (Ty.tuple = Ty.str) = false from rfl]
            exact fin
        | ex c =>
          obtain ⟨r, er⟩ := Ex.P_tup c
          simp only [Kid.P]
          have hcall : (wC k).references_in [c.P] h1 (fun q h2 => zExtend (.ref p0) [q] h2 fun _ h1 => ∃ h2, G.Sub h2 h1 ∧ ∃ (x : Option PV), [some (PV.tup (.str e.hd :: e.kids.map Kid.P)), some (.ref p0), some c.P] = [some (.tup (.str e.hd :: e.kids.map Kid.P)), some (.ref p0), x] ∧ Kp [] h h2 ∧ h2 p0 = some (.lst (((e.kids.take (i + 1)).flatMap Kid.refs).map refP))) := by
            refine ih c (by have := kid_dep (List.mem_of_getElem? ec); omega) (by omega) fun p2 n2 => ?_
            have ne : p0 ≠ p2 := by rintro rfl; rw [e1] at n2; cases n2
            rw [zExt_r, up_ne ne, e1, up_same, zExtP_l]
            refine ⟨?_, _, G.Sub.refl _, some c.P, rfl, (k1.new n2).put0 np0, ?_⟩
            · have b1 := flat_le i hc
              have b2 := refs_len e
              have b3 := pow9 (show e.dep ≤ 9 by omega)
              have b4 := refs_len c
              have b5 := pow9 (show c.dep ≤ 9 by have := kid_dep (List.mem_of_getElem? ec); omega)
              rw [sizeLine_eq, List.length_map, List.length_map]; omega
            · rw [up_same, flat_take ec, List.map_append]; rfl
          rw [er] at hcall ⊢
          dsimp! [show decide (Ty.tuple = Ty.tuple) = true from rfl, e1]
          exact hcall
      · rintro _ h1 ⟨x, rfl, k1, e1⟩
        rw [List.length_map, List.take_length, ← refs_kids hc] at e1
        dsimp! []
        exact new_out k1 np0 e1 (q p0 np0)

theorem zEq_dat {p q : PV} {h : PH} {Q : QV} (h1 : dat p = true) (h2 : dat q = true) (d1 : p.dp ≤ 63) (d2 : q.dp ≤ 63) : zEq p q h Q = Q (.bl (decide (p = q))) h := by
  have p1 := dat_pl p h1
  have p2 := dat_pl q h2
  cases p with
  | int a =>
    cases q with
    | int b => simp [zEq_int]
    | str b => simp [zEq, PV.flat, PV.v, scal]
    | tup b =>
      rw [zEq_it]
      simp only [PV.pl] at p2
      simp only [PV.dp] at d2
      simp only [PV.pl, p2, true_and, eq_iff_iff]
      exact ⟨fun z => z.2, fun z => ⟨by omega, z⟩⟩
    | _ => simp [dat] at h2
  | str a =>
    cases q with
    | int b => simp [zEq, PV.flat, PV.v, scal]
    | str b => simp [zEq_str]
    | tup b =>
      show ((PV.str a).pl = true ∧ PV.pls b = true ∧ PV.dps b ≤ 63 ∧ Q (.bl (decide (PV.str a = .tup b))) h) = _
      simp only [PV.pl] at p2
      simp only [PV.dp] at d2
      simp only [p1, p2, true_and, eq_iff_iff]
      exact ⟨fun z => z.2, fun z => ⟨by omega, z⟩⟩
    | _ => simp [dat] at h2
  | tup a =>
    simp only [PV.dp] at d1
    have p1' : PV.pls a = true := by simpa [PV.pl] using p1
    have : zEq (.tup a) q h Q = (PV.pls a = true ∧ q.pl = true ∧ PV.dps a ≤ 63 ∧ q.dp ≤ 64 ∧ Q (.bl (decide (PV.tup a = q))) h) := by cases q <;> rfl
    rw [this]
    simp only [p1', p2, true_and, eq_iff_iff]
    exact ⟨fun z => z.2.2, fun z => ⟨by omega, by omega, z⟩⟩
  | _ => simp [dat] at h1

/-! ### rules that are the same -/
structure RowOk (r : Row) : Prop where
  nm : okS r.name = true
  wf : r.e.wf
  dep : r.e.dep ≤ 9
theorem RowOk.dat {r : Row} (h : RowOk r) : K78.dat r.P = true ∧ r.P.dp ≤ 12 := by
  have h1 := okS_dat h.nm
  have h2 := Ex.dat h.wf
  have h3 := Ex.dp r.e
  have h4 := h.dep
  refine ⟨?_, by simp only [Row.P, PV.dp, PV.dps]; omega⟩
  simp only [Row.P, K78.dat, K78.dats, h2, List.length_cons, List.length_nil, Bool.and_true, Bool.and_eq_true, decide_eq_true_eq] at h1 ⊢
  exact ⟨by decide, h1⟩
def sameL (rs rs' : List Row) : List Row := rs.filter fun r => decide (r.P ∈ rs'.map Row.P)
/-- the dict of what is left -/
structure LD (L : List Row) (kvs : List (PV × PV)) (h' : PH) : Prop where
  keys : kvs.map Prod.fst = L.map fun r => .str r.name
  at_ : ∀ r ∈ L, ∃ a, dget kvs (.str r.name) = some (.ref a) ∧ h' a = some (.lst (r.e.refs.map fun x => .str x.1))
theorem LD.kp {L : List Row} {kvs : List (PV × PV)} {h h' : PH} (l : LD L kvs h) (k : Kp [] h h') : LD L kvs h' := ⟨l.keys, fun r hr => by
  obtain ⟨a, a1, a2⟩ := l.at_ r hr
  exact ⟨a, a1, k _ _ (by simp) a2⟩⟩
theorem LD.len {L : List Row} {kvs : List (PV × PV)} {h : PH} (l : LD L kvs h) : kvs.length = L.length := by
  have := congrArg List.length l.keys
  simpa using this
theorem str_inj_map {l : List Row} {r : Row} : PV.str r.name ∈ (l.map fun r => PV.str r.name) ↔ r.name ∈ l.map Row.name := by
  rw [List.mem_map, List.mem_map]
  exact ⟨fun ⟨s, hs, e⟩ => ⟨s, hs, by simpa using e⟩, fun ⟨s, hs, e⟩ => ⟨s, hs, by rw [e]⟩⟩
theorem c_same_rules {ov hd ov' hd' : PV} {gs gs' : List Giv} {rs rs' : List Row} (nd : (rs.map Row.name).Nodup) (nd' : (rs'.map Row.name).Nodup) (l1 : rs.length ≤ 1000) (l2 : rs'.length ≤ 1000) (ok : ∀ r ∈ rs, RowOk r) (ok' : ∀ r ∈ rs', RowOk r) {k : Nat} (hk : 12 ≤ k) {h : PH} {Q : QV}
    (q : ∀ D kvs h', h D = none → Kp [] h h' → h' D = some (.dic false none kvs) → LD (sameL rs rs') kvs h' → Q (.ref D) h') : (wC k).same_rules [TP ov gs rs hd, TP ov' gs' rs' hd'] h Q := by
  obtain ⟨k, rfl⟩ : ∃ j, k = j + 1 := ⟨k - 1, by omega⟩
  show zFn _ _ (b_same_rules (wC k)) _ h Q
  unfold b_same_rules
  dsimp! [zDc_x]
  refine dcW_V (ps := rs'.map Row.P) (by rw [sizeLine_eq, List.length_map]; omega) (fun i acc h' => h = h' ∧ acc = (rs'.take i).map fun r => (PV.str r.name, r.P)) ⟨rfl, rfl⟩ (fun i acc h' e => by rw [e.2, List.length_map]; exact List.length_take_le _ _) ?_ ?_
  · rintro i _ _ u eu ⟨rfl, rfl⟩
    rw [List.getElem?_map] at eu
    obtain ⟨r, er, rfl⟩ := Option.map_eq_some_iff.mp eu
    rw [show r.P = .tup [.str r.name, .int r.rim, r.e.P] from rfl]
    dsimp! []
    refine ⟨rfl, h, G.Sub.refl _, rfl, ?_⟩
    rw [dput_new, List.take_add_one, er]
    · simp [Row.P]
    · rw [List.map_map]
      intro hm
      obtain ⟨s, hs, e⟩ := List.mem_map.mp hm
      simp only [Function.comp_apply, PV.str.injEq] at e
      obtain ⟨j, hj, ej⟩ := List.getElem_of_mem hs
      rw [List.length_take] at hj
      rw [List.getElem_take] at ej
      have hi := (List.getElem?_eq_some_iff.mp er).1
      rw [List.nodup_iff_pairwise_ne, List.pairwise_iff_getElem] at nd'
      refine nd' j i (by simp; omega) (by simpa using hi) (by omega) ?_
      rw [List.getElem_map, List.getElem_map, ej, e, (List.getElem?_eq_some_iff.mp er).2]
  rintro _ _ ⟨rfl, rfl⟩ d0 n0
  rw [List.length_map, List.take_length]
  dsimp! []
  refine ⟨false, fun d1 n1 => ?_⟩
  have h01 : d0 ≠ d1 := by rintro rfl; rw [up_same] at n1; cases n1
  have e0 : up (up h d0 (.dic false none (rs'.map fun r => (PV.str r.name, r.P)))) d1 (.dic false none []) d0 = some (.dic false none (rs'.map fun r => (PV.str r.name, r.P))) := by rw [up_ne h01, up_same]
  have e1 : up (up h d0 (.dic false none (rs'.map fun r => (PV.str r.name, r.P)))) d1 (.dic false none []) d1 = some (.dic false none []) := up_same
  have k1 : Kp [] h (up (up h d0 (.dic false none (rs'.map fun r => (PV.str r.name, r.P)))) d1 (.dic false none [])) := ((Kp.refl _ _).new n0).new n1
  have n1' : h d1 = none := by rw [up_ne h01.symm] at n1; exact n1
  generalize up (up h d0 (.dic false none (rs'.map fun r => (PV.str r.name, r.P)))) d1 (.dic false none []) = h1 at e0 e1 k1
  have kz : ∀ z, keyOk false (.str z) = true := fun _ => rfl
  have look : ∀ x : List Nat, dget (rs'.map fun r => (PV.str r.name, r.P)) (.str x) = (rs'.find? fun r => decide (r.name = x)).map Row.P := fun x => by
    unfold dget
    rw [List.find?_map, Option.map_map]
    congr 1
    congr 1
    funext r
    simp
  dsimp! []
  rw [zSeq_x]
  dsimp! []
  refine forW_V (ps := rs.map Row.P) (fun i ρ' h' => ∃ (kvs : List (PV × PV)) (x y : Option PV), ρ' = [some (TP ov gs rs hd), some (TP ov' gs' rs' hd'), some (.ref d0), some (.ref d1), x, y] ∧ Kp [] h h' ∧ h' d0 = some (.dic false none (rs'.map fun r => (PV.str r.name, r.P))) ∧ h' d1 = some (.dic false none kvs) ∧ LD (sameL (rs.take i) rs') kvs h')
    ⟨[], none, none, rfl, k1, e0, e1, ⟨rfl, fun r hr => by simp [sameL] at hr⟩⟩ ?_ ?_
  · rintro i _ h2 u eu ⟨kvs, x, y, rfl, k2, f0, f1, ld⟩
    rw [List.getElem?_map] at eu
    obtain ⟨r, er, rfl⟩ := Option.map_eq_some_iff.mp eu
    have mr := List.mem_of_getElem? er
    have okr := ok r mr
    obtain ⟨dr, pr⟩ := okr.dat
    have hlen : kvs.length ≤ 1000 := by
      rw [ld.len]
      exact Nat.le_trans (List.length_filter_le _ _) (by rw [List.length_take]; omega)
    have stp : sameL (rs.take (i + 1)) rs' = sameL (rs.take i) rs' ++ if r.P ∈ rs'.map Row.P then [r] else [] := by
      unfold sameL
      rw [List.take_add_one, er, Option.toList_some, List.filter_append]
      split
      · rename_i hm; rw [List.filter_cons_of_pos (by simpa using hm)]; rfl
      · rename_i hm; rw [List.filter_cons_of_neg (by simpa using hm)]; rfl
    have mem : r.P ∈ rs'.map Row.P ↔ (rs'.find? fun r' => decide (r'.name = r.name)).map Row.P = some r.P := by
      constructor
      · intro hm
        obtain ⟨s, hs, e⟩ := List.mem_map.mp hm
        have en : s.name = r.name := by
          exact congrArg nmOf e
        have : rs'.find? (fun r' => decide (r'.name = s.name)) = some s := row_find (gs := []) nd' hs
        rw [en] at this
        rw [this, Option.map_some, e]
      · intro e
        obtain ⟨s, hs, e⟩ := Option.map_eq_some_iff.mp e
        exact List.mem_map.mpr ⟨s, List.mem_of_find?_eq_some hs, e⟩
    have rP : r.P = .tup [.str r.name, .int r.rim, r.e.P] := rfl
    have no : ¬ r.P ∈ rs'.map Row.P → ∃ h3, G.Sub h3 h2 ∧ ∃ (kvs : List (PV × PV)) (x' y' : Option PV), [some (TP ov gs rs hd), some (TP ov' gs' rs' hd'), some (.ref d0), some (.ref d1), some r.P, y] = [some (TP ov gs rs hd), some (TP ov' gs' rs' hd'), some (.ref d0), some (.ref d1), x', y'] ∧ Kp [] h h3 ∧ h3 d0 = some (.dic false none (rs'.map fun r => (PV.str r.name, r.P))) ∧ h3 d1 = some (.dic false none kvs) ∧ LD (sameL (rs.take (i + 1)) rs') kvs h3 := fun hm =>
      ⟨h2, G.Sub.refl _, kvs, _, _, rfl, k2, f0, f1, by rw [stp, if_neg hm, List.append_nil]; exact ld⟩
    rw [mem] at no
    rw [rP] at no dr pr ⊢
    cases ef : rs'.find? (fun r' => decide (r'.name = r.name)) with
    | none =>
      rw [ef, Option.map_none] at no
      dsimp! [zDget_1, f0, zDgetO_d, kz, look, ef, Option.map_none, Option.getD_none]
      refine ⟨rfl, ?_, ?_, ?_⟩
      · have := dat_pl _ dr; simpa [PV.pl] using this
      · simp only [PV.dp] at pr; omega
      · dsimp! []
        exact no (by simp)
    | some s =>
      rw [ef, Option.map_some] at no
      have ms := List.mem_of_find?_eq_some ef
      have es : s.name = r.name := by have := List.find?_some ef; simpa using this
      obtain ⟨ds, ps⟩ := (ok' s ms).dat
      have e2 : zEq s.P (.tup [.str r.name, .int r.rim, r.e.P]) = fun h Q => Q (.bl (decide (s.P = .tup [.str r.name, .int r.rim, r.e.P]))) h := by
        funext h Q
        exact zEq_dat ds dr (by omega) (by omega)
      dsimp! [zDget_1, f0, zDgetO_d, kz, look, ef, Option.map_some, Option.getD_some, e2]
      by_cases hm : s.P = .tup [.str r.name, .int r.rim, r.e.P]
      · dsimp! [hm]
        refine c_references_in 9 r.e okr.dep (by decide) (by omega) fun d2 n2 => ?_
        have h12 : d1 ≠ d2 := by rintro rfl; rw [f1] at n2; cases n2
        have h02 : d0 ≠ d2 := by rintro rfl; rw [f0] at n2; cases n2
        have rl : (r.e.refs.map refP).length ≤ sizeLine := by
          have b2 := refs_len r.e
          have b3 := pow9 okr.dep
          rw [List.length_map, sizeLine_eq]; omega
        dsimp! []
        refine lcP_L (ps := r.e.refs.map refP) (fun _ => true) (fun p => match p with | .tup [_, x, _] => x | p => p) rl up_same (fun p hp R acc r' => ?_) ?_
        · obtain ⟨a, _, rfl⟩ := List.mem_map.mp hp
          simp only [refP] at r' ⊢
          dsimp! []
          simpa using r'
        · intro D nD
          have e5 : ((r.e.refs.map refP).filter fun _ => true).map (fun p => match p with | .tup [_, x, _] => x | p => p) = r.e.refs.map fun x => .str x.1 := by
            rw [List.filter_eq_self.mpr (by simp), List.map_map]; rfl
          rw [e5]
          have h1D : d1 ≠ D := by rintro rfl; rw [up_ne h12, f1] at nD; cases nD
          have h0D : d0 ≠ D := by rintro rfl; rw [up_ne h02, f0] at nD; cases nD
          dsimp! [up_ne h1D, up_ne h12, f1]
          refine ⟨rfl, by rw [sizeLine_eq]; omega, _, G.Sub.refl _, _, _, _, rfl, ((k2.new n2).new nD).put0 n1', ?_, up_same, ?_⟩
          · rw [up_ne h01, up_ne h0D, up_ne h02]; exact f0
          · rw [stp, if_pos (mem.mpr (by rw [ef, Option.map_some, hm, rP]))]
            have fresh : PV.str r.name ∉ kvs.map Prod.fst := by
              rw [ld.keys, str_inj_map]
              intro hx
              obtain ⟨s', hs', e'⟩ := List.mem_map.mp hx
              have hs2 := (List.mem_filter.mp hs').1
              obtain ⟨j, hj, ej⟩ := List.getElem_of_mem hs2
              rw [List.length_take] at hj
              rw [List.getElem_take] at ej
              have hi := (List.getElem?_eq_some_iff.mp er).1
              rw [List.nodup_iff_pairwise_ne, List.pairwise_iff_getElem] at nd
              refine nd j i (by simp; omega) (by simpa using hi) (by omega) ?_
              rw [List.getElem_map, List.getElem_map, ej, e', (List.getElem?_eq_some_iff.mp er).2]
            refine ⟨by rw [dput_new fresh, List.map_append, List.map_append, ld.keys]; rfl, fun t ht => ?_⟩
            rw [dget_dput]
            rcases List.mem_append.mp ht with ht | ht
            · have nt : ¬ (PV.str t.name = .str r.name) := fun z => fresh (by
                rw [← z, ld.keys]; exact List.mem_map.mpr ⟨t, ht, rfl⟩)
              rw [if_neg nt]
              obtain ⟨a, a1, a2⟩ := ld.at_ t ht
              have ha2 : a ≠ d2 := by rintro rfl; rw [a2] at n2; cases n2
              have haD : a ≠ D := by rintro rfl; rw [up_ne ha2, a2] at nD; cases nD
              have ha1 : a ≠ d1 := by rintro rfl; rw [f1] at a2; cases a2
              exact ⟨a, a1, by rw [up_ne ha1, up_ne haD, up_ne ha2]; exact a2⟩
            · rw [List.mem_singleton.mp ht, if_pos rfl]
              exact ⟨D, rfl, by rw [up_ne h1D.symm, up_same]⟩
      · dsimp! [hm]
        exact no (by simpa using hm)
  · rintro _ h2 ⟨kvs, x, y, rfl, k2, f0, f1, ld⟩
    rw [List.length_map, List.take_length] at ld
    dsimp! []
    exact ⟨h2, G.Sub.refl _, q d1 kvs h2 n1' k2 f1 ld⟩

def hdP : PV → PV
  | .tup (x :: _) => x
  | p => p
/-! ### what is left -/
def stepU (Gn : List (List Nat)) (L : List Row) : List Row := L.filter fun r => r.e.refs.all fun x => decide (x.1 ∈ Gn) || decide (x.1 ∈ L.map Row.name)
def fixU (Gn : List (List Nat)) : Nat → List Row → List Row
  | 0, L => L
  | n + 1, L => if (stepU Gn L).length < L.length then fixU Gn n (stepU Gn L) else L
def FU (Gn : List (List Nat)) (L : List Row) : List Row := fixU Gn L.length L
theorem fixU_ge (Gn : List (List Nat)) : ∀ (n m : Nat) (L : List Row), L.length ≤ n → L.length ≤ m → fixU Gn n L = fixU Gn m L
  | 0, m, L, h1, h2 => by
    have : L = [] := List.length_eq_zero_iff.mp (by omega)
    subst this
    cases m <;> simp [fixU, stepU]
  | n + 1, 0, L, h1, h2 => by
    have : L = [] := List.length_eq_zero_iff.mp (by omega)
    subst this
    simp [fixU, stepU]
  | n + 1, m + 1, L, h1, h2 => by
    simp only [fixU]
    split
    · exact fixU_ge Gn n m _ (by omega) (by omega)
    · rfl
theorem FU_step {Gn : List (List Nat)} {L : List Row} (h : (stepU Gn L).length < L.length) : FU Gn (stepU Gn L) = FU Gn L := by
  unfold FU
  rw [fixU_ge Gn L.length (L.length + 1) L (Nat.le_refl _) (by omega)]
  show _ = if (stepU Gn L).length < L.length then fixU Gn L.length (stepU Gn L) else L
  rw [if_pos h]
  exact fixU_ge Gn _ _ _ (Nat.le_refl _) (by omega)
theorem FU_stop {Gn : List (List Nat)} {L : List Row} (h : ¬ (stepU Gn L).length < L.length) : FU Gn L = L ∧ stepU Gn L = L := by
  have e : stepU Gn L = L := by
    have hl : (stepU Gn L).length ≤ L.length := List.length_filter_le _ _
    unfold stepU at h ⊢
    exact List.filter_eq_self.mpr (List.length_filter_eq_length_iff.mp (by unfold stepU at hl; omega))
  refine ⟨?_, e⟩
  unfold FU
  cases hn : L.length with
  | zero => rfl
  | succ n => simp only [fixU]; rw [if_neg h]
def stepUi (Gn : List (List Nat)) (L : List Row) (i : Nat) : List Row := (L.take i).filter fun r => r.e.refs.all fun x => decide (x.1 ∈ Gn) || decide (x.1 ∈ L.map Row.name)
theorem stepU_sub {Gn : List (List Nat)} {L : List Row} : ∀ r ∈ stepU Gn L, r ∈ L := fun r h => (List.mem_filter.mp h).1
theorem filter_one {α : Type} {p : α → Bool} {a : α} : [a].filter p = if p a = true then [a] else [] := by
  cases h : p a <;> simp [h]
def givN (gs gs' : List Giv) : List (List Nat) := (gs.filter fun g => decide (g.P ∈ gs'.map Giv.P)).map Giv.name
def GivOk (g : Giv) : Prop := okS g.name = true
theorem GivOk.dat {g : Giv} (h : GivOk g) : K78.dat g.P = true ∧ g.P.dp ≤ 2 := by
  have h1 := okS_dat h
  refine ⟨?_, ?_⟩
  · unfold Giv.P givP
    cases g.lo <;> cases g.hi <;> simp only [oi, K78.dat, K78.dats, List.length_cons, List.length_nil, Bool.and_true, Bool.and_eq_true, decide_eq_true_eq] at h1 ⊢ <;> simp [h1]
  · unfold Giv.P givP
    cases g.lo <;> cases g.hi <;> simp [oi, PV.dp, PV.dps]
theorem givs_dat {gs : List Giv} (h : ∀ g ∈ gs, GivOk g) : PV.pls (gs.map Giv.P) = true ∧ PV.dps (gs.map Giv.P) ≤ 2 := by
  induction gs with
  | nil => exact ⟨rfl, by simp [PV.dps]⟩
  | cons g gs ih =>
    obtain ⟨i1, i2⟩ := ih fun x hx => h x (List.mem_cons_of_mem _ hx)
    obtain ⟨d1, d2⟩ := (h g List.mem_cons_self).dat
    have := dat_pl _ d1
    refine ⟨by simp [PV.pls, this, i1], ?_⟩
    simp only [List.map_cons, PV.dps]; omega
theorem giv_list {gs gs' : List Giv} : (((gs.map Giv.P).filter fun p => decide (p ∈ gs'.map Giv.P)).map hdP) = (givN gs gs').map .str := by
  unfold givN
  rw [List.filter_map, List.map_map, List.map_map]
  rfl
theorem names_in {l : List (List Nat)} {x : List Nat} : (PV.str x ∈ l.map PV.str) ↔ x ∈ l := by
  rw [List.mem_map]
  exact ⟨fun ⟨y, hy, e⟩ => by cases e; exact hy, fun h => ⟨x, h, rfl⟩⟩
theorem lock_kp {hb h' : PH} {l k5 : Addr} {o : PO} {t : Bool} {lk : Obj × HO} {kvs : List (PV × PV)} (e : hb l = some (.dic t none kvs)) (nk : hb k5 = none) (k : Kp [k5] (up (up hb k5 o) l (.dic t (some lk) kvs)) h') : Kp [] hb (up h' l (.dic t none kvs)) := fun b v _ eb => by
  by_cases hl : b = l
  · subst hl; rw [up_same, ← eb, e]
  · have h5 : b ≠ k5 := by rintro rfl; rw [nk] at eb; cases eb
    rw [up_ne hl]
    exact k b v (by simpa using h5) (by rw [up_ne hl, up_ne h5]; exact eb)
/-- what both tell -/
def untP (gs gs' : List Giv) (rs rs' : List Row) : PV := .tup (isort ((FU (givN gs gs') (sameL rs rs')).map fun r => .str r.name))
theorem c_untouched {o o' : List PV} {hd hd' : PV} {gs gs' : List Giv} {rs rs' : List Row} (nd : (rs.map Row.name).Nodup) (nd' : (rs'.map Row.name).Nodup) (l1 : rs.length ≤ 1000) (l2 : rs'.length ≤ 1000) (l3 : gs.length ≤ 1000) (ok : ∀ r ∈ rs, RowOk r) (ok' : ∀ r ∈ rs', RowOk r) (okg : ∀ g ∈ gs, GivOk g) (okg' : ∀ g ∈ gs', GivOk g)
    (ol : o.length = o'.length) {k : Nat} (hk : 14 ≤ k) {h : PH} {Q : QV} (q : Q (untP gs gs' rs rs') h) : (wC k).untouched [TP (.tup o) gs rs hd, TP (.tup o') gs' rs' hd'] h Q := by
  obtain ⟨k, rfl⟩ : ∃ j, k = j + 1 := ⟨k - 1, by omega⟩
  show zFn _ _ (b_untouched (wC k)) _ h Q
  unfold b_untouched
  dsimp! []
  rw [zSeq_x]
  dsimp! [ol, Bool.not_true]
  refine lcP_V (fun p => decide (p ∈ gs'.map Giv.P)) hdP (by rw [sizeLine_eq, List.length_map]; omega) (fun p hp R acc r => ?_) ?_
  · obtain ⟨g, hg, rfl⟩ := List.mem_map.mp hp
    obtain ⟨d1, d2⟩ := (okg g hg).dat
    have dg := givs_dat okg'
    have d1 := dat_pl _ d1
    rw [show g.P = .tup [.str g.name, .int g.rim, oi g.lo, oi g.hi] from rfl] at r d1 d2 ⊢
    dsimp! []
    refine ⟨d1, by omega, dg.1, by have := dg.2; omega, ?_⟩
    by_cases hm : PV.tup [.str g.name, .int g.rim, oi g.lo, oi g.hi] ∈ gs'.map Giv.P
    · dsimp! [hm]
      simpa [hm, hdP] using r
    · dsimp! [hm]
      simpa [hm, hdP] using r
  intro g2 ng2
  rw [giv_list]
  have ok2 : ∀ x ∈ givN gs gs', okS x = true := fun x hx => by
    obtain ⟨g, hg, rfl⟩ := List.mem_map.mp hx
    exact okg g (List.mem_filter.mp hg).1
  have gd := pls_strs ok2
  unfold untP at q
  generalize givN gs gs' = Gn at gd ok2 q ⊢
  dsimp! []
  refine c_same_rules nd nd' l1 l2 ok ok' (by omega) fun a3 kvs3 h3 n3 k3 e3 ld3 => ?_
  have e2 : h3 g2 = some (.lst (Gn.map .str)) := k3 _ _ (by simp) up_same
  have kk3 : Kp [] h h3 := ((Kp.refl [] h).new ng2).trans k3
  have sub0 : ∀ r ∈ sameL rs rs', r ∈ rs := fun r hr => (List.mem_filter.mp hr).1
  have ln0 : (sameL rs rs').length ≤ 1000 := Nat.le_trans (List.length_filter_le _ _) l1
  have nd0 : ((sameL rs rs').map Row.name).Nodup := List.Nodup.sublist (List.Sublist.map _ (List.filter_sublist ..)) nd
  generalize sameL rs rs' = L0 at ld3 q sub0 ln0 nd0
  have kz : ∀ z, keyOk false (.str z) = true := fun _ => rfl
  clear ng2 n3 k3
  dsimp! []
  refine zSeq_key (fun ρ' h' => ∃ (L : List Row) (l : Addr) (kvs : List (PV × PV)) (x4 x5 x6 : Option PV), ρ' = [some (TP (.tup o) gs rs hd), some (TP (.tup o') gs' rs' hd'), some (.ref g2), some (.ref l), x4, x5, x6, none, none] ∧ Kp [] h h' ∧ h' l = some (.dic false none kvs) ∧ LD L kvs h' ∧ FU Gn L0 = L ∧ ∀ r ∈ L, r ∈ rs) ?_ fun X fx => ?_
  · rintro _ h4 ⟨L, l, kvs, x4, x5, x6, rfl, k4, e4, ld4, rfl, sub⟩
    have ek : kvs.map Prod.fst = ((FU Gn L0).map Row.name).map .str := by rw [ld4.keys, List.map_map]; rfl
    dsimp! [e4]
    intro d5 n5
    rw [ek]
    dsimp! [(sort_strs (l := (FU Gn L0).map Row.name) fun x hx => by
      obtain ⟨r, hr, rfl⟩ := List.mem_map.mp hx
      exact (ok r (sub r hr)).nm).1]
    intro d6 n6
    dsimp! []
    have k6 := (k4.new (o := .lst (((FU Gn L0).map Row.name).map .str)) n5).new (o := .lst (isort (((FU Gn L0).map Row.name).map .str))) n6
    rw [List.map_map] at k6 ⊢
    exact ⟨h, sub_of_kp k6, q⟩
  rw [zWhile_x]
  obtain ⟨I, hI⟩ : ∃ I : Nat → Ev → PH → Prop, I = fun m ρ' h' => ∃ (L : List Row) (l : Addr) (kvs : List (PV × PV)) (b : Bool) (x5 x6 : Option PV), ρ' = [some (TP (.tup o) gs rs hd), some (TP (.tup o') gs' rs' hd'), some (.ref g2), some (.ref l), some (.bl b), x5, x6, none, none] ∧ Kp [] h h' ∧ h' g2 = some (.lst (Gn.map .str)) ∧ h' l = some (.dic false none kvs) ∧ LD L kvs h' ∧ FU Gn L0 = FU Gn L ∧ (∀ r ∈ L, r ∈ rs) ∧ (L.map Row.name).Nodup ∧ (b = false → FU Gn L = L) ∧ L.length ≤ 1000 ∧ m = 2 * L.length + (if b = true then 1 else 0) := ⟨_, rfl⟩
  refine ⟨I, ⟨2 * L0.length + 1, by rw [hI]; exact ⟨L0, a3, kvs3, true, none, none, rfl, kk3, e2, e3, ld3, rfl, sub0, nd0, by simp, ln0, by simp⟩⟩, ?_⟩
  intro m ρ4 h4 hI4
  rw [hI] at hI4
  obtain ⟨L, l, kvs, b, x5, x6, rfl, k4, f2, e4, ld4, fu, sub, ndL, stop, lnL, rfl⟩ := hI4
  dsimp! []
  cases b with
  | false =>
    dsimp! []
    exact fx _ _ ⟨L, l, kvs, _, _, _, rfl, k4, e4, ld4, fu.trans (stop rfl), sub⟩
  | true =>
    dsimp! []
    refine ⟨fun ρ' h' => ∃ h2, G.Sub h2 h' ∧ ∃ m', m' < 2 * L.length + 1 ∧ I m' ρ' h2, fun ρ' h' ⟨h2, u, m', l, q⟩ => ⟨m', h2, l, u, q⟩, ?_⟩
    refine ⟨false, fun k5 n5 => ?_⟩
    have h5l : l ≠ k5 := by rintro rfl; rw [e4] at n5; cases n5
    have h52 : g2 ≠ k5 := by rintro rfl; rw [f2] at n5; cases n5
    have h2l : g2 ≠ l := by rintro rfl; rw [f2] at e4; cases e4
    have n5h := kp_fresh k4 n5
    dsimp! []
    refine zSeq_key (fun ρ' h' => ∃ (nk : List (PV × PV)) (x6 : Option PV), ρ' = [some (TP (.tup o) gs rs hd), some (TP (.tup o') gs' rs' hd'), some (.ref g2), some (.ref l), some (.bl true), some (.ref k5), x6, none, none] ∧ Kp [] h4 h' ∧ h' k5 = some (.dic false none nk) ∧ LD (stepU Gn L) nk h') ?_ fun X fx => ?_
    · rintro _ h6 ⟨nk, x6, rfl, k6, e6, ld6⟩
      have e4' : h6 l = some (.dic false none kvs) := k6 _ _ (by simp) e4
      dsimp! [e6, e4', ld6.len, ld4.len]
      rw [hI]
      refine ⟨h6, G.Sub.refl _, _, ?_, stepU Gn L, k5, nk, decide ((stepU Gn L).length < L.length), some (.ref k5), x6, ?_, k4.trans k6, k6 _ _ (by simp) f2, e6, ld6, ?_, fun r hr => sub r (stepU_sub r hr), List.Nodup.sublist (List.Sublist.map _ (List.filter_sublist ..)) ndL, ?_, Nat.le_trans (List.length_filter_le _ _) lnL, rfl⟩
      · have := List.length_filter_le (fun r : Row => r.e.refs.all fun x => decide (x.1 ∈ Gn) || decide (x.1 ∈ L.map Row.name)) L
        have hl : (stepU Gn L).length ≤ L.length := this
        by_cases hlt : (stepU Gn L).length < L.length
        · rw [decide_eq_true hlt, if_pos rfl]; omega
        · rw [decide_eq_false hlt, if_neg Bool.false_ne_true]; omega
      · simp
      · by_cases hlt : (stepU Gn L).length < L.length
        · rw [fu, FU_step hlt]
        · rw [fu, (FU_stop hlt).2]
      · intro hf
        have hlt : ¬ (stepU Gn L).length < L.length := of_decide_eq_false hf
        rw [(FU_stop hlt).2, (FU_stop hlt).1]
    · refine ⟨l, false, kvs, by rw [up_ne h5l]; exact e4, fun lk => ?_⟩
      have L1 : up (up h4 k5 (.dic false none [])) l (.dic false (some lk) kvs) l = some (.dic false (some lk) kvs) := up_same
      have L5 : up (up h4 k5 (.dic false none [])) l (.dic false (some lk) kvs) k5 = some (.dic false none []) := by rw [up_ne h5l.symm, up_same]
      have L2 : up (up h4 k5 (.dic false none [])) l (.dic false (some lk) kvs) g2 = some (.lst (Gn.map .str)) := by rw [up_ne h2l, up_ne h52]; exact f2
      have LA : ∀ a xs, h4 a = some (.lst xs) → up (up h4 k5 (.dic false none [])) l (.dic false (some lk) kvs) a = some (.lst xs) ∧ a ≠ k5 := fun a xs e => by
        have h1 : a ≠ k5 := by rintro rfl; rw [n5] at e; cases e
        have h2 : a ≠ l := by rintro rfl; rw [e4] at e; cases e
        exact ⟨by rw [up_ne h2, up_ne h1]; exact e, h1⟩
      have back : ∀ h', Kp [k5] (up (up h4 k5 (.dic false none [])) l (.dic false (some lk) kvs)) h' → Kp [] h4 (up h' l (.dic false none kvs)) := fun h' k => lock_kp e4 n5 k
      generalize up (up h4 k5 (.dic false none [])) l (.dic false (some lk) kvs) = hl at L1 L5 L2 LA back
      dsimp! [L1]
      refine forW_K (fun i ρ' h' => ∃ (nk : List (PV × PV)) (x6 : Option PV), ρ' = [some (TP (.tup o) gs rs hd), some (TP (.tup o') gs' rs' hd'), some (.ref g2), some (.ref l), some (.bl true), some (.ref k5), x6, none, none] ∧ Kp [k5] hl h' ∧ h' k5 = some (.dic false none nk) ∧ LD (stepUi Gn L i) nk h') ⟨[], x6, rfl, Kp.refl _ _, L5, ⟨rfl, fun r hr => by simp [stepUi] at hr⟩⟩ (fun i _ h' _ ⟨_, _, _, kx, _⟩ => kx _ _ (by simpa using h5l) L1) ?_ ?_
      · rintro i _ h6 kv ekv ⟨nk, x6, rfl, k6, e6, ld6⟩
        have hlen := ld4.len
        have hi : i < L.length := by rw [← hlen]; exact (List.getElem?_eq_some_iff.mp ekv).1
        have ekey : kv.1 = .str L[i].name := by
          have h1 : (kvs.map Prod.fst)[i]? = some kv.1 := by rw [List.getElem?_map, ekv]; rfl
          rw [ld4.keys, List.getElem?_map, List.getElem?_eq_getElem hi] at h1
          exact (Option.some.inj h1).symm
        have mr : L[i] ∈ L := List.getElem_mem hi
        have er : L[i]? = some L[i] := List.getElem?_eq_getElem hi
        generalize L[i] = r at ekey mr er
        have okr := ok r (sub r mr)
        obtain ⟨a, a1, a2⟩ := ld4.at_ r mr
        obtain ⟨a3, ak5⟩ := LA a _ a2
        have a4 : h6 a = some (.lst (r.e.refs.map fun x => .str x.1)) := k6 _ _ (by simpa using ak5) a3
        have f1 : h6 l = some (.dic false (some lk) kvs) := k6 _ _ (by simpa using h5l) L1
        have f2' : h6 g2 = some (.lst (Gn.map .str)) := k6 _ _ (by simpa using h52) L2
        have lr : r.e.refs.length ≤ 1000000 := Nat.le_trans (refs_len r.e) (by have := pow9 okr.dep; omega)
        have hnk : nk.length ≤ 1000000 := by
          rw [ld6.len]
          have : (stepUi Gn L i).length ≤ L.length := Nat.le_trans (List.length_filter_le _ _) (by rw [List.length_take]; omega)
          omega
        have inL : ∀ x : List Nat, (dget kvs (.str x)).isSome = decide (x ∈ L.map Row.name) := fun x => by
          have key : dget kvs (.str x) = none ↔ x ∉ L.map Row.name := by
            rw [dget_none, ld4.keys, show (L.map fun r => PV.str r.name) = (L.map Row.name).map .str from by rw [List.map_map]; rfl, names_in]
          cases hx : dget kvs (.str x) with
          | none => simp only [Option.isSome_none]; exact (decide_eq_false (key.mp hx)).symm
          | some v =>
            have : x ∈ L.map Row.name := Classical.byContradiction fun z => by rw [key.mpr z] at hx; cases hx
            simp only [Option.isSome_some]; exact (decide_eq_true this).symm
        dsimp! [ekey, f1, kz, a1, a4]
        refine lcP_L (ps := r.e.refs.map fun x => .str x.1) (fun _ => true) (fun p => match p with | .str x => .bl (decide (x ∈ Gn) || decide (x ∈ L.map Row.name)) | p => p) (by rw [sizeLine_eq, List.length_map]; omega) a4 (fun p hp R acc r' => ?_) ?_
        · obtain ⟨x, hx, rfl⟩ := List.mem_map.mp hp
          rw [if_pos rfl] at r'
          have hxp : (PV.str x.1).pl = true := dat_pl _ (okS_dat (al_refs okr.wf x hx).1)
          dsimp! [f2']
          refine ⟨hxp, by simp [PV.dp], gd.1, by have := gd.2; omega, ?_⟩
          by_cases hg : x.1 ∈ Gn
          · dsimp! [names_in, hg]
            simpa [hg] using r'
          · dsimp! [names_in, hg, f1, kz, inL]
            simpa [hg] using r'
        intro D nD
        have hDl : l ≠ D := by rintro rfl; rw [f1] at nD; cases nD
        have hD5 : k5 ≠ D := by rintro rfl; rw [e6] at nD; cases nD
        have eb : ((r.e.refs.map fun x => PV.str x.1).filter fun _ => true).map (fun p => match p with | .str x => .bl (decide (x ∈ Gn) || decide (x ∈ L.map Row.name)) | p => p) = r.e.refs.map fun x => PV.bl (decide (x.1 ∈ Gn) || decide (x.1 ∈ L.map Row.name)) := by
          rw [List.filter_eq_self.mpr (by simp), List.map_map]; rfl
        rw [eb]
        have eall : (r.e.refs.map fun x => (decide (x.1 ∈ Gn) || decide (x.1 ∈ L.map Row.name))).all id = (r.e.refs.all fun x => decide (x.1 ∈ Gn) || decide (x.1 ∈ L.map Row.name)) := by rw [List.all_map]; rfl
        have stp : stepUi Gn L (i + 1) = stepUi Gn L i ++ if (r.e.refs.all fun x => decide (x.1 ∈ Gn) || decide (x.1 ∈ L.map Row.name)) = true then [r] else [] := by
          unfold stepUi
          rw [List.take_add_one, er, Option.toList_some, List.filter_append]
          congr 1
          exact filter_one
        dsimp! [bls_map, eall]
        by_cases ht : (r.e.refs.all fun x => decide (x.1 ∈ Gn) || decide (x.1 ∈ L.map Row.name)) = true
        · rw [if_pos ht] at stp
          dsimp! [ht, up_ne hDl, up_ne hD5, f1, kz, a1, e6]
          refine ⟨by rw [sizeLine_eq]; omega, _, G.Sub.refl _, _, _, rfl, (k6.new nD).put (by simp), up_same, ?_⟩
          rw [stp]
          have fresh : PV.str r.name ∉ nk.map Prod.fst := by
            rw [ld6.keys, show ((stepUi Gn L i).map fun r => PV.str r.name) = ((stepUi Gn L i).map Row.name).map .str from by rw [List.map_map]; rfl, names_in]
            intro hx
            obtain ⟨s', hs', e'⟩ := List.mem_map.mp hx
            have hs2 := (List.mem_filter.mp hs').1
            obtain ⟨j, hj, ej⟩ := List.getElem_of_mem hs2
            rw [List.length_take] at hj
            rw [List.getElem_take] at ej
            rw [List.nodup_iff_pairwise_ne, List.pairwise_iff_getElem] at ndL
            refine ndL j i (by simp; omega) (by simpa using hi) (by omega) ?_
            rw [List.getElem_map, List.getElem_map, ej, e', (List.getElem?_eq_some_iff.mp er).2]
          refine ⟨by rw [dput_new fresh, List.map_append, List.map_append, ld6.keys]; rfl, fun t ht' => ?_⟩
          rw [dget_dput]
          rcases List.mem_append.mp ht' with ht' | ht'
          · have nt : ¬ (PV.str t.name = .str r.name) := fun z => fresh (by
              rw [← z, ld6.keys]; exact List.mem_map.mpr ⟨t, ht', rfl⟩)
            rw [if_neg nt]
            obtain ⟨b, b1, b2⟩ := ld6.at_ t ht'
            have hb5 : b ≠ k5 := by rintro rfl; rw [e6] at b2; cases b2
            have hbD : b ≠ D := by rintro rfl; rw [b2] at nD; cases nD
            exact ⟨b, b1, by rw [up_ne hb5, up_ne hbD]; exact b2⟩
          · rw [List.mem_singleton.mp ht', if_pos rfl]
            have haD : a ≠ D := by rintro rfl; rw [a4] at nD; cases nD
            exact ⟨a, rfl, by rw [up_ne ak5, up_ne haD]; exact a4⟩
        · rw [if_neg ht, List.append_nil] at stp
          dsimp! [ht]
          refine ⟨_, G.Sub.refl _, nk, _, rfl, k6.new nD, by rw [up_ne hD5]; exact e6, ?_⟩
          rw [stp]
          exact ld6.kp (kp_new nD)
      · rintro _ h6 ⟨nk, x6, rfl, k6, e6, ld6⟩
        rw [ld4.len] at ld6
        have f1 : h6 l = some (.dic false (some lk) kvs) := k6 _ _ (by simpa using h5l) L1
        refine ⟨f1, fx _ _ ⟨nk, x6, rfl, back _ k6, by rw [up_ne h5l.symm]; exact e6, ?_⟩⟩
        have es : stepUi Gn L L.length = stepU Gn L := by unfold stepUi stepU; rw [List.take_length]
        rw [es] at ld6
        exact ⟨ld6.keys, fun r hr => by
          obtain ⟨a, a1, a2⟩ := ld6.at_ r hr
          have hal : a ≠ l := by rintro rfl; rw [f1] at a2; cases a2
          exact ⟨a, a1, by rw [up_ne hal]; exact a2⟩⟩

theorem rows_dat {rs : List Row} (h : ∀ r ∈ rs, RowOk r) : PV.pls (rs.map Row.P) = true ∧ PV.dps (rs.map Row.P) ≤ 12 := by
  induction rs with
  | nil => exact ⟨rfl, by simp [PV.dps]⟩
  | cons g gs ih =>
    obtain ⟨i1, i2⟩ := ih fun x hx => h x (List.mem_cons_of_mem _ hx)
    obtain ⟨d1, d2⟩ := (h g List.mem_cons_self).dat
    have := dat_pl _ d1
    refine ⟨by simp [PV.pls, this, i1], ?_⟩
    simp only [List.map_cons, PV.dps]; omega
theorem c__law_untouched {o o' : List PV} {hd hd' : PV} {gs gs' : List Giv} {rs rs' : List Row} (nd : Nd gs rs) (l1 : gs.length + rs.length ≤ 1000) (ok : ∀ r ∈ rs, RowOk r) (ok' : ∀ r ∈ rs', RowOk r) (okg : ∀ g ∈ gs, GivOk g) (okg' : ∀ g ∈ gs', GivOk g)
    (ol : o.length = o'.length) {k : Nat} (hk : 14 ≤ k) {h : PH} {Q : QV} (q : Q (untP gs gs' rs rs') h) : (wC k)._law_untouched [TP (.tup o) gs rs hd, TP (.tup o') gs' rs' hd'] h Q := by
  obtain ⟨k, rfl⟩ : ∃ j, k = j + 1 := ⟨k - 1, by omega⟩
  show zFn _ _ (b__law_untouched (wC k)) _ h Q
  unfold b__law_untouched
  dsimp! []
  rw [zSeq_x]
  dsimp! [ol, Bool.not_true]
  refine lcP_V (fun p => decide (p ∈ gs'.map Giv.P)) hdP (by rw [sizeLine_eq, List.length_map]; omega) (fun p hp R acc r => ?_) ?_
  · obtain ⟨g, hg, rfl⟩ := List.mem_map.mp hp
    obtain ⟨d1, d2⟩ := (okg g hg).dat
    have dg := givs_dat okg'
    have d1 := dat_pl _ d1
    rw [show g.P = .tup [.str g.name, .int g.rim, oi g.lo, oi g.hi] from rfl] at r d1 d2 ⊢
    dsimp! []
    refine ⟨d1, by omega, dg.1, by have := dg.2; omega, ?_⟩
    by_cases hm : PV.tup [.str g.name, .int g.rim, oi g.lo, oi g.hi] ∈ gs'.map Giv.P
    · dsimp! [hm]
      simpa [hm, hdP] using r
    · dsimp! [hm]
      simpa [hm, hdP] using r
  intro g2 ng2
  rw [giv_list]
  have ok2 : ∀ x ∈ givN gs gs', okS x = true := fun x hx => by
    obtain ⟨g, hg, rfl⟩ := List.mem_map.mp hx
    exact okg g (List.mem_filter.mp hg).1
  have gd := pls_strs ok2
  unfold untP at q
  generalize givN gs gs' = Gn at gd ok2 q ng2 ⊢
  dsimp! []
  refine lcP_V (fun p => decide (p ∈ rs'.map Row.P)) hdP (by rw [sizeLine_eq, List.length_map]; omega) (fun p hp R acc r => ?_) ?_
  · obtain ⟨g, hg, rfl⟩ := List.mem_map.mp hp
    obtain ⟨d1, d2⟩ := (ok g hg).dat
    have dg := rows_dat ok'
    have d1 := dat_pl _ d1
    rw [show g.P = .tup [.str g.name, .int g.rim, g.e.P] from rfl] at r d1 d2 ⊢
    dsimp! []
    refine ⟨d1, by omega, dg.1, by have := dg.2; omega, ?_⟩
    by_cases hm : PV.tup [.str g.name, .int g.rim, g.e.P] ∈ rs'.map Row.P
    · dsimp! [hm]
      simpa [hm, hdP] using r
    · dsimp! [hm]
      simpa [hm, hdP] using r
  intro a3 na3
  have el : (((rs.map Row.P).filter fun p => decide (p ∈ rs'.map Row.P)).map hdP) = ((sameL rs rs').map Row.name).map .str := by
    unfold sameL
    rw [List.filter_map, List.map_map, List.map_map]
    rfl
  rw [el]
  have h23 : g2 ≠ a3 := by rintro rfl; rw [up_same] at na3; cases na3
  have e2 : up (up h g2 (.lst (Gn.map .str))) a3 (.lst (((sameL rs rs').map Row.name).map .str)) g2 = some (.lst (Gn.map .str)) := by rw [up_ne h23, up_same]
  have e3 : up (up h g2 (.lst (Gn.map .str))) a3 (.lst (((sameL rs rs').map Row.name).map .str)) a3 = some (.lst (((sameL rs rs').map Row.name).map .str)) := up_same
  have kk3 : Kp [] h (up (up h g2 (.lst (Gn.map .str))) a3 (.lst (((sameL rs rs').map Row.name).map .str))) := ((Kp.refl [] h).new ng2).new na3
  generalize up (up h g2 (.lst (Gn.map .str))) a3 (.lst (((sameL rs rs').map Row.name).map .str)) = h3 at e2 e3 kk3
  have sub0 : ∀ r ∈ sameL rs rs', r ∈ rs := fun r hr => (List.mem_filter.mp hr).1
  have ln0 : (sameL rs rs').length ≤ 1000 := Nat.le_trans (List.length_filter_le _ _) (by omega)
  generalize sameL rs rs' = L0 at e3 q sub0 ln0
  clear na3 ng2 el
  refine zSeq_key (fun ρ' h' => ∃ (L : List Row) (l : Addr) (x4 x5 x6 : Option PV), ρ' = [some (TP (.tup o) gs rs hd), some (TP (.tup o') gs' rs' hd'), some (.ref g2), some (.ref l), x4, x5, x6, none, none] ∧ Kp [] h h' ∧ h' l = some (.lst ((L.map Row.name).map .str)) ∧ FU Gn L0 = L ∧ ∀ r ∈ L, r ∈ rs) ?_ fun X fx => ?_
  · rintro _ h4 ⟨L, l, x4, x5, x6, rfl, k4, e4, rfl, sub⟩
    dsimp! [e4, (sort_strs (l := (FU Gn L0).map Row.name) fun x hx => by
      obtain ⟨r, hr, rfl⟩ := List.mem_map.mp hx
      exact (ok r (sub r hr)).nm).1]
    intro d6 n6
    dsimp! []
    have k6 := k4.new (o := .lst (isort (((FU Gn L0).map Row.name).map .str))) n6
    rw [List.map_map] at k6 ⊢
    exact ⟨h, sub_of_kp k6, q⟩
  dsimp! [e3]
  refine ⟨by rw [List.length_map, List.length_map]; omega, by rw [List.length_map, List.length_map]; omega, ?_⟩
  refine forW_R (fun i ρ' h' => ∃ (L : List Row) (l : Addr) (x4 x5 x6 : Option PV), ρ' = [some (TP (.tup o) gs rs hd), some (TP (.tup o') gs' rs' hd'), some (.ref g2), some (.ref l), x4, x5, x6, none, none] ∧ Kp [] h3 h' ∧ h' l = some (.lst ((L.map Row.name).map .str)) ∧ FU Gn L0 = FU Gn L ∧ (∀ r ∈ L, r ∈ rs) ∧ L.length + i ≤ L0.length)
    ⟨L0, a3, none, none, none, rfl, Kp.refl _ _, e3, rfl, sub0, by omega⟩ ?_ ?_
  · rintro i _ h4 hi ⟨L, l, x4, x5, x6, rfl, k4, e4, fu, sub, lnL⟩
    have f2 : h4 g2 = some (.lst (Gn.map .str)) := k4 _ _ (by simp) e2
    dsimp! []
    refine ⟨by decide, fun k5 n5 => ?_⟩
    have h5l : l ≠ k5 := by rintro rfl; rw [e4] at n5; cases n5
    have h52 : g2 ≠ k5 := by rintro rfl; rw [f2] at n5; cases n5
    have okL := pls_strs (l := L.map Row.name) fun x hx => by
      obtain ⟨r, hr, rfl⟩ := List.mem_map.mp hx
      exact (ok r (sub r hr)).nm
    rw [zSeq_x]
    dsimp! [up_ne h5l, e4]
    refine forW_L (ps := (L.map Row.name).map .str) (fun j ρ' h' => ∃ (x6 : Option PV), ρ' = [some (TP (.tup o) gs rs hd), some (TP (.tup o') gs' rs' hd'), some (.ref g2), some (.ref l), some (.int ((0 : Int) + (i : Nat))), some (.ref k5), x6, none, none] ∧ Kp [] h4 h' ∧ h' k5 = some (.lst (((stepUi Gn L j).map Row.name).map .str))) ⟨x6, rfl, kp_new n5, up_same⟩ (fun j _ h' _ ⟨_, _, kx, _⟩ => kx _ _ (by simp) e4) ?_ ?_
    · rintro j _ h6 u eu ⟨x6, rfl, k6, e6⟩
      rw [List.getElem?_map, List.getElem?_map] at eu
      obtain ⟨_, eu2, rfl⟩ := Option.map_eq_some_iff.mp eu
      obtain ⟨r, er, rfl⟩ := Option.map_eq_some_iff.mp eu2
      have mr := List.mem_of_getElem? er
      have okr := ok r (sub r mr)
      have lr : r.e.refs.length ≤ 1000000 := Nat.le_trans (refs_len r.e) (by have := pow9 okr.dep; omega)
      dsimp! []
      refine c_row_named (x := r.name) (r := [.int r.rim, r.e.P]) (by omega) nd l1 (List.mem_append_right _ (List.mem_map.mpr ⟨r, sub r mr, rfl⟩)) rfl ?_
      rw [show r.P = .tup [.str r.name, .int r.rim, r.e.P] from rfl]
      dsimp! []
      refine c_refs 9 r.e okr.dep (by decide) (by omega) fun d2 n2 => ?_
      have f2' : h6 g2 = some (.lst (Gn.map .str)) := k6 _ _ (by simp) f2
      have f4' : h6 l = some (.lst ((L.map Row.name).map .str)) := k6 _ _ (by simp) e4
      have hg2 : g2 ≠ d2 := by rintro rfl; rw [f2'] at n2; cases n2
      have hl2 : l ≠ d2 := by rintro rfl; rw [f4'] at n2; cases n2
      have h52' : k5 ≠ d2 := by rintro rfl; rw [e6] at n2; cases n2
      dsimp! []
      refine lcP_L (ps := r.e.refs.map refP) (fun _ => true) (fun p => match p with | .tup [_, .str x, _] => .bl (decide (x ∈ Gn) || decide (x ∈ L.map Row.name)) | p => p) (by rw [sizeLine_eq, List.length_map]; omega) up_same (fun p hp R acc r' => ?_) ?_
      · obtain ⟨x, hx, rfl⟩ := List.mem_map.mp hp
        rw [if_pos rfl] at r'
        have hxp : (PV.str x.1).pl = true := dat_pl _ (okS_dat (al_refs okr.wf x hx).1)
        simp only [refP] at r' ⊢
        dsimp! [up_ne hg2, f2']
        refine ⟨hxp, by simp [PV.dp], gd.1, by have := gd.2; omega, ?_⟩
        by_cases hg : x.1 ∈ Gn
        · dsimp! [names_in, hg]
          simpa [hg] using r'
        · dsimp! [names_in, hg, up_ne hl2, f4']
          refine ⟨hxp, by simp [PV.dp], okL.1, by have := okL.2; omega, ?_⟩
          simpa [hg] using r'
      intro D nD
      have hD5 : k5 ≠ D := by rintro rfl; rw [up_ne h52', e6] at nD; cases nD
      have eb : ((r.e.refs.map refP).filter fun _ => true).map (fun p => match p with | .tup [_, .str x, _] => .bl (decide (x ∈ Gn) || decide (x ∈ L.map Row.name)) | p => p) = r.e.refs.map fun x => PV.bl (decide (x.1 ∈ Gn) || decide (x.1 ∈ L.map Row.name)) := by
        rw [List.filter_eq_self.mpr (by simp), List.map_map]; rfl
      rw [eb]
      have eall : (r.e.refs.map fun x => (decide (x.1 ∈ Gn) || decide (x.1 ∈ L.map Row.name))).all id = (r.e.refs.all fun x => decide (x.1 ∈ Gn) || decide (x.1 ∈ L.map Row.name)) := by rw [List.all_map]; rfl
      have stp : stepUi Gn L (j + 1) = stepUi Gn L j ++ if (r.e.refs.all fun x => decide (x.1 ∈ Gn) || decide (x.1 ∈ L.map Row.name)) = true then [r] else [] := by
        unfold stepUi
        rw [List.take_add_one, er, Option.toList_some, List.filter_append]
        congr 1
        exact filter_one
      have lnj : (stepUi Gn L j).length ≤ 1000 := by
        have : (stepUi Gn L j).length ≤ L.length := Nat.le_trans (List.length_filter_le _ _) (by rw [List.length_take]; omega)
        omega
      dsimp! [bls_map, eall]
      by_cases ht : (r.e.refs.all fun x => decide (x.1 ∈ Gn) || decide (x.1 ∈ L.map Row.name)) = true
      · rw [if_pos ht] at stp
        dsimp! [ht, up_ne hD5, up_ne h52', e6]
        refine ⟨by rw [sizeLine_eq, List.length_map, List.length_map]; omega, _, G.Sub.refl _, _, rfl, ((k6.new n2).new nD).put0 n5, ?_⟩
        rw [up_same, stp]
        simp
      · rw [if_neg ht, List.append_nil] at stp
        dsimp! [ht]
        refine ⟨_, G.Sub.refl _, _, rfl, (k6.new n2).new nD, ?_⟩
        rw [up_ne hD5, up_ne h52', e6, stp]
    · rintro _ h6 ⟨x6, rfl, k6, e6⟩
      have es : stepUi Gn L L.length = stepU Gn L := by unfold stepUi stepU; rw [List.take_length]
      rw [List.length_map, List.length_map, es] at e6
      have f4' : h6 l = some (.lst ((L.map Row.name).map .str)) := k6 _ _ (by simp) e4
      have hle : (stepU Gn L).length ≤ L.length := List.length_filter_le _ _
      dsimp! []
      rw [zSeq_x]
      dsimp! [e6, f4', List.length_map]
      by_cases hlt : (stepU Gn L).length < L.length
      · dsimp! [show ((stepU Gn L).length : Int) = (L.length : Int) ↔ False from ⟨fun z => by omega, False.elim⟩]
        exact ⟨h6, G.Sub.refl _, stepU Gn L, k5, _, _, _, rfl, k4.trans k6, e6, by rw [fu, FU_step hlt], fun r hr => sub r (stepU_sub r hr), by omega⟩
      · dsimp! [show (stepU Gn L).length = L.length by omega]
        exact fx _ _ ⟨L, l, _, _, _, rfl, kk3.trans (k4.trans k6), f4', by rw [fu, (FU_stop hlt).1], sub⟩
  · rintro _ h4 ⟨L, l, x4, x5, x6, rfl, k4, e4, fu, sub, lnL⟩
    exfalso
    rw [List.length_map, List.length_map] at lnL
    omega

theorem c_shuffled {k : Nat} (hk : 2 ≤ k) {a s l : Addr} {ns : List Int} {xs : List PV} (hx : xs.length ≤ 1000) {h : PH} {Q : QV} (d : DS a ns s h) (hl : h l = some (.lst xs)) (hne : l ≠ s)
    (q : ∀ ys p h', ys.Perm xs → DS a ns s h' → Kp [s] h h' → h p = none → h' p = some (.lst ys) → Q (.ref p) h') : (wC k)._law_shuffled [.ref s, .ref l] h Q := by
  obtain ⟨k, rfl⟩ : ∃ j, k = j + 1 := ⟨k - 1, by omega⟩
  show zFn _ _ (b__law_shuffled (wC k)) _ h Q
  unfold b__law_shuffled
  dsimp! []
  refine ⟨by decide, fun p np => ?_⟩
  have hlp : l ≠ p := by rintro rfl; rw [hl] at np; cases np
  have hps := d.ne np
  rw [zSeq_x]
  dsimp! [up_ne hlp, hl]
  refine forW_L (ps := xs) (fun i ρ' h' => ∃ (ys : List PV) (x : Option PV), ρ' = [some (.ref s), some (.ref l), some (.ref p), x] ∧ ys.Perm (xs.take i) ∧ DS a ns s h' ∧ Kp [s] h h' ∧ h' p = some (.lst ys)) ⟨[], none, rfl, .refl _, d.new np, kp_new np, up_same⟩ (fun i _ h' _ ⟨_, _, _, _, _, kx, _⟩ => kx _ _ (by simpa using hne) hl) ?_ ?_
  · rintro i _ h1 u eu ⟨ys, x, rfl, pm, d1, k1, e1⟩
    have hi := (List.getElem?_eq_some_iff.mp eu).1
    have ly : ys.length = i := by rw [pm.length_eq, List.length_take]; omega
    dsimp! [e1]
    refine c_draw (by omega) d1 (by omega) (by omega) fun v h2 v0 v1 d2 f2 => ?_
    have e2 : h2 p = some (.lst ys) := (f2 p (by simpa using hps)).trans e1
    dsimp! [zInsert_r, e2, zInsO_l]
    refine ⟨by rw [sizeLine_eq]; omega, v0, by omega, _, G.Sub.refl _, _, _, rfl, ?_, d2.put ?_ hps, (k1.trans f2.kp).put0 np, up_same⟩
    · rw [List.take_add_one, eu]
      have : (ys.take v.toNat ++ [u] ++ ys.drop v.toNat).Perm (ys ++ [u]) := by
        conv => rhs; rw [← List.take_append_drop v.toNat ys]
        rw [List.append_assoc, List.append_assoc]
        exact List.Perm.append_left _ List.perm_append_comm
      exact this.trans (List.Perm.append_right _ pm)
    · rintro rfl
      exact absurd np (by rw [d.2.1]; simp)
  · rintro _ h1 ⟨ys, x, rfl, pm, d1, k1, e1⟩
    rw [List.take_length] at pm
    dsimp! []
    exact ⟨h1, G.Sub.refl _, q ys p h1 pm d1 k1 np e1⟩
theorem places_pow {b : Nat} : ∀ (n : Nat) (sz : List Int), sz.length = n → (∀ m ∈ sz, m.toNat ≤ b) → (places sz).length ≤ b ^ n
  | 0, sz, h, _ => by
    have : sz = [] := List.length_eq_zero_iff.mp h
    subst this
    simp [places]
  | n + 1, sz, h, hb => by
    rcases List.eq_nil_or_concat sz with rfl | ⟨L, m, rfl⟩
    · simp at h
    rw [List.concat_eq_append] at *
    have hL : L.length = n := by simpa using h
    rw [places_snoc, pstep_len, Nat.pow_succ]
    exact Nat.mul_le_mul (places_pow n L hL fun x hx => hb x (List.mem_append_left _ hx)) (hb m (by simp))
def szB (most : Int) (many : Nat) : Int := if many = 1 then most * 3 else if many = 2 then most else (most + 2) / 2
theorem c_sizes {k : Nat} (hk : 2 ≤ k) {a s : Addr} {ns : List Int} {many : Nat} (hm : 1 ≤ many ∧ many ≤ 3) {most : Int} (h0 : 1 ≤ most ∧ most ≤ 100) {h : PH} {Q : QV} (d : DS a ns s h)
    (q : ∀ sz h', sz.length = many → (∀ n ∈ sz, 1 ≤ n ∧ n ≤ szB most many) → DS a ns s h' → G.Fr [s] h h' → Q (tI sz) h') : (wC k)._law_sizes [.ref s, .int many, .int most] h Q := by
  obtain ⟨k, rfl⟩ : ∃ j, k = j + 1 := ⟨k - 1, by omega⟩
  show zFn _ _ (b__law_sizes (wC k)) _ h Q
  unfold b__law_sizes
  dsimp! []
  refine ⟨by omega, by omega, ?_⟩
  have b1 : 1 ≤ szB most many ∧ szB most many ≤ 300 := by unfold szB; split <;> (try split) <;> omega
  have eb : atI [PV.int (most * 3), .int most, .int ((most + 2) / 2)] ((many : Int) - 1) = some (.int (szB most many)) := by
    rcases (show many = 1 ∨ many = 2 ∨ many = 3 by omega) with rfl | rfl | rfl
    · exact at0
    · exact at1
    · exact at2
  refine lcW_R (by rw [sizeLine_eq]; omega) (fun i acc h' => ∃ sz : List Int, acc = sz.map .int ∧ sz.length = i ∧ (∀ n ∈ sz, 1 ≤ n ∧ n ≤ szB most many) ∧ DS a ns s h' ∧ Kp [s] h h') ⟨[], rfl, rfl, by simp, d, Kp.refl _ _⟩ (fun i acc h' ⟨sz, e, l, _⟩ => by rw [e, List.length_map, l]; exact Nat.le_refl _) ?_ ?_
  · rintro i _ h1 hi ⟨sz, rfl, l1, b2, d1, k1⟩
    dsimp! []
    refine ⟨mulL (by decide), ⟨by decide, by decide⟩, by decide, fun p np => ?_⟩
    dsimp! [eb]
    refine c_draw (by omega) (d1.new np) (by omega) (by omega) fun v h2 v0 v1 d2 f2 => ?_
    dsimp! []
    refine ⟨h2, G.Sub.refl _, sz ++ [1 + v], by simp, by simp [l1], fun n hn => ?_, d2, (k1.new np).trans f2.kp⟩
    rcases List.mem_append.mp hn with hn | hn
    · exact b2 n hn
    · simp at hn; omega
  · rintro _ h1 ⟨sz, rfl, l1, b2, d1, k1⟩ D nD
    dsimp! []
    exact d.out (d1.new nD) (k1.new nD) fun h2 x y => q sz h2 (by omega) b2 x y

/-- a number that the given takes -/
def Giv.bnd (g : Giv) (z : Int) : Prop := (∀ l, g.lo = some l → l ≤ z) ∧ (∀ u, g.hi = some u → z ≤ u) ∧ -20 ≤ z ∧ z ≤ 20
theorem Giv.bnd_mk {g : Giv} {z : Int} (a : ∀ l, g.lo = some l → l ≤ z) (b : ∀ u, g.hi = some u → z ≤ u) (c : -20 ≤ z) (d : z ≤ 20) : g.bnd z := ⟨a, b, c, d⟩
/-- numbers of a given's cells -/
structure FOk (g : Giv) (sz : List Int) (f : List Fp) : Prop where
  sub : (f.map Prod.fst).Sublist (places sz)
  num : ∀ a ∈ f, g.bnd a.2
theorem oi_ne {x : Option Int} {h : PH} {Q : QV} : zNot zEq (oi x) (.tup []) h Q = Q (.bl x.isSome) h := by
  cases x with
  | none => simp [oi, zNot, zEq, PV.pls, PV.dps, PV.pl, PV.dp]
  | some i => simp [oi, zNot, zEq, PV.pls, PV.dps, PV.pl, PV.dp]
theorem c_fields {k : Nat} (hk : 3 ≤ k) {a s : Addr} {ns : List Int} {ov hd : PV} {gs : List Giv} {rs : List Row} (okg : ∀ g ∈ gs, g.ok) (lg : gs.length ≤ 1000) {sz : List Int} (hl : sz.length ≤ 1000) (hz : ∀ n ∈ sz, 0 ≤ n ∧ n ≤ 1000) (hb : ∀ i, (places (sz.take i)).length ≤ 100000) {h : PH} {Q : QV} (d : DS a ns s h)
    (q : ∀ (fs : List (List Fp)) h', fs.length = gs.length → (∀ (i : Nat) (g : Giv) (f : List Fp), gs[i]? = some g → fs[i]? = some f → FOk g sz f) → DS a ns s h' → G.Fr [s] h h' → Q (fsP fs) h') : (wC k)._law_fields [.ref s, TP ov gs rs hd, tI sz] h Q := by
  obtain ⟨k, rfl⟩ : ∃ j, k = j + 1 := ⟨k - 1, by omega⟩
  show zFn _ _ (b__law_fields (wC k)) _ h Q
  unfold b__law_fields
  dsimp! []
  refine ⟨by decide, fun r3 n3 => ?_⟩
  have h3s := d.ne n3
  have h3a := d.nea n3
  rw [zSeq_x]
  dsimp! []
  refine forW_V (ps := gs.map Giv.P) (fun i ρ' h' => ∃ (fs : List (List Fp)) (x4 x5 x6 x7 x8 x9 x10 : Option PV), ρ' = [some (.ref s), some (TP ov gs rs hd), some (tI sz), some (.ref r3), x4, x5, x6, x7, x8, x9, x10] ∧ fs.length = i ∧ (∀ (j : Nat) (g : Giv) (f : List Fp), gs[j]? = some g → fs[j]? = some f → FOk g sz f) ∧ DS a ns s h' ∧ Kp [s] h h' ∧ h' r3 = some (.lst (fs.map fun f => .tup (f.map fpP))))
    ⟨[], none, none, none, none, none, none, none, rfl, rfl, fun j g f _ e => by simp at e, d.new n3, kp_new n3, up_same⟩ ?_ ?_
  · rintro i _ h1 u eu ⟨fs, x4, x5, x6, x7, x8, x9, x10, rfl, lf, okf, d1, k1, e1⟩
    rw [List.getElem?_map] at eu
    obtain ⟨g, eg, rfl⟩ := Option.map_eq_some_iff.mp eu
    have hg := okg g (List.mem_of_getElem? eg)
    have hi := (List.getElem?_eq_some_iff.mp eg).1
    rw [show g.P = .tup [.str g.name, .int g.rim, oi g.lo, oi g.hi] from rfl]
    dsimp! []
    refine ⟨by decide, fun r8 n8 => ?_⟩
    have h38 : r3 ≠ r8 := by rintro rfl; rw [e1] at n8; cases n8
    rw [zSeq_x]
    dsimp! []
    refine c_places (by omega) hl hz hb fun pl h2 npl k2 epl => ?_
    have d2 : DS a ns s h2 := by
      obtain ⟨y1, y2, j1, j2, j3, y3⟩ := d1.new n8 (o := .lst [])
      exact ⟨y1, k2 _ _ (by simp) y2, j1, j2, j3, k2 _ _ (by simp) y3⟩
    have e2 : h2 r3 = some (.lst (fs.map fun f => .tup (f.map fpP))) := k2 _ _ (by simp) (keep_new n8 _ _ e1)
    have e8 : h2 r8 = some (.lst []) := k2 _ _ (by simp) up_same
    have kk2 : Kp [s] h h2 := (k1.new n8).trans fun b o _ e => k2 b o (by simp) e
    have h8s : r8 ≠ s := d1.ne n8
    have h8a : r8 ≠ a := d1.nea n8
    have hpls : pl ≠ s := by
      rintro rfl
      obtain ⟨_, _, i, c, n, es⟩ := d1.new n8 (o := .lst [])
      rw [npl] at es; cases es
    have h8p : pl ≠ r8 := by rintro rfl; rw [up_same] at npl; cases npl
    have h3p : pl ≠ r3 := by rintro rfl; rw [up_ne h38, e1] at npl; cases npl
    have n8h : h r8 = none := by
      cases e : h r8 with
      | none => rfl
      | some o => have := k1 r8 o (by simpa using h8s) e; rw [n8] at this; cases this
    dsimp! [epl]
    refine forW_L (ps := (places sz).map tI) (fun j ρ' h' => ∃ (f : List Fp) (x9 x10 : Option PV), ρ' = [some (.ref s), some (TP ov gs rs hd), some (tI sz), some (.ref r3), some (.str g.name), some (.int g.rim), some (oi g.lo), some (oi g.hi), some (.ref r8), x9, x10] ∧ f.length ≤ j ∧ (f.map Prod.fst).Sublist ((places sz).take j) ∧
      (∀ a ∈ f, g.bnd a.2) ∧ DS a ns s h' ∧ Kp [s, r8] h2 h' ∧ h' r8 = some (.lst (f.map fpP))) ⟨[], x9, x10, rfl, Nat.le_refl _, List.Sublist.refl _, by simp, d2, Kp.refl _ _, e8⟩
      (fun j _ h' _ ⟨_, _, _, _, _, _, _, _, kx, _⟩ => kx _ _ (by simp [hpls, h8p]) epl) ?_ ?_
    · rintro j _ h4 v ev ⟨f, x9, x10, rfl, lf4, sb, nm, d4, k4, e4⟩
      rw [List.getElem?_map] at ev
      obtain ⟨p, ep, rfl⟩ := Option.map_eq_some_iff.mp ev
      have hj : j < (places sz).length := (List.getElem?_eq_some_iff.mp ep).1
      have hpl := hb sz.length
      rw [List.take_length] at hpl
      have sb' : (f.map Prod.fst).Sublist ((places sz).take (j + 1)) := sb.trans (List.take_sublist_take_left (by omega))
      dsimp! []
      refine c_draw (by omega) d4 (by omega) (by omega) fun v h5 v0 v1 d5 f5 => ?_
      have e5 : h5 r8 = some (.lst (f.map fpP)) := (f5 r8 (by simpa using h8s)).trans e4
      have k5 : Kp [s, r8] h2 h5 := k4.trans fun b o n e => (f5 b (by simp at n ⊢; exact n.1)).trans e
      dsimp! []
      by_cases hv : v = 0
      · dsimp! [hv]
        refine c_draw (by omega) d5 (by omega) (by omega) fun v' h6 v0 v1 d6 f6 => ?_
        have e6 : h6 r8 = some (.lst (f.map fpP)) := (f6 r8 (by simpa using h8s)).trans e5
        have k6 : Kp [s, r8] h2 h6 := k5.trans fun b o n e => (f6 b (by simp at n ⊢; exact n.1)).trans e
        obtain ⟨okn, r0, r1, bl, bu⟩ := hg
        have fin : ∀ z : Int, g.bnd z → ∃ h7, G.Sub h7 (up h6 r8 (.lst (f.map fpP ++ [.tup [tI p, .int z]]))) ∧ ∃ (f : List Fp) (x9 x10 : Option PV), [some (.ref s), some (TP ov gs rs hd), some (tI sz), some (.ref r3), some (.str g.name), some (.int g.rim), some (oi g.lo), some (oi g.hi), some (.ref r8), some (tI p), some (.int z)] = [some (.ref s), some (TP ov gs rs hd), some (tI sz), some (.ref r3), some (.str g.name), some (.int g.rim), some (oi g.lo), some (oi g.hi), some (.ref r8), x9, x10] ∧ f.length ≤ j + 1 ∧ (f.map Prod.fst).Sublist ((places sz).take (j + 1)) ∧
          (∀ a ∈ f, g.bnd a.2) ∧ DS a ns s h7 ∧ Kp [s, r8] h2 h7 ∧ h7 r8 = some (.lst (f.map fpP)) := fun z zb =>
          ⟨_, G.Sub.refl _, f ++ [(p, z)], _, _, rfl, by simp; omega, by rw [List.map_append, List.take_add_one, ep]; exact List.Sublist.append sb (List.Sublist.refl _), fun b hb => by
            rcases List.mem_append.mp hb with hb | hb
            · exact nm b hb
            · rw [List.mem_singleton.mp hb]; exact zb, d6.put h8a h8s, k6.put (by simp), by rw [up_same, List.map_append]; rfl⟩
        dsimp! []
        rw [zSeq_x]
        dsimp! [oi_ne]
        cases hlo : g.lo with
        | none =>
          dsimp! [Option.isSome_none]
          rw [zSeq_x]
          dsimp! [oi_ne]
          cases hhi : g.hi with
          | none =>
            dsimp! [Option.isSome_none, e6]
            rw [hlo, hhi] at fin
            repeat (refine ⟨by decide, ?_⟩)
            exact ⟨by rw [sizeLine_eq, List.length_map]; omega, fin _ (Giv.bnd_mk (fun l e => by rw [hlo] at e; cases e) (fun u e => by rw [hhi] at e; cases e) (by omega) (by omega))⟩
          | some u =>
            have := bu u hhi
            dsimp! [Option.isSome_some, show oi (some u) = PV.int u from rfl, e6]
            rw [hlo, hhi] at fin
            repeat (refine ⟨by decide, ?_⟩)
            exact ⟨by rw [sizeLine_eq, List.length_map]; omega, fin _ (Giv.bnd_mk (fun l e => by rw [hlo] at e; cases e) (fun u' e => by rw [hhi] at e; cases e; split <;> omega) (by split <;> omega) (by split <;> omega))⟩
        | some l =>
          have := bl l hlo
          dsimp! [Option.isSome_some, show oi (some l) = PV.int l from rfl]
          rw [zSeq_x]
          dsimp! [oi_ne]
          cases hhi : g.hi with
          | none =>
            dsimp! [Option.isSome_none, e6]
            rw [hlo, hhi] at fin
            repeat (refine ⟨by decide, ?_⟩)
            exact ⟨by rw [sizeLine_eq, List.length_map]; omega, fin _ (Giv.bnd_mk (fun l' e => by rw [hlo] at e; cases e; split <;> omega) (fun u e => by rw [hhi] at e; cases e) (by split <;> omega) (by split <;> omega))⟩
          | some u =>
            have := bu u hhi
            dsimp! [Option.isSome_some, show oi (some u) = PV.int u from rfl, e6]
            rw [hlo, hhi] at fin
            repeat (refine ⟨by decide, ?_⟩)
            exact ⟨by rw [sizeLine_eq, List.length_map]; omega, fin _ (Giv.bnd_mk (fun l' e => by rw [hlo] at e; cases e; split <;> split <;> omega) (fun u' e => by rw [hhi] at e; cases e; split <;> omega) (by split <;> split <;> omega) (by split <;> split <;> omega))⟩
      · dsimp! [hv]
        exact ⟨h5, G.Sub.refl _, f, _, _, rfl, by omega, sb', nm, d5, k5, e5⟩
    · rintro _ h4 ⟨f, x9, x10, rfl, lf4, sb, nm, d4, k4, e4⟩
      rw [List.length_map, List.take_length] at sb
      have e3 : h4 r3 = some (.lst (fs.map fun f => .tup (f.map fpP))) := k4 _ _ (by simp [h3s, h38]) e2
      dsimp! [e4, e3]
      refine ⟨by rw [sizeLine_eq, List.length_map]; omega, _, G.Sub.refl _, fs ++ [f], _, _, _, _, _, _, _, rfl, by simp [lf], fun j g' f' eg' ef' => ?_, d4.put h3a h3s, ?_, by rw [up_same, List.map_append]; rfl⟩
      · rcases Nat.lt_trichotomy j fs.length with hj | hj | hj
        · rw [List.getElem?_append_left hj] at ef'
          exact okf j g' f' eg' ef'
        · subst hj
          rw [lf] at eg'
          rw [eg] at eg'
          rw [List.getElem?_append_right (Nat.le_refl _)] at ef'
          simp at ef'
          cases eg'; subst ef'
          exact ⟨sb, nm⟩
        · rw [List.getElem?_eq_none (by simp; omega)] at ef'; cases ef'
      · have kk4 : Kp [s] h h4 := fun b o n e => k4 b o (by
          simp only [List.mem_cons, List.not_mem_nil, or_false, not_or] at n ⊢
          exact ⟨n, by rintro rfl; rw [n8h] at e; cases e⟩) (kk2 b o n e)
        exact kk4.put0 n3
  · rintro _ h1 ⟨fs, x4, x5, x6, x7, x8, x9, x10, rfl, lf, okf, d1, k1, e1⟩
    rw [List.length_map] at lf
    dsimp! [e1]
    exact d.out d1 k1 fun h2 x y => q fs h2 lf okf x y

/-! ### tables in a chain -/
def ChF (names : List (List Nat)) (many : Nat) (x : List Nat) (os : List Int) : Prop := x ∈ names ∧ os.length = many ∧ (∀ o ∈ os, -2 ≤ o ∧ o ≤ 2) ∧ ∃ o r, os = o :: r ∧ o ≤ -1
structure ChT (over : List (List Nat)) (gs : List Giv) (rs : List Row) (d : Nat) : Prop where
  many : 1 ≤ over.length ∧ over.length ≤ 2
  nd : Nd gs rs
  ok : ∀ x ∈ gs.map Giv.name ++ rs.map Row.name, okS x = true
  lr : 1 ≤ rs.length ∧ rs.length + gs.length ≤ 10
  gok : ∀ g ∈ gs, g.ok
  rok : ∀ r ∈ rs, r.e.dep ≤ d ∧ r.e.Al (ChF (gs.map Giv.name ++ rs.map Row.name) over.length) ∧ r.e.ctrs over.length
theorem WB.kps {W : Wd} {A : Wa} {s a : Addr} {h h' : PH} {kvs : List (PV × PV)} (o : A.ok s a) (w : WB W A h kvs) (k : Kp [s] h h') : WB W A h' kvs :=
  ⟨k _ _ (by simpa using o.w.1) w.dic, w.len, w.many, w.most, w.rule, w.given, k _ _ (by simpa using o.r.1) w.rl, k _ _ (by simpa using o.g.1) w.gl, w.over, w.row.1, fun row h => by
    have r := w.row.2 row h
    obtain ⟨nk, n1, n2⟩ := r.dic
    exact ⟨r.at_, k _ _ (by simpa using o.row.1) r.lst, r.len, r.nat, ⟨nk, k _ _ (by simpa using o.nums.1) n1, n2⟩, r.least⟩⟩
theorem c_chain_table {k : Nat} (hk : 6 ≤ k) {a s : Addr} {ns : List Int} {h : PH} {Q : QV} (d : DS a ns s h)
    (q : ∀ (over : List (List Nat)) (gs : List Giv) (rs : List Row) h', ChT over gs rs 2 → isort ((rs.map Row.name).map .str) = (rs.map Row.name).map .str → (∀ x ∈ gs.map Giv.name ++ rs.map Row.name, 95 ∉ x) → rs.length + gs.length ≤ 6 → DS a ns s h' → G.Fr [s] h h' → Q (TP (.tup (over.map .str)) gs rs (.tup [])) h') :
    (wC k)._law_chain_table [.ref s] h Q := by
  obtain ⟨k, rfl⟩ : ∃ j, k = j + 1 := ⟨k - 1, by omega⟩
  show zFn _ _ (b__law_chain_table (wC k)) _ h Q
  unfold b__law_chain_table
  have kz : ∀ z, keyOk false (.str z) = true := fun _ => rfl
  dsimp! []
  refine c_draw (by omega) d (by omega) (by omega) fun x1 h1 a0 a1 d1 f1 => ?_
  dsimp! []
  refine c_draw (by omega) d1 (by omega) (by omega) fun x2 h2 b0 b1 d2 f2 => ?_
  dsimp! []
  refine c_draw (by omega) d2 (by omega) (by omega) fun x3 h3 c0 c1 d3 f3 => ?_
  dsimp! []
  obtain ⟨m, hm⟩ : ∃ m : Nat, 1 + x1 = (m : Int) := ⟨(1 + x1).toNat, by omega⟩
  obtain ⟨r, hr⟩ : ∃ m : Nat, 2 + x2 = (m : Int) := ⟨(2 + x2).toNat, by omega⟩
  obtain ⟨g, hg⟩ : ∃ m : Nat, 1 + x3 = (m : Int) := ⟨(1 + x3).toNat, by omega⟩
  rw [hm, hr, hg]
  refine c_table_world2 (by omega) d3 (by omega) (by omega) (by omega) fun over rn gn A kvs h4 l1 l2 l3 nd ok d4 w4 o hl k4 nw srt nou => ?_
  have k34 : Kp [s] h h4 := ((f1.kp.trans f2.kp).trans f3.kp).trans k4
  have okR : ∀ x ∈ gn ++ rn, okS x = true := fun x hx => ok x (by simp at hx ⊢; rcases hx with hx | hx <;> simp [hx])
  have nouR : ∀ x ∈ gn ++ rn, 95 ∉ x := fun x hx => nou x (by simp at hx ⊢; rcases hx with hx | hx <;> simp [hx])
  have ndR : (gn ++ rn).Nodup := by
    have := (List.nodup_append.mp nd).2.1
    exact (List.perm_append_comm.nodup_iff).mp this
  dsimp! []
  refine ⟨by decide, fun rl nrl => ?_⟩
  have rls : rl ≠ s := d4.ne nrl
  have rla : rl ≠ a := d4.nea nrl
  have rlw : rl ≠ A.w := by rintro rfl; rw [w4.dic] at nrl; cases nrl
  have w5 := w4.put nrl (x := .lst [])
  have d5 := d4.new nrl (o := .lst [])
  have k5 := k34.new nrl (o := .lst [])
  have e5 : up h4 rl (.lst []) rl = some (.lst []) := up_same
  have nrh : h rl = none := by
    cases e : h rl with
    | none => rfl
    | some o' => have := k34 rl o' (by simpa using rls) e; rw [nrl] at this; cases this
  generalize up h4 rl (.lst []) = h5 at w5 d5 k5 e5
  refine zSeq_key (fun ρ' h' => ∃ (rs : List Row) (x3 x4 x5 x6 x7 : Option PV), ρ' = [some (.ref s), some (.ref A.w), some (.ref rl), x3, x4, x5, x6, x7, none] ∧ rs.map Row.name = rn ∧ (∀ r ∈ rs, r.e.dep ≤ 2 ∧ r.e.Al (ChF (gn ++ rn) m) ∧ r.e.ctrs m) ∧ DS a ns s h' ∧ Kp [s] h h' ∧ h' rl = some (.lst (rs.map Row.P)) ∧ WB ⟨over, m, rn, gn, 2, none, fun _ => 0, 0, []⟩ A h' kvs) ?_ fun X fx => ?_
  · rintro _ h6 ⟨rs, x3, x4, x5, x6, x7, rfl, n6, r6, d6, k6, e6, w6⟩
    dsimp! [w6.dic, kz, w6.given, w6.gl]
    refine c_given_rows (k := k + 1) (by omega) (fun x hx => okR x (List.mem_append_left _ hx)) (by omega) o.g.1 d6 w6.gl rfl (fun x h' R y => ?_) fun gs h7 gn7 go7 d7 f7 => ?_
    · dsimp! []
      exact y
    · intro D nD
      have rD : rl ≠ D := by rintro rfl; rw [f7 _ (by simpa using rls), e6] at nD; cases nD
      have wD : A.w ≠ D := by rintro rfl; rw [f7 _ (by simpa using o.w.1), w6.dic] at nD; cases nD
      dsimp! [up_ne wD, f7 _ (show A.w ∉ [s] by simpa using o.w.1), w6.dic, kz, w6.over, up_ne rD, f7 _ (show rl ∉ [s] by simpa using rls), e6]
      refine ⟨by decide, by decide, d.out (d7.new nD) ((k6.trans f7.kp).new nD) fun h8 y1 y2 => ?_⟩
      have elr : rs.length = r := by have := congrArg List.length n6; rw [List.length_map] at this; omega
      have elg : gs.length = g := by have := congrArg List.length gn7; rw [List.length_map] at this; omega
      refine q over gs rs h8 ⟨by omega, by show (gs.map Giv.name ++ rs.map Row.name).Nodup; rw [gn7, n6]; exact ndR, by rw [gn7, n6]; exact okR, by omega, go7, by rw [gn7, n6]; rw [l1]; exact r6⟩ (by rw [n6]; exact srt) (by rw [gn7, n6]; exact nouR) (by omega) y1 y2
  dsimp! [w5.dic, kz, w5.rule, w5.rl]
  refine ⟨by rw [List.length_map]; omega, by rw [List.length_map]; omega, ?_⟩
  refine forW_R (fun i ρ' h' => ∃ (rs : List Row) (x3 x4 x5 x6 x7 : Option PV), ρ' = [some (.ref s), some (.ref A.w), some (.ref rl), x3, x4, x5, x6, x7, none] ∧ rs.map Row.name = rn.take i ∧ (∀ r ∈ rs, r.e.dep ≤ 2 ∧ r.e.Al (ChF (gn ++ rn) m) ∧ r.e.ctrs m) ∧ DS a ns s h' ∧ Kp [s] h h' ∧ h' rl = some (.lst (rs.map Row.P)) ∧ WB ⟨over, m, rn, gn, 2, none, fun _ => 0, 0, []⟩ A h' kvs)
    ⟨[], none, none, none, none, none, rfl, rfl, by simp, d5, k5, e5, w5⟩ ?_ ?_
  · rintro i _ h6 hi ⟨rs, x3, x4, x5, x6, x7, rfl, n6, r6, d6, k6, e6, w6⟩
    have hi' : i < rn.length := by simpa using hi
    dsimp! []
    refine ⟨by decide, ?_⟩
    dsimp! [w6.dic, kz, w6.rule]
    refine c_draw (by omega) d6 (by omega) (by omega) fun v h7 v0 v1 d7 f7 => ?_
    have w7 := w6.fr o f7
    have e7 : h7 rl = some (.lst (rs.map Row.P)) := (f7 rl (by simpa using rls)).trans e6
    have k7 := k6.trans f7.kp
    dsimp! [w7.rl, cut_to (show (0 : Int) ≤ 0 + (i : Int) + v by omega)]
    intro p1 np1
    have w8 := w7.put np1 (x := .lst ((rn.map PV.str).take ((0 : Int) + (i : Int) + v).toNat))
    have d8 := d7.new np1 (o := .lst ((rn.map PV.str).take ((0 : Int) + (i : Int) + v).toNat))
    have e8 := keep_new np1 (x := .lst ((rn.map PV.str).take ((0 : Int) + (i : Int) + v).toNat)) _ _ e7
    have k8 := k7.new np1 (o := .lst ((rn.map PV.str).take ((0 : Int) + (i : Int) + v).toNat))
    have ep1 : up h7 p1 (.lst ((rn.map PV.str).take ((0 : Int) + (i : Int) + v).toNat)) p1 = some (.lst ((rn.map PV.str).take ((0 : Int) + (i : Int) + v).toNat)) := up_same
    have p1s := d7.ne np1
    generalize up h7 p1 (.lst ((rn.map PV.str).take ((0 : Int) + (i : Int) + v).toNat)) = h8 at w8 d8 e8 k8 ep1
    dsimp! [w8.dic, kz, w8.given]
    refine c_draw (by omega) d8 (by omega) (by omega) fun u h9 u0 u1 d9 f9 => ?_
    have w9 := w8.fr o f9
    have e9 : h9 rl = some (.lst (rs.map Row.P)) := (f9 rl (by simpa using rls)).trans e8
    have k9 := k8.trans f9.kp
    have ep9 := (f9 p1 (by simpa using p1s)).trans ep1
    dsimp! [w9.gl, cut_to u0]
    intro p2 np2
    have h12 : p1 ≠ p2 := by rintro rfl; rw [ep9] at np2; cases np2
    dsimp! [up_ne h12, ep9]
    refine ⟨by rw [List.length_take, List.length_take, List.length_map, List.length_map, sizeLine_eq]; omega, fun p3 np3 => ?_⟩
    have w10 := (w9.put np2 (x := .lst ((gn.map PV.str).take u.toNat))).put np3 (x := .lst ((rn.map PV.str).take ((0 : Int) + (i : Int) + v).toNat ++ (gn.map PV.str).take u.toNat))
    have d10 := (d9.new np2 (o := .lst ((gn.map PV.str).take u.toNat))).new np3 (o := .lst ((rn.map PV.str).take ((0 : Int) + (i : Int) + v).toNat ++ (gn.map PV.str).take u.toNat))
    have e10 := keep_new np3 (x := .lst ((rn.map PV.str).take ((0 : Int) + (i : Int) + v).toNat ++ (gn.map PV.str).take u.toNat)) _ _ (keep_new np2 (x := .lst ((gn.map PV.str).take u.toNat)) _ _ e9)
    have k10 := (k9.new np2 (o := .lst ((gn.map PV.str).take u.toNat))).new np3 (o := .lst ((rn.map PV.str).take ((0 : Int) + (i : Int) + v).toNat ++ (gn.map PV.str).take u.toNat))
    have ep3 : up (up h9 p2 (.lst ((gn.map PV.str).take u.toNat))) p3 (.lst ((rn.map PV.str).take ((0 : Int) + (i : Int) + v).toNat ++ (gn.map PV.str).take u.toNat)) p3 = some (.lst (((rn.take ((0 : Int) + (i : Int) + v).toNat) ++ gn.take u.toNat).map .str)) := by rw [up_same, List.map_append, List.map_take, List.map_take]
    have p3s := (d9.new np2 (o := .lst ((gn.map PV.str).take u.toNat))).ne np3
    generalize up (up h9 p2 (.lst ((gn.map PV.str).take u.toNat))) p3 (.lst ((rn.map PV.str).take ((0 : Int) + (i : Int) + v).toNat ++ (gn.map PV.str).take u.toNat)) = h10 at w10 d10 e10 k10 ep3
    have nms : ∀ x ∈ (rn.take ((0 : Int) + (i : Int) + v).toNat) ++ gn.take u.toNat, x ∈ gn ++ rn := fun x hx => by
      rcases List.mem_append.mp hx with hx | hx
      · exact List.mem_append_right _ (List.mem_of_mem_take hx)
      · exact List.mem_append_left _ (List.mem_of_mem_take hx)
    have lnm : ((rn.take ((0 : Int) + (i : Int) + v).toNat) ++ gn.take u.toNat).length ≤ 100 := by
      rw [List.length_append, List.length_take, List.length_take]; omega
    generalize (rn.take ((0 : Int) + (i : Int) + v).toNat) ++ gn.take u.toNat = L at ep3 nms lnm
    clear w6 e6 k6 d6 w7 e7 k7 d7 f7 w8 e8 k8 d8 f9 w9 e9 k9 d9 np1 np2 np3 ep1 ep9 h12
    rw [zSeq_x]
    dsimp! []
    refine c_shuffled (by omega) (by rw [List.length_map]; omega) d10 ep3 p3s fun ys p4 h11 pm d11 k11 np4 ep4 => ?_
    have p4s : p4 ≠ s := d10.ne np4
    have rl4 : rl ≠ p4 := by rintro rfl; rw [e10] at np4; cases np4
    have w11 := w10.kps o k11
    have e11 : h11 rl = some (.lst (rs.map Row.P)) := k11 _ _ (by simpa using rls) e10
    have kk11 := k10.trans k11
    dsimp! [ep4, cut_to (show (0 : Int) ≤ 2 by omega)]
    intro p5 np5
    have p5s := d11.ne np5
    have ys2 : ∀ y ∈ ys.take (2 : Int).toNat, ∃ x, y = PV.str x ∧ x ∈ gn ++ rn := fun y hy => by
      obtain ⟨x, hx, rfl⟩ := List.mem_map.mp (pm.mem_iff.mp (List.mem_of_mem_take hy))
      exact ⟨x, rfl, nms x hx⟩
    have ly2 : (ys.take (2 : Int).toNat).length ≤ 2 := by rw [List.length_take]; exact Nat.min_le_left _ _
    generalize ys.take (2 : Int).toNat = zs at ys2 ly2 np5 ⊢
    have e12 := keep_new np5 (x := .lst zs) _ _ e11
    have d12 := d11.new np5 (o := .lst zs)
    have w12 := w11.put np5 (x := .lst zs)
    have k12 := kk11.new np5 (o := .lst zs)
    have ep5 : up h11 p5 (.lst zs) p5 = some (.lst zs) := up_same
    generalize up h11 p5 (.lst zs) = h12 at e12 d12 w12 k12 ep5
    clear np5 e11 d11 w11 kk11 ep4 k11 e10 d10 w10 k10 ep3
    refine forW_L (ps := zs) (fun j ρ' h' => ∃ (e : Ex) (x6 x7 : Option PV), ρ' = [some (.ref s), some (.ref A.w), some (.ref rl), some (.int ((0 : Int) + (i : Nat))), some e.P, some (.ref p3), x6, x7, none] ∧ (e.dep ≤ j ∧ e.Al (ChF (gn ++ rn) m) ∧ e.ctrs m) ∧ DS a ns s h' ∧ Kp [s] h12 h') ⟨.ctr 0, x6, x7, rfl, ⟨Nat.le_refl _, by simp [Ex.Al], by simp [Ex.ctrs]; omega⟩, d12, Kp.refl _ _⟩ (fun j _ h' _ ⟨_, _, _, _, _, _, kx⟩ => kx _ _ (by simpa using p5s) ep5) ?_ ?_
    · rintro j _ h13 y ey ⟨e, x6, x7, rfl, ⟨g1, g2, g3⟩, d13, k13⟩
      obtain ⟨x, rfl, hx⟩ := ys2 y (List.mem_of_getElem? ey)
      have w13 := w12.kps o k13
      dsimp! []
      refine c_draw (by omega) d13 (by omega) (by omega) fun v' h14 v0 v1 d14 f14 => ?_
      have w14 := w13.fr o f14
      dsimp! [w14.dic, kz, w14.many]
      rw [show (m : Int) - 1 = ((m - 1 : Nat) : Int) by omega]
      refine ⟨by decide, c_offsets (by omega) d14 (by omega) (by omega) (by omega) fun os h15 lo bo d15 f15 => ?_⟩
      dsimp! [List.length_map]
      refine ⟨by rw [sizeLine_eq]; omega, by decide, fun p6 np6 => ?_⟩
      refine c_draw (by omega) (d15.new np6) (by omega) (by omega) fun u' h16 u0 u1 d16 f16 => ?_
      have ep6 : h16 p6 = some (.lst [(PV.str [112, 108, 117, 115]), (PV.str [109, 105, 110, 117, 115]), (PV.str [103, 114, 101, 97, 116, 101, 115, 116])]) := (f16 p6 (by simpa using d15.ne np6)).trans up_same
      obtain ⟨op, eo⟩ : ∃ o : Op2, atI [(PV.str [112, 108, 117, 115]), (PV.str [109, 105, 110, 117, 115]), (PV.str [103, 114, 101, 97, 116, 101, 115, 116])] u' = some (.str o.cs) := by
        rcases (show u' = 0 ∨ u' = 1 ∨ u' = 2 by omega) with rfl | rfl | rfl
        · exact ⟨.plus, by rw [at0]; rfl⟩
        · exact ⟨.minus, by rw [at1]; rfl⟩
        · exact ⟨.greatest, by rw [at2]; rfl⟩
      dsimp! [ep6, eo]
      refine ⟨by decide, by decide, h16, G.Sub.refl _, .bin op e (.cell x ((-1 - v') :: os)), _, _, rfl, ⟨by simp only [Ex.dep]; omega, ⟨g2, hx, by simp; omega, fun z hz => ?_, _, _, rfl, by omega⟩, g3, trivial⟩, d16, ((k13.trans f14.kp).trans f15.kp).trans ((kp_new np6).trans f16.kp)⟩
      rcases List.mem_cons.mp hz with rfl | hz
      · omega
      · have := bo z hz; omega
    · rintro _ h13 ⟨e, x6, x7, rfl, ⟨g1, g2, g3⟩, d13, k13⟩
      have w13 := w12.kps o k13
      have e13 : h13 rl = some (.lst (rs.map Row.P)) := k13 _ _ (by simpa using rls) e12
      have nmi : atI (rn.map PV.str) ((0 : Int) + (i : Nat)) = some (.str rn[i]) := by rw [Int.zero_add, atN, List.getElem?_map, List.getElem?_eq_getElem hi']; rfl
      have lrs : rs.length ≤ 10 := by have := congrArg List.length n6; rw [List.length_map, List.length_take] at this; omega
      dsimp! [w13.dic, kz, w13.rule, w13.rl, nmi, e13]
      refine c_rim (by omega) d13 fun rim h14 d14 f14 q0 q1 => ?_
      have e14 : h14 rl = some (.lst (rs.map Row.P)) := (f14 rl (by simpa using rls)).trans e13
      dsimp! [e14]
      refine ⟨by decide, by rw [sizeLine_eq, List.length_map]; omega, _, G.Sub.refl _, rs ++ [⟨rn[i], rim, e⟩], _, _, _, _, _, rfl, ?_, fun r' hr' => ?_, d14.put rla rls, ((k12.trans k13).trans f14.kp).put0 nrh, by rw [up_same, List.map_append]; rfl, w4.put0 (w13.fr o f14) nrl⟩
      · rw [List.map_append, n6, List.take_add_one, List.getElem?_eq_getElem hi']; rfl
      · rcases List.mem_append.mp hr' with hr' | hr'
        · exact r6 r' hr'
        · rw [List.mem_singleton.mp hr']
          exact ⟨by show e.dep ≤ 2; omega, g2, g3⟩
  · rintro _ h6 ⟨rs, x3, x4, x5, x6, x7, rfl, n6, r6, d6, k6, e6, w6⟩
    rw [show (((rn.map PV.str).length : Nat) : Int).toNat = rn.length by rw [List.length_map]; omega, List.take_length] at n6
    exact fx _ _ ⟨rs, _, _, _, _, _, rfl, n6, r6, d6, k6, e6, w6⟩

theorem lts_self : ∀ xs : List PV, (PV.lts? xs xs).isSome = true
  | [] => rfl
  | x :: xs => by simp only [PV.lts?, if_true]; exact lts_self xs
theorem lt_str' {x y : List Nat} : (PV.lt? (.str x) (.str y)).isSome = true := rfl
/-- rows sorted by their names -/
theorem sort_rows {R : List Row} (ok : ∀ r ∈ R, RowOk r) (nd : (R.map Row.name).Nodup) : sortOk (R.map Row.P) = true ∧ ∃ rs : List Row, isort (R.map Row.P) = rs.map Row.P ∧ (∀ r ∈ rs, r ∈ R) ∧ (rs.map Row.name).Perm (R.map Row.name) := by
  obtain ⟨h1, h2⟩ := rows_dat ok
  constructor
  · unfold sortOk
    simp only [Bool.and_eq_true, Bool.or_eq_true, decide_eq_true_eq, List.all_eq_true, h1, hdAll]
    refine ⟨⟨⟨trivial, by omega⟩, fun p hp q hq => ?_⟩, ?_⟩
    · obtain ⟨r, hr, rfl⟩ := List.mem_map.mp hp
      obtain ⟨r', hr', rfl⟩ := List.mem_map.mp hq
      by_cases e : r.name = r'.name
      · have := row_one (gs := []) nd hr' hr e
        subst this
        exact lts_self _
      · show (PV.lts? (.str r.name :: _) (.str r'.name :: _)).isSome = true
        simp only [PV.lts?]
        rw [if_neg (by simpa using e)]
        exact lt_str'
    · refine .inl (.inr fun x hx => ?_)
      obtain ⟨r, _, rfl⟩ := List.mem_map.mp hx
      rfl
  · have pm := isort_perm (R.map Row.P)
    have back : ∀ l : List PV, (∀ p ∈ l, p ∈ R.map Row.P) → ∃ rs : List Row, l = rs.map Row.P ∧ ∀ r ∈ rs, r ∈ R := by
      intro l
      induction l with
      | nil => exact fun _ => ⟨[], rfl, by simp⟩
      | cons p l ih =>
        intro h
        obtain ⟨r, hr, rfl⟩ := List.mem_map.mp (h p List.mem_cons_self)
        obtain ⟨rs, rfl, h2⟩ := ih fun x hx => h x (List.mem_cons_of_mem _ hx)
        exact ⟨r :: rs, rfl, fun x hx => by
          rcases List.mem_cons.mp hx with rfl | hx
          · exact hr
          · exact h2 x hx⟩
    obtain ⟨rs, e, sub⟩ := back _ fun p hp => pm.mem_iff.mp hp
    refine ⟨rs, e, sub, ?_⟩
    rw [e] at pm
    have := pm.map nmOf
    rwa [List.map_map, List.map_map] at this
theorem ChF.mono {A B : List (List Nat)} (h : ∀ x ∈ A, x ∈ B) {many : Nat} {x : List Nat} {os : List Int} (c : ChF A many x os) : ChF B many x os := ⟨h x c.1, c.2⟩
theorem ChT.rowOk {over : List (List Nat)} {gs : List Giv} {rs : List Row} {d : Nat} (T : ChT over gs rs d) (hd : d ≤ 9) {r : Row} (hr : r ∈ rs) : RowOk r := by
  obtain ⟨h1, h2, h3⟩ := T.rok r hr
  have hm := T.many
  exact ⟨T.ok _ (List.mem_append_right _ (List.mem_map.mpr ⟨r, hr, rfl⟩)), Ex.Al.mono (fun x os c => ⟨T.ok x c.1, by rw [c.2.1]; omega⟩) h2, by omega⟩
theorem set_names {rs : List Row} {i : Nat} {r r' : Row} (h : rs[i]? = some r) (e : r'.name = r.name) : (rs.set i r').map Row.name = rs.map Row.name := by
  apply List.ext_getElem?
  intro j
  rw [List.map_set]
  by_cases hj : i = j
  · subst hj
    rw [List.getElem?_set_self (by simpa using (List.getElem?_eq_some_iff.mp h).1), List.getElem?_map, h, e]; rfl
  · rw [List.getElem?_set_ne hj]
/-- another expression or rim in a row -/
theorem ChT.set {over : List (List Nat)} {gs : List Giv} {rs : List Row} {d : Nat} (T : ChT over gs rs d) {i : Nat} {r r' : Row} (h : rs[i]? = some r) (e : r'.name = r.name) (h' : r'.e.dep ≤ d + 1 ∧ r'.e.Al (ChF (gs.map Giv.name ++ rs.map Row.name) over.length) ∧ r'.e.ctrs over.length) : ChT over gs (rs.set i r') (d + 1) := by
  have en := set_names h e
  refine ⟨T.many, by show (gs.map Giv.name ++ (rs.set i r').map Row.name).Nodup; rw [en]; exact T.nd, by rw [en]; exact T.ok, by rw [List.length_set]; exact T.lr, T.gok, fun s hs => ?_⟩
  rw [en]
  rcases List.mem_or_eq_of_mem_set hs with hs | rfl
  · obtain ⟨a, b, c⟩ := T.rok s hs
    exact ⟨by omega, b, c⟩
  · exact h'
theorem ChT.up {over : List (List Nat)} {gs : List Giv} {rs : List Row} {d : Nat} (T : ChT over gs rs d) : ChT over gs rs (d + 1) :=
  ⟨T.many, T.nd, T.ok, T.lr, T.gok, fun r hr => by obtain ⟨a, b, c⟩ := T.rok r hr; exact ⟨by omega, b, c⟩⟩
def Tch (gs gs' : List Giv) : Prop := gs'.map Giv.name = gs.map Giv.name ∧ gs'.map Giv.rim = gs.map Giv.rim
def zzz : List Nat := [122, 122, 95, 122]
theorem c_touched_table {k d : Nat} (hk : 14 ≤ k) (hd : d ≤ 4) {a s : Addr} {ns : List Int} {over : List (List Nat)} {gs : List Giv} {rs : List Row} {hv : PV} (T : ChT over gs rs d) (l9 : rs.length + gs.length ≤ 9) (nz : ∀ x ∈ gs.map Giv.name, 95 ∉ x) {h : PH} {Q : QV} (ds : DS a ns s h)
    (q : ∀ gs' rs' h', ChT over gs' rs' (d + 1) → Tch gs gs' → rs'.length ≤ rs.length + 1 → DS a ns s h' → G.Fr [s] h h' → Q (TP (.tup (over.map .str)) gs' rs' hv) h') :
    (wC k)._law_touched_table [.ref s, TP (.tup (over.map .str)) gs rs hv] h Q := by
  obtain ⟨k, rfl⟩ : ∃ j, k = j + 1 := ⟨k - 1, by omega⟩
  show zFn _ _ (b__law_touched_table (wC k)) _ h Q
  unfold b__law_touched_table
  have lr := T.lr
  dsimp! []
  refine c_draw (by omega) ds (by omega) (by omega) fun pick h1 a0 a1 d1 f1 => ?_
  dsimp! []
  intro r3 n3
  have r3s := d1.ne n3
  dsimp! []
  intro r4 n4
  have h34 : r3 ≠ r4 := by rintro rfl; rw [up_same] at n4; cases n4
  have d2 := (d1.new n3 (o := .lst (rs.map Row.P)))
  have r4s := d2.ne n4
  dsimp! [up_ne h34, List.length_map]
  refine c_draw (by omega) (d2.new n4) (by omega) (by omega) fun at_ h2 b0 b1 d3 f3 => ?_
  obtain ⟨i, rfl⟩ : ∃ i : Nat, at_ = (i : Int) := ⟨at_.toNat, by omega⟩
  have hi : i < rs.length := by omega
  have k3 : Kp [s] h h2 := ((f1.kp.new n3).new n4).trans f3.kp
  have e3 : h2 r3 = some (.lst (rs.map Row.P)) := by rw [f3 r3 (by simpa using r3s), up_ne h34, up_same]
  have e4 : h2 r4 = some (.lst (gs.map Giv.P)) := by rw [f3 r4 (by simpa using r4s), up_same]
  have n3h : h r3 = none := by
    have := f1 r3 (by simpa using r3s); rw [n3] at this; exact this.symm
  have n4h : h r4 = none := by
    rw [up_ne h34.symm] at n4
    have := f1 r4 (by simpa using r4s); rw [n4] at this; exact this.symm
  have r3a : r3 ≠ a := d1.nea n3
  have r4a : r4 ≠ a := d2.nea n4
  have er : rs[i]? = some rs[i] := List.getElem?_eq_getElem hi
  have mr : rs[i] ∈ rs := List.getElem_mem hi
  generalize rs[i] = r at er mr
  have erP : atI (rs.map Row.P) (i : Int) = some (.tup [.str r.name, .int r.rim, r.e.P]) := by rw [atN, List.getElem?_map, er]; rfl
  have ixi : ixN (rs.map Row.P).length (i : Int) = some i := ixN_n (by rw [List.length_map]; exact hi)
  obtain ⟨x1, x2, x3⟩ := T.rok r mr
  have okr := T.rowOk (by omega) mr
  clear f1 f3 n3 n4 d1 d2 h1
  rw [e3, zIxO_l]
  refine ⟨_, erP, ?_⟩
  rw [zgTup_t]
  refine ⟨rfl, ?_⟩
  rw [zgCons_c, zgName_x, zgCons_c, zgName_x]
  rw [zgCons_c, zgName_x, zgNil_n]
  rw [show ∀ (b c : Option PV), (((([some (.ref s), some (TP (.tup (over.map .str)) gs rs hv), some (.int pick), some (.ref r3), some (.ref r4), some (.int (i : Nat)), none, none, none, b, c] : Ev).set 6 (some (.str r.name))).set 7 (some (.int r.rim))).set 8 (some r.e.P)) = [some (.ref s), some (TP (.tup (over.map .str)) gs rs hv), some (.int pick), some (.ref r3), some (.ref r4), some (.int (i : Nat)), some (.str r.name), some (.int r.rim), some r.e.P, b, c] from fun _ _ => rfl]
  refine zSeq_key (fun ρ' h' => ∃ (gs' : List Giv) (rs' : List Row) (l3 : Addr) (y9 y10 : Option PV), ρ' = [some (.ref s), some (TP (.tup (over.map .str)) gs rs hv), some (.int pick), some (.ref l3), some (.ref r4), some (.int (i : Nat)), some (.str r.name), some (.int r.rim), some r.e.P, y9, y10] ∧ ChT over gs' rs' (d + 1) ∧ Tch gs gs' ∧ rs'.length ≤ rs.length + 1 ∧ DS a ns s h' ∧ Kp [s] h h' ∧ h' l3 = some (.lst (rs'.map Row.P)) ∧ h' r4 = some (.lst (gs'.map Giv.P))) ?_ fun X fx => ?_
  · rintro _ h4 ⟨gs', rs', l3, y9, y10, rfl, t1, t2, t3, d4, k4, g3, g4⟩
    dsimp! [g4, g3]
    exact ⟨by decide, ds.out d4 k4 fun h5 u v => q gs' rs' h5 t1 t2 t3 u v⟩
  have setR : ∀ (r' : Row) (y9 y10 : Option PV) (h6 : PH), r'.name = r.name → (r'.e.dep ≤ d + 1 ∧ r'.e.Al (ChF (gs.map Giv.name ++ rs.map Row.name) over.length) ∧ r'.e.ctrs over.length) → DS a ns s h6 → Kp [s] h h6 → h6 r4 = some (.lst (gs.map Giv.P)) →
      X [some (.ref s), some (TP (.tup (over.map .str)) gs rs hv), some (.int pick), some (.ref r3), some (.ref r4), some (.int (i : Nat)), some (.str r.name), some (.int r.rim), some r.e.P, y9, y10] (up h6 r3 (.lst ((rs.map Row.P).set i r'.P))) := fun r' y9 y10 h6 en ce d6 k6 g4 =>
    fx _ _ ⟨gs, rs.set i r', r3, y9, y10, rfl, T.set er en ce, ⟨rfl, rfl⟩, by rw [List.length_set]; omega, d6.put r3a r3s, k6.put0 n3h, by rw [up_same, List.map_set], by rw [up_ne h34.symm]; exact g4⟩
  dsimp! []
  by_cases p0 : pick = 0
  · dsimp! [p0, e3, ixi]
    rw [p0] at setR
    exact ⟨by decide, setR ⟨r.name, r.rim + 1, r.e⟩ _ _ h2 rfl ⟨by show r.e.dep ≤ d + 1; omega, x2, x3⟩ d3 k3 e4⟩
  by_cases p1 : pick = 1
  · dsimp! [p1]
    refine c_draw (by omega) d3 (by omega) (by omega) fun v h6 v0 v1 d6 f6 => ?_
    have g3 := (f6 r3 (by simpa using r3s)).trans e3
    have g4 := (f6 r4 (by simpa using r4s)).trans e4
    dsimp! [g3, ixi]
    rw [p1] at setR
    exact ⟨by decide, by decide, setR ⟨r.name, r.rim, .num v⟩ _ _ h6 rfl ⟨by simp [Ex.dep], ⟨by omega, by omega⟩, trivial⟩ d6 (k3.trans f6.kp) g4⟩
  have lst4 : ∀ h6 : PH, h6 r4 = some (.lst (gs.map Giv.P)) → ∀ p, h6 p = none → r4 ≠ p := fun h6 e p np => by rintro rfl; rw [e] at np; cases np
  have lst3 : ∀ h6 : PH, h6 r3 = some (.lst (rs.map Row.P)) → ∀ p, h6 p = none → r3 ≠ p := fun h6 e p np => by rintro rfl; rw [e] at np; cases np
  have stay : ∀ (y9 y10 : Option PV) (h6 : PH), DS a ns s h6 → Kp [s] h h6 → h6 r3 = some (.lst (rs.map Row.P)) → h6 r4 = some (.lst (gs.map Giv.P)) → X [some (.ref s), some (TP (.tup (over.map .str)) gs rs hv), some (.int pick), some (.ref r3), some (.ref r4), some (.int (i : Nat)), some (.str r.name), some (.int r.rim), some r.e.P, y9, y10] h6 := fun y9 y10 h6 d6 k6 g3 g4 =>
    fx _ _ ⟨gs, rs, r3, y9, y10, rfl, T.up, ⟨rfl, rfl⟩, by omega, d6, k6, g3, g4⟩
  have okz : RowOk ⟨zzz, 0, .ctr 0⟩ := ⟨by decide, ⟨by decide, by decide⟩, by simp [Ex.dep]⟩
  have tchg : ∀ (j : Nat) (g : Giv), gs[j]? = some g → Tch gs (gs.set j ⟨g.name, g.rim, none, none⟩) ∧ ChT over (gs.set j ⟨g.name, g.rim, none, none⟩) rs (d + 1) := fun j g eg => by
    have hj := (List.getElem?_eq_some_iff.mp eg).1
    have en : (gs.set j ⟨g.name, g.rim, none, none⟩).map Giv.name = gs.map Giv.name := by
      apply List.ext_getElem?
      intro j'
      rw [List.map_set]
      by_cases hj' : j = j'
      · subst hj'
        rw [List.getElem?_set_self (by simpa using hj), List.getElem?_map, eg]; rfl
      · rw [List.getElem?_set_ne hj']
    have em : (gs.set j ⟨g.name, g.rim, none, none⟩).map Giv.rim = gs.map Giv.rim := by
      apply List.ext_getElem?
      intro j'
      rw [List.map_set]
      by_cases hj' : j = j'
      · subst hj'
        rw [List.getElem?_set_self (by simpa using hj), List.getElem?_map, eg]; rfl
      · rw [List.getElem?_set_ne hj']
    refine ⟨⟨en, em⟩, T.many, by show ((gs.set j ⟨g.name, g.rim, none, none⟩).map Giv.name ++ rs.map Row.name).Nodup; rw [en]; exact T.nd, by rw [en]; exact T.ok, by rw [List.length_set]; exact T.lr, fun g' hg' => ?_, fun r hr => ?_⟩
    · rcases List.mem_or_eq_of_mem_set hg' with hg' | rfl
      · exact T.gok g' hg'
      · have := T.gok g (List.mem_of_getElem? eg)
        exact ⟨this.1, this.2.1, this.2.2.1, fun l e => (by cases e), fun l e => (by cases e)⟩
    · rw [en]; exact T.up.rok r hr
  by_cases p2 : pick = 2
  · subst p2
    dsimp! [p0, p1]
    refine ⟨by decide, fun p np => ?_⟩
    have h4p := lst4 _ e4 p np
    have h3p := lst3 _ e3 p np
    have gd := givs_dat (gs := gs) fun g hg => (T.gok g hg).1
    dsimp! [zNot_ok, up_ne h4p, e4]
    refine ⟨gd.1, rfl, by have := gd.2; omega, by decide, ?_⟩
    have d5 := d3.new np (o := .lst [])
    have k5 := k3.new np (o := .lst [])
    have g3 := keep_new np (x := .lst []) _ _ e3
    have g4 := keep_new np (x := .lst []) _ _ e4
    generalize up h2 p (.lst []) = h5 at d5 k5 g3 g4 ⊢
    by_cases hg : gs.map Giv.P = []
    · dsimp! [hg, zNotI_b, Bool.not_true]
      refine ⟨by decide, by decide, by decide, c_read (n := 8) (e := .bin .least r.e (.num 99999)) (by simp only [Ex.dep]; omega) (by omega) ⟨okr.wf, by decide, by decide⟩ (by omega) fun b => ?_⟩
      dsimp! []
      cases b with
      | true =>
        dsimp! [g3, ixi]
        exact setR ⟨r.name, r.rim, .bin .least r.e (.num 99999)⟩ _ _ h5 rfl ⟨by simp only [Ex.dep]; omega, ⟨x2, by decide, by decide⟩, x3, trivial⟩ d5 k5 g4
      | false =>
        dsimp! []
        exact stay _ _ h5 d5 k5 g3 g4
    · dsimp! [hg, zNotI_b, Bool.not_false, g4, List.length_map]
      have lg : 0 < gs.length := List.length_pos_iff.mpr fun e => hg (by rw [e]; rfl)
      refine c_draw (by omega) d5 (by omega) (by omega) fun v h6 v0 v1 d6 f6 => ?_
      obtain ⟨j, rfl⟩ : ∃ j : Nat, v = (j : Int) := ⟨v.toNat, by omega⟩
      have hj : j < gs.length := by omega
      have g3' := (f6 r3 (by simpa using r3s)).trans g3
      have g4' := (f6 r4 (by simpa using r4s)).trans g4
      have eg : gs[j]? = some gs[j] := List.getElem?_eq_getElem hj
      generalize gs[j] = g at eg
      have egP : atI (gs.map Giv.P) (j : Int) = some (.tup [.str g.name, .int g.rim, oi g.lo, oi g.hi]) := by rw [atN, List.getElem?_map, eg]; rfl
      have ixj : ixN (gs.map Giv.P).length (j : Int) = some j := ixN_n (by rw [List.length_map]; exact hj)
      dsimp! [g4', egP, ixj]
      obtain ⟨t1, t2⟩ := tchg j g eg
      refine ⟨by decide, by decide, by decide, fx _ _ ⟨_, rs, r3, _, _, rfl, t2, t1, by omega, d6.put r4a r4s, (k5.trans f6.kp).put0 n4h, by rw [up_ne h34]; exact g3', by rw [up_same, List.map_set]; rfl⟩⟩
  by_cases p3 : pick = 3
  · subst p3
    dsimp! [p0, p1, p2, e3]
    refine lcP_L (ps := rs.map Row.P) (fun _ => true) hdP (by rw [sizeLine_eq, List.length_map]; omega) e3 (fun p hp R acc r' => ?_) ?_
    · obtain ⟨r0, _, rfl⟩ := List.mem_map.mp hp
      rw [show r0.P = .tup [.str r0.name, .int r0.rim, r0.e.P] from rfl] at r' ⊢
      dsimp! []
      simpa [hdP] using r'
    intro D nD
    have en : ((rs.map Row.P).filter fun _ => true).map hdP = (rs.map Row.name).map .str := by
      rw [List.filter_eq_self.mpr (by simp), List.map_map, List.map_map]; rfl
    rw [en]
    have okn := pls_strs (l := rs.map Row.name) fun x hx => T.ok x (List.mem_append_right _ hx)
    refine ⟨by decide, by decide, okn.1, by have := okn.2; omega, ?_⟩
    have d5 := d3.new nD (o := .lst ((rs.map Row.name).map .str))
    have k5 := k3.new nD (o := .lst ((rs.map Row.name).map .str))
    have g3 := keep_new nD (x := .lst ((rs.map Row.name).map .str)) _ _ e3
    have g4 := keep_new nD (x := .lst ((rs.map Row.name).map .str)) _ _ e4
    generalize up h2 D (.lst ((rs.map Row.name).map .str)) = h5 at d5 k5 g3 g4 ⊢
    by_cases hz : zzz ∈ rs.map Row.name
    · have hz' : (PV.str [122, 122, 95, 122]) ∈ (rs.map Row.name).map .str := names_in.mpr hz
      dsimp! [hz', Bool.not_true]
      exact stay _ _ h5 d5 k5 g3 g4
    · have hz' : ¬ (PV.str [122, 122, 95, 122]) ∈ (rs.map Row.name).map .str := fun z => hz (names_in.mp z)
      dsimp! [hz', Bool.not_false]
      refine ⟨by decide, by decide, by decide, fun p np => ?_⟩
      have h3p := lst3 _ g3 p np
      have h4p := lst4 _ g4 p np
      dsimp! [up_ne h3p, g3]
      refine ⟨by rw [sizeLine_eq, List.length_map]; omega, fun p7 np7 => ?_⟩
      have nd' : ((rs ++ [(⟨zzz, 0, .ctr 0⟩ : Row)]).map Row.name).Nodup := by
        rw [List.map_append, List.nodup_append]
        exact ⟨(List.nodup_append.mp T.nd).2.1, by simp, fun x hx y hy => by simp at hy; subst hy; rintro rfl; exact hz hx⟩
      obtain ⟨so, rs', e', sub, pmn⟩ := sort_rows (R := rs ++ [(⟨zzz, 0, .ctr 0⟩ : Row)]) (fun r hr => by
        rcases List.mem_append.mp hr with hr | hr
        · exact T.rowOk (by omega) hr
        · rw [List.mem_singleton.mp hr]; exact okz) nd'
      have el : rs.map Row.P ++ [PV.tup [(PV.str [122, 122, 95, 122]), PV.int 0, PV.tup [(PV.str [99, 111, 117, 110, 116, 101, 114]), PV.int 0]]] = (rs ++ [(⟨zzz, 0, .ctr 0⟩ : Row)]).map Row.P := by rw [List.map_append]; rfl
      rw [el]
      dsimp! [so]
      intro p8 np8
      rw [e']
      have lr' : rs'.length = rs.length + 1 := by
        have := pmn.length_eq
        simpa using this
      have k8 := ((k5.new np).new np7).new np8 (o := .lst (rs'.map Row.P))
      have d8 := ((d5.new np).new np7).new np8 (o := .lst (rs'.map Row.P))
      refine fx _ _ ⟨gs, rs', p8, _, _, rfl, ⟨T.many, ?_, fun x hx => ?_, by omega, T.gok, fun r0 hr0 => ?_⟩, ⟨rfl, rfl⟩, by omega, d8, k8, up_same, keep_new np8 _ _ (keep_new np7 _ _ (keep_new np _ _ g4))⟩
      · show (gs.map Giv.name ++ rs'.map Row.name).Nodup
        rw [List.nodup_append]
        refine ⟨(List.nodup_append.mp T.nd).1, pmn.nodup_iff.mpr nd', fun x hx y hy => ?_⟩
        have hy' := pmn.mem_iff.mp hy
        rw [List.map_append] at hy'
        rcases List.mem_append.mp hy' with hy' | hy'
        · exact (List.nodup_append.mp T.nd).2.2 x hx y hy'
        · simp at hy'
          subst hy'
          rintro rfl
          exact nz _ hx (by decide)
      · rcases List.mem_append.mp hx with hx | hx
        · exact T.ok x (List.mem_append_left _ hx)
        · have hx' := pmn.mem_iff.mp hx
          rw [List.map_append] at hx'
          rcases List.mem_append.mp hx' with hx' | hx'
          · exact T.ok x (List.mem_append_right _ hx')
          · simp at hx'; subst hx'; decide
      · have up2 : ∀ x ∈ gs.map Giv.name ++ rs.map Row.name, x ∈ gs.map Giv.name ++ rs'.map Row.name := fun x hx => by
          rcases List.mem_append.mp hx with hx | hx
          · exact List.mem_append_left _ hx
          · exact List.mem_append_right _ (pmn.mem_iff.mpr (by rw [List.map_append]; exact List.mem_append_left _ hx))
        rcases List.mem_append.mp (sub r0 hr0) with hr | hr
        · obtain ⟨a', b', c'⟩ := T.rok r0 hr
          exact ⟨by omega, Ex.Al.mono (fun x os c => c.mono up2) b', c'⟩
        · rw [List.mem_singleton.mp hr]
          have := T.many
          exact ⟨by simp [Ex.dep], ⟨by decide, by decide⟩, by simp only [Ex.ctrs]; omega⟩
  · dsimp! [p0, p1, p2, p3]
    refine ⟨by decide, by decide, by decide, c_read (n := 8) (e := .bin .least r.e (.num 99999)) (by simp only [Ex.dep]; omega) (by omega) ⟨okr.wf, by decide, by decide⟩ (by omega) fun b => ?_⟩
    dsimp! []
    cases b with
    | true =>
      dsimp! [e3, ixi]
      exact setR ⟨r.name, r.rim, .bin .least r.e (.num 99999)⟩ _ _ h2 rfl ⟨by simp only [Ex.dep]; omega, ⟨x2, by decide, by decide⟩, x3, trivial⟩ d3 k3 e4
    | false =>
      dsimp! []
      exact stay _ _ h2 d3 k3 e3 e4

/-! ### the same values in both tables -/
theorem Op2.cs_inj {a b : Op2} (h : a.cs = b.cs) : a = b := by cases a <;> cases b <;> first | rfl | (exact absurd h (by decide))
theorem Sg.cs_inj {a b : Sg} (h : a.cs = b.cs) : a = b := by cases a <;> cases b <;> first | rfl | (exact absurd h (by decide))
theorem ExP_inj : ∀ {e f : Ex}, e.P = f.P → e = f
  | .num a, f, h => by
    cases f with
    | num b => simp [Ex.P] at h; rw [h]
    | bin o _ _ => cases o <;> simp [Ex.P, Op2.cs] at h
    | _ => simp [Ex.P] at h
  | .ctr a, f, h => by
    cases f with
    | ctr b => simp [Ex.P] at h; rw [h]
    | bin o _ _ => cases o <;> simp [Ex.P, Op2.cs] at h
    | _ => simp [Ex.P] at h
  | .cell x os, f, h => by
    cases f with
    | cell y os' =>
      simp only [Ex.P, PV.tup.injEq, List.cons.injEq, PV.str.injEq, and_true, true_and] at h
      rw [h.1, map_int_inj h.2]
    | bin o _ _ => cases o <;> simp [Ex.P, Op2.cs] at h
    | _ => simp [Ex.P] at h
  | .neg a, f, h => by
    cases f with
    | neg b => simp only [Ex.P, PV.tup.injEq, List.cons.injEq, and_true, true_and] at h; rw [ExP_inj h]
    | bin o _ _ => cases o <;> simp [Ex.P, Op2.cs] at h
    | _ => simp [Ex.P] at h
  | .scl n a, f, h => by
    cases f with
    | scl m b =>
      simp only [Ex.P, PV.tup.injEq, List.cons.injEq, PV.int.injEq, and_true, true_and] at h
      rw [h.1, ExP_inj h.2]
    | bin o _ _ => cases o <;> simp [Ex.P, Op2.cs] at h
    | _ => simp [Ex.P] at h
  | .bin o a b, f, h => by
    cases f with
    | bin o' a' b' =>
      simp only [Ex.P, PV.tup.injEq, List.cons.injEq, PV.str.injEq, and_true] at h
      rw [Op2.cs_inj h.1, ExP_inj h.2.1, ExP_inj h.2.2]
    | _ => cases o <;> simp [Ex.P, Op2.cs] at h
  | .pick g a b c d, f, h => by
    cases f with
    | pick g' a' b' c' d' =>
      simp only [Ex.P, PV.tup.injEq, List.cons.injEq, PV.str.injEq, and_true, true_and] at h
      rw [Sg.cs_inj h.1, ExP_inj h.2.1, ExP_inj h.2.2.1, ExP_inj h.2.2.2.1, ExP_inj h.2.2.2.2]
    | bin o _ _ => cases o <;> simp [Ex.P, Op2.cs] at h
    | _ => simp [Ex.P] at h
theorem RowP_inj {r s : Row} (h : r.P = s.P) : r = s := by
  cases r; cases s
  simp only [Row.P, PV.tup.injEq, List.cons.injEq, PV.str.injEq, PV.int.injEq, and_true] at h
  rw [h.1, h.2.1, ExP_inj h.2.2]
theorem ChT.tell {over : List (List Nat)} {gs : List Giv} {rs : List Row} {d : Nat} (T : ChT over gs rs d) (hd : d ≤ 9) {fs : List (List Fp)} {sz : List Int} (hf : fs.length = gs.length) (hs : sz.length = over.length) (hz : ∀ n ∈ sz, 0 ≤ n ∧ n ≤ 1000) (hp : ∀ i, (places (sz.take i)).length ≤ 1000) : Tell gs rs fs sz := by
  have m := T.many
  have l := T.lr
  refine ⟨T.nd, by omega, fun r hr => T.ok _ (List.mem_append_right _ (List.mem_map.mpr ⟨r, hr, rfl⟩)), hf, by omega, hz, hp, fun r hr => by have := (T.rok r hr).1; omega, fun r hr => ?_, fun r hr => by rw [hs]; exact (T.rok r hr).2.2⟩
  refine Ex.Al.mono (fun x os c => ⟨T.ok x c.1, by rw [c.2.1, hs], ?_⟩) (T.rok r hr).2.1
  rcases List.mem_append.mp c.1 with h | h
  · exact .inl h
  · exact .inr h
theorem atO_hd {p os : List Int} {o : Int} {r : List Int} (e : os = o :: r) (hl : os.length = p.length) : (atO p os).getD 0 0 = p.getD 0 0 + o := by
  subst e
  cases p with
  | nil => simp at hl
  | cons a p => simp [atO]
section
variable {over : List (List Nat)} {gs gs' : List Giv} {rs rs' : List Row} {d d' : Nat} {fs fs' : List (List Fp)} {sz : List Int}
/-- a chain's cells are all told -/
theorem all_told (C : ChT over gs rs d) (T : Tell gs rs fs sz) (hs : sz.length = over.length) {i : Nat} (st : Stable gs rs fs sz i) : ∀ (n : Nat) (r : Row) (p : List Int), r ∈ rs → p ∈ places sz → p.getD 0 0 < n → (told gs rs fs sz i (r.name, p)).isSome = true := by
  intro n
  induction n with
  | zero =>
    intro r p hr hp hn
    have := inB_iff.mp (places_iff.mp hp).2 0 (by have := T.sl.1; omega)
    omega
  | succ n ih =>
    intro r p hr hp hn
    rw [← st, told_row T.nd hr, if_pos]
    · rfl
    refine ⟨hp, fun c hc => ?_⟩
    obtain ⟨a, ha, rfl⟩ := List.mem_map.mp hc
    obtain ⟨ha1, ha2⟩ := List.mem_filter.mp ha
    simp only [Bool.and_eq_true, decide_eq_true_eq] at ha2
    obtain ⟨r', hr', e⟩ := List.mem_map.mp ha2.1
    obtain ⟨_, lo, _, o, rr, eo, ho⟩ := al_refs (C.rok r hr).2.1 a ha1
    have lp := (places_iff.mp hp).1
    have := atO_hd (p := p) eo (by omega)
    rw [← e]
    exact ih r' (atO p a.2) hr' (places_iff.mpr ⟨by rw [atO_len (by omega)]; exact lp, ha2.2⟩) (by rw [this]; omega)
theorem FU_sub (Gn : List (List Nat)) : ∀ (n : Nat) (L : List Row), ∀ r ∈ fixU Gn n L, r ∈ L
  | 0, L, r, h => h
  | n + 1, L, r, h => by
    simp only [fixU] at h
    split at h
    · exact stepU_sub r (FU_sub Gn n _ r h)
    · exact h
theorem fixU_fix (Gn : List (List Nat)) : ∀ (n : Nat) (L : List Row), L.length ≤ n → stepU Gn (fixU Gn n L) = fixU Gn n L
  | 0, L, h => by
    have : L = [] := List.length_eq_zero_iff.mp (by omega)
    subst this; rfl
  | n + 1, L, h => by
    simp only [fixU]
    split
    · rename_i hl
      exact fixU_fix Gn n _ (by omega)
    · rename_i hl
      exact (FU_stop hl).2
/-- the cells of givens that are as they were -/
def SameF (gs gs' : List Giv) (fs fs' : List (List Fp)) : Prop := ∀ (j : Nat) (g : Giv), gs[j]? = some g → g.name ∈ givN gs gs' → fs'[j]? = fs[j]?
theorem names_ix {gs gs' : List Giv} (h : gs'.map Giv.name = gs.map Giv.name) {i : Nat} {g : Giv} (e : gs[i]? = some g) : ∃ g', gs'[i]? = some g' ∧ g'.name = g.name := by
  have h1 : (gs'.map Giv.name)[i]? = some g.name := by rw [h, List.getElem?_map, e]; rfl
  rw [List.getElem?_map] at h1
  obtain ⟨g', e1, e2⟩ := Option.map_eq_some_iff.mp h1
  exact ⟨g', e1, e2⟩
theorem ix_uniq {gs : List Giv} (nd : (gs.map Giv.name).Nodup) {i j : Nat} {g g' : Giv} (e : gs[i]? = some g) (e' : gs[j]? = some g') (h : g.name = g'.name) : i = j := by
  obtain ⟨hi, ei⟩ := List.getElem?_eq_some_iff.mp e
  obtain ⟨hj, ej⟩ := List.getElem?_eq_some_iff.mp e'
  rw [List.nodup_iff_pairwise_ne, List.pairwise_iff_getElem] at nd
  have h3 : (gs.map Giv.name)[i]'(by simpa using hi) = (gs.map Giv.name)[j]'(by simpa using hj) := by rw [List.getElem_map, List.getElem_map, ei, ej, h]
  rcases Nat.lt_trichotomy i j with a | a | a
  · exact absurd h3 (nd i j _ _ a)
  · exact a
  · exact absurd h3.symm (nd j i _ _ a)
theorem gv_same (t : Tch gs gs') (nd : (gs.map Giv.name).Nodup) (hf : fs.length = gs.length) (hf' : fs'.length = gs'.length) (sf : SameF gs gs' fs fs') {x : List Nat} (hx : x ∈ givN gs gs') (p : List Int) : gvOf gs fs x p = gvOf gs' fs' x p := by
  have hx1 : x ∈ gs.map Giv.name := by
    obtain ⟨g, hg, e⟩ := List.mem_map.mp hx
    exact List.mem_map.mpr ⟨g, (List.mem_filter.mp hg).1, e⟩
  have nd' : (gs'.map Giv.name).Nodup := by rw [t.1]; exact nd
  obtain ⟨i, g, f, e1, e2, e3, e4⟩ := find_name hf nd hx1
  obtain ⟨i', g', f', e1', e2', e3', e4'⟩ := find_name hf' nd' (by rw [t.1]; exact hx1)
  obtain ⟨g2, e5, e6⟩ := names_ix t.1 e1
  have : i' = i := ix_uniq nd' e1' e5 (by rw [e3', e6, e3])
  subst this
  have eg : g2 = g' := by rw [e5] at e1'; exact Option.some.inj e1'
  subst eg
  have hr : g2.rim = g.rim := by
    have h1 : (gs'.map Giv.rim)[i']? = (gs.map Giv.rim)[i']? := by rw [t.2]
    rw [List.getElem?_map, List.getElem?_map, e5, e1] at h1
    simpa using h1
  have := sf i' g e1 (by rw [e3]; exact hx)
  rw [e2, e2'] at this
  cases this
  rw [e4, e4', hr]
theorem rim_giv (t : Tch gs gs') (nd : Nd gs rs) (nd' : Nd gs' rs') {x : List Nat} (hx : x ∈ gs.map Giv.name) : rimOf gs rs x = rimOf gs' rs' x := by
  obtain ⟨g0, hg0, rfl⟩ := List.mem_map.mp hx
  obtain ⟨i, hi, rfl⟩ := List.getElem_of_mem hg0
  have e1 : gs[i]? = some gs[i] := List.getElem?_eq_getElem hi
  obtain ⟨g2, e5, e6⟩ := names_ix t.1 e1
  have hr : g2.rim = gs[i].rim := by
    have h1 : (gs'.map Giv.rim)[i]? = (gs.map Giv.rim)[i]? := by rw [t.2]
    rw [List.getElem?_map, List.getElem?_map, e5, e1] at h1
    simpa using h1
  have find : ∀ {l : List Giv} (nd : (l.map Giv.name).Nodup) {j : Nat} {g : Giv}, l[j]? = some g → l.find? (fun g' => decide (g'.name = g.name)) = some g := fun {l} nd {j} {g} e => by
    obtain ⟨hj, ej⟩ := List.getElem?_eq_some_iff.mp e
    rw [List.find?_eq_some_iff_getElem]
    refine ⟨by simp, j, hj, ej, fun j' hj' => ?_⟩
    simp only [Bool.not_eq_eq_eq_not, Bool.not_true, decide_eq_false_iff_not]
    intro z
    have := ix_uniq nd (List.getElem?_eq_getElem (Nat.lt_trans hj' hj)) e z
    omega
  have f1 := find (List.nodup_append.mp nd).1 e1
  have f2 := find (List.nodup_append.mp nd').1 e5
  rw [e6] at f2
  unfold rimOf
  rw [f1, f2]
  exact hr.symm
theorem rim_row (nd : Nd gs rs) {r : Row} (hr : r ∈ rs) : rimOf gs rs r.name = r.rim := by
  have no : gs.find? (fun g' => decide (g'.name = r.name)) = none := by
    rw [List.find?_eq_none]
    intro g' hg''
    simp only [decide_eq_true_eq]
    exact fun z => nd_apart nd (List.mem_map.mpr ⟨g', hg'', z⟩) (List.mem_map.mpr ⟨r, hr, rfl⟩)
  unfold rimOf
  rw [no, row_find nd hr]
theorem due_same (C : ChT over gs rs d) (C' : ChT over gs' rs' d') (T : Tell gs rs fs sz) (T' : Tell gs' rs' fs' sz) (hs : sz.length = over.length) (t : Tch gs gs') (sf : SameF gs gs' fs fs') {i j : Nat} (st : Stable gs rs fs sz i) (st' : Stable gs' rs' fs' sz j) :
    ∀ (n : Nat) (r : Row) (p : List Int), r ∈ FU (givN gs gs') (sameL rs rs') → p ∈ places sz → p.getD 0 0 < n → told gs rs fs sz i (r.name, p) = told gs' rs' fs' sz j (r.name, p) := by
  have sub : ∀ r ∈ FU (givN gs gs') (sameL rs rs'), r ∈ rs ∧ r ∈ rs' := fun r hr => by
    obtain ⟨h1, h2⟩ := List.mem_filter.mp (FU_sub _ _ _ r hr)
    obtain ⟨s, hs, e⟩ := List.mem_map.mp (of_decide_eq_true h2)
    exact ⟨h1, RowP_inj e ▸ hs⟩
  have refs : ∀ r ∈ FU (givN gs gs') (sameL rs rs'), ∀ a ∈ r.e.refs, a.1 ∈ givN gs gs' ∨ a.1 ∈ (FU (givN gs gs') (sameL rs rs')).map Row.name := fun r hr a ha => by
    have fx := fixU_fix (givN gs gs') _ (sameL rs rs') (Nat.le_refl _)
    have hr' : r ∈ stepU (givN gs gs') (FU (givN gs gs') (sameL rs rs')) := by
      rw [show stepU (givN gs gs') (FU (givN gs gs') (sameL rs rs')) = FU (givN gs gs') (sameL rs rs') from fx]; exact hr
    have := (List.mem_filter.mp hr').2
    rw [List.all_eq_true] at this
    simpa using this a ha
  have g1 : ∀ x ∈ givN gs gs', x ∈ gs.map Giv.name := fun x hx => by
    obtain ⟨g, hg, e⟩ := List.mem_map.mp hx
    exact List.mem_map.mpr ⟨g, (List.mem_filter.mp hg).1, e⟩
  intro n
  induction n with
  | zero =>
    intro r p hr hp hn
    have := inB_iff.mp (places_iff.mp hp).2 0 (by have := T.sl.1; omega)
    omega
  | succ n ih =>
    intro r p hr hp hn
    obtain ⟨m1, m2⟩ := sub r hr
    have a1 := all_told C T hs st (n + 1) r p m1 hp hn
    have a2 := all_told C' T' hs st' (n + 1) r p m2 hp hn
    rw [← st, told_row T.nd m1] at a1 ⊢
    rw [← st', told_row T'.nd m2] at a2 ⊢
    split at a1
    case isFalse => cases a1
    split at a2
    case isFalse => cases a2
    rename_i c1 c2
    rw [if_pos c1, if_pos c2]
    congr 1
    refine worth_congr fun a ha => ?_
    unfold lookV
    obtain ⟨_, lo, _, o, rr, eo, ho⟩ := al_refs (C.rok r m1).2.1 a ha
    have lp := (places_iff.mp hp).1
    have hd := atO_hd (p := p) eo (by omega)
    cases hb : inB sz (atO p a.2) with
    | false =>
      simp only [Bool.false_eq_true, if_false]
      rcases refs r hr a ha with hg | hg
      · exact rim_giv t T.nd T'.nd (g1 _ hg)
      · obtain ⟨s, hs', e⟩ := List.mem_map.mp hg
        rw [← e, rim_row T.nd (sub s hs').1, rim_row T'.nd (sub s hs').2]
    | true =>
      simp only [if_true]
      rcases refs r hr a ha with hg | hg
      · rw [told_given T.nd (g1 _ hg), told_given T'.nd (by rw [t.1]; exact g1 _ hg)]
        exact gv_same t (List.nodup_append.mp T.nd).1 T.fl T'.fl sf hg _
      · obtain ⟨s, hs', e⟩ := List.mem_map.mp hg
        have pin : atO p a.2 ∈ places sz := places_iff.mpr ⟨by rw [atO_len (by omega)]; exact lp, hb⟩
        have i1 := ih s (atO p a.2) hs' pin (by rw [hd]; omega)
        have i2 := all_told C T hs st (n + 1) s (atO p a.2) (sub s hs').1 pin (by rw [hd]; omega)
        rw [e] at i1 i2
        obtain ⟨v, hv⟩ := Option.isSome_iff_exists.mp i2
        rw [← i1, hv]
end

def zIdxO (y : PV) : Option PO → PH → QV → Prop
  | some (.lst xs), h, Q => y.pl = true ∧ y.dp ≤ 64 ∧ PV.pls xs = true ∧ PV.dps xs ≤ 63 ∧ y ∈ xs ∧ Q (.int (xs.findIdx (fun x => decide (x = y)) : Nat)) h
  | _, _, _ => False
theorem zIndex_r {l : Addr} {y : PV} {h : PH} {Q : QV} : zIndex (.ref l) [y] h Q = zIdxO y (h l) h Q := by
  simp only [zIndex]
  cases h l with
  | none => rfl
  | some o => cases o <;> rfl
theorem zIdxO_l {y : PV} {xs : List PV} {h : PH} {Q : QV} : zIdxO y (some (.lst xs)) h Q = (y.pl = true ∧ y.dp ≤ 64 ∧ PV.pls xs = true ∧ PV.dps xs ≤ 63 ∧ y ∈ xs ∧ Q (.int (xs.findIdx (fun x => decide (x = y)) : Nat)) h) := rfl

theorem dats_strs : ∀ {l : List (List Nat)}, (∀ x ∈ l, okS x = true) → dats (l.map .str) = true ∧ PV.dps (l.map .str) = 0
  | [], _ => ⟨rfl, rfl⟩
  | x :: l, h => by
    obtain ⟨i1, i2⟩ := dats_strs (l := l) fun y hy => h y (List.mem_cons_of_mem _ hy)
    exact ⟨by simp [dats, okS_dat (h x List.mem_cons_self), i1], by simp [PV.dps, PV.dp, i2]⟩
theorem unt_dat {gs gs' : List Giv} {rs rs' : List Row} (ok : ∀ r ∈ rs, okS r.name = true) (hl : rs.length ≤ 1000) : dat (untP gs gs' rs rs') = true ∧ (untP gs gs' rs rs').dp ≤ 1 ∧ ∃ due : List (List Nat), untP gs gs' rs rs' = .tup (due.map .str) ∧ (∀ x, x ∈ due ↔ x ∈ (FU (givN gs gs') (sameL rs rs')).map Row.name) ∧ due.length ≤ 1000 := by
  have sub : ∀ r ∈ FU (givN gs gs') (sameL rs rs'), r ∈ rs := fun r hr => (List.mem_filter.mp (FU_sub _ _ _ r hr)).1
  have okn : ∀ x ∈ (FU (givN gs gs') (sameL rs rs')).map Row.name, okS x = true := fun x hx => by
    obtain ⟨r, hr, rfl⟩ := List.mem_map.mp hx
    exact ok r (sub r hr)
  obtain ⟨_, r, e, pm⟩ := sort_strs okn
  have e' : untP gs gs' rs rs' = .tup (r.map .str) := by
    unfold untP
    rw [← e, List.map_map]; rfl
  have ll : r.length ≤ 1000 := by
    rw [pm.length_eq, List.length_map]
    have len : ∀ (n : Nat) (L : List Row), (fixU (givN gs gs') n L).length ≤ L.length := by
      intro n
      induction n with
      | zero => intro L; exact Nat.le_refl _
      | succ n ih =>
        intro L
        simp only [fixU]
        split
        · have := ih (stepU (givN gs gs') L); omega
        · exact Nat.le_refl _
    have h1 := len (sameL rs rs').length (sameL rs rs')
    have h2 : (sameL rs rs').length ≤ rs.length := List.length_filter_le _ _
    unfold FU
    omega
  obtain ⟨d1, d2⟩ := dats_strs (l := r) fun x hx => okn x (pm.mem_iff.mp hx)
  rw [e']
  refine ⟨by simp [dat, d1]; omega, by simp [PV.dp, d2], r, rfl, fun x => pm.mem_iff, ll⟩
def hisF (gs' : List Giv) (fs : List (List Fp)) (sz : List Int) (G' : List (List Nat)) : List (List Fp) := (gs'.zip fs).map fun a => if a.1.name ∈ G' then a.2 else (places sz).map fun p => (p, a.1.rim + 3)
theorem c_untouched_ne {o o' : List PV} {hd hd' : PV} {gs gs' : List Giv} {rs rs' : List Row} (ol : o.length ≠ o'.length) {k : Nat} (hk : 1 ≤ k) {h : PH} {Q : QV} (q : Q (.tup []) h) : (wC k).untouched [TP (.tup o) gs rs hd, TP (.tup o') gs' rs' hd'] h Q := by
  obtain ⟨k, rfl⟩ : ∃ j, k = j + 1 := ⟨k - 1, by omega⟩
  show zFn _ _ (b_untouched (wC k)) _ h Q
  unfold b_untouched
  dsimp! []
  rw [zSeq_x]
  dsimp! [show ((o.length : Int) = (o'.length : Int)) ↔ False from ⟨fun z => ol (by omega), False.elim⟩, Bool.not_false]
  exact ⟨by decide, h, G.Sub.refl _, q⟩
theorem unt_self {over : List (List Nat)} {gs : List Giv} {rs : List Row} {d : Nat} (T : ChT over gs rs d) (srt : isort ((rs.map Row.name).map .str) = (rs.map Row.name).map .str) : untP gs gs rs rs = .tup ((rs.map Row.name).map .str) := by
  have h1 : sameL rs rs = rs := List.filter_eq_self.mpr fun r hr => by simp only [decide_eq_true_eq]; exact List.mem_map.mpr ⟨r, hr, rfl⟩
  have h2 : givN gs gs = gs.map Giv.name := by
    unfold givN
    rw [List.filter_eq_self.mpr fun g hg => by simp only [decide_eq_true_eq]; exact List.mem_map.mpr ⟨g, hg, rfl⟩]
  have h3 : stepU (gs.map Giv.name) rs = rs := List.filter_eq_self.mpr fun r hr => by
    rw [List.all_eq_true]
    intro x hx
    have := (al_refs (T.rok r hr).2.1 x hx).1
    simp only [Bool.or_eq_true, decide_eq_true_eq]
    exact List.mem_append.mp this
  have h4 : FU (gs.map Giv.name) rs = rs := (FU_stop (by rw [h3]; omega)).1
  unfold untP
  rw [h1, h2, h4, ← srt, List.map_map]
  rfl
theorem findIdx_nd {l : List (List Nat)} (nd : l.Nodup) {i : Nat} {x : List Nat} (e : l[i]? = some x) : (l.map PV.str).findIdx (fun y => decide (y = PV.str x)) = i := by
  obtain ⟨hi, ei⟩ := List.getElem?_eq_some_iff.mp e
  rw [List.findIdx_map, List.findIdx_eq hi]
  refine ⟨by simp [ei], fun j hj => ?_⟩
  have hj' : j < l.length := Nat.lt_trans hj hi
  simp only [Function.comp_apply, decide_eq_false_iff_not, PV.str.injEq]
  rw [List.nodup_iff_pairwise_ne, List.pairwise_iff_getElem] at nd
  rw [← ei]
  exact nd j i hj' hi hj
theorem ds_kp {a s : Addr} {ns : List Int} {h h' : PH} (d : DS a ns s h) (k : Kp [] h h') : DS a ns s h' := by
  obtain ⟨y1, y2, j1, j2, j3, y3⟩ := d
  exact ⟨y1, k _ _ (by simp) y2, j1, j2, j3, k _ _ (by simp) y3⟩
theorem c_law {k : Nat} (hk : 40 ≤ k) {ns : List Int} (hn : ns.length ≤ 63) : (wC k).law [.scr ns] (fun _ => none) fun p _ => p = .bl true := by
  obtain ⟨k, rfl⟩ : ∃ j, k = j + 1 := ⟨k - 1, by omega⟩
  show zFn _ _ (b_law (wC k)) [.scr ns] _ _
  unfold b_law
  dsimp! []
  refine c_start (by omega) hn fun a s h1 d1 _ _ => ?_
  refine c_chain_table (by omega) d1 fun over gs rs h2 T srt nou l6 d2 _ => ?_
  have many := T.many
  have okr : ∀ r ∈ rs, RowOk r := fun r hr => T.rowOk (by omega) hr
  have okg : ∀ g ∈ gs, GivOk g := fun g hg => (T.gok g hg).1
  have okn : ∀ r ∈ rs, okS r.name = true := fun r hr => (okr r hr).nm
  have ndr : (rs.map Row.name).Nodup := (List.nodup_append.mp T.nd).2.1
  dsimp! []
  refine zSeq_key (fun ρ' h' => ∃ x3 x4 x5 x6 x7 x8 x9 x10 x11 x12 x13 x14 : Option PV, ρ' = [some (.scr ns), some (.ref s), some (TP (.tup (over.map .str)) gs rs (.tup [])), x3, x4, x5, x6, x7, x8, x9, x10, x11, x12, x13, x14, none, none]) ?_ fun X fx => ?_
  · rintro _ h3 ⟨x3, x4, x5, x6, x7, x8, x9, x10, x11, x12, x13, x14, rfl⟩
    dsimp! []
    rw [zSeq_x]
    dsimp! []
    have lT := T.lr
    refine c_untouched ndr ndr (by omega) (by omega) (by omega) okr okr okg okg rfl (by omega) ?_
    refine lcP_V (ps := rs.map Row.P) (fun _ => true) hdP (by rw [sizeLine_eq, List.length_map]; omega) (fun p hp R acc r' => ?_) ?_
    · obtain ⟨r0, _, rfl⟩ := List.mem_map.mp hp
      rw [show r0.P = .tup [.str r0.name, .int r0.rim, r0.e.P] from rfl] at r' ⊢
      dsimp! []
      simpa [hdP] using r'
    intro D nD
    have en : ((rs.map Row.P).filter fun _ => true).map hdP = (rs.map Row.name).map .str := by
      rw [List.filter_eq_self.mpr (by simp), List.map_map, List.map_map]; rfl
    rw [en, unt_self T srt]
    obtain ⟨e1, e2⟩ := dats_strs (l := rs.map Row.name) fun x hx => T.ok x (List.mem_append_right _ hx)
    have ln : (rs.map Row.name).length ≤ 10 := by rw [List.length_map]; omega
    generalize rs.map Row.name = nm at e1 e2 ln
    dsimp! []
    refine c_same 1 _ (by simp only [dat, e1, Bool.and_true, decide_eq_true_eq, List.length_map]; omega) (by simp only [PV.dp, e2]; omega) (by omega) ?_
    dsimp! [Bool.not_true]
    refine ⟨by decide, by rw [sizeLine_eq]; simp; omega, by decide, by decide, by decide, by decide, by decide, by decide, ?_⟩
    refine c_untouched_ne (k := k) (o := over.map .str) (o' := over.map .str ++ [(PV.str [122, 122, 95, 105])]) (gs := gs) (rs := rs) (hd := .tup []) (gs' := []) (rs' := [⟨([97, 95, 97] : List Nat), 0, .num 1⟩]) (hd' := .tup []) (by simp) (by omega) ?_
    refine ⟨by decide, c_same 1 (.tup []) (by decide) (by decide) (by omega) ?_⟩
    dsimp! []
    refine c_untouched (k := k) (o := over.map .str ++ [(PV.str [122, 122, 95, 105])]) (o' := over.map .str ++ [(PV.str [122, 122, 95, 105])]) (gs := []) (rs := [⟨([97, 95, 97] : List Nat), 0, .num 1⟩]) (hd := .tup []) (gs' := []) (rs' := [⟨([97, 95, 97] : List Nat), 0, .num 1⟩]) (hd' := .tup []) (by simp) (by simp) (by simp) (by simp) (by simp) (fun r hr => ?_) (fun r hr => ?_) (by simp) (by simp) rfl (by omega) ?_
    · rw [List.mem_singleton.mp hr]; exact ⟨by decide, ⟨by decide, by decide⟩, by decide⟩
    · rw [List.mem_singleton.mp hr]; exact ⟨by decide, ⟨by decide, by decide⟩, by decide⟩
    have eu : untP [] [] [⟨([97, 95, 97] : List Nat), 0, .num 1⟩] [⟨([97, 95, 97] : List Nat), 0, .num 1⟩] = .tup [(PV.str [97, 95, 97])] := by decide +kernel
    rw [eu]
    exact ⟨by decide, c_same 1 (.tup [(PV.str [97, 95, 97])]) (by decide) (by decide) (by omega) ⟨_, G.Sub.refl _, rfl⟩⟩
  · dsimp! []
    refine ⟨by decide, by decide, ?_⟩
    refine forW_R (fun i ρ' h' => (∃ x3 x4 x5 x6 x7 x8 x9 x10 x11 x12 x13 x14 : Option PV, ρ' = [some (.scr ns), some (.ref s), some (TP (.tup (over.map .str)) gs rs (.tup [])), x3, x4, x5, x6, x7, x8, x9, x10, x11, x12, x13, x14, none, none]) ∧ DS a ns s h') ⟨⟨_, _, _, _, _, _, _, _, _, _, _, _, rfl⟩, d2⟩ ?_ ?_
    · rintro i _ h3 hi ⟨⟨x3, x4, x5, x6, x7, x8, x9, x10, x11, x12, x13, x14, rfl⟩, d3⟩
      dsimp! []
      refine c_touched_table (d := 2) (by omega) (by omega) T (by omega) (fun x hx => nou x (List.mem_append_left _ hx)) d3 fun gs1 rs1 h4 T1 t1 l1 d4 f4 => ?_
      refine zSeq_key (fun ρ' h' => ∃ (gs' : List Giv) (rs' : List Row), ρ' = [some (.scr ns), some (.ref s), some (TP (.tup (over.map .str)) gs rs (.tup [])), some (.int ((0 : Int) + (i : Nat))), some (TP (.tup (over.map .str)) gs' rs' (.tup [])), x5, x6, x7, x8, x9, x10, x11, x12, x13, x14, none, none] ∧ ChT over gs' rs' 4 ∧ Tch gs gs' ∧ DS a ns s h') ?_ fun X2 fx2 => ?_
      rotate_left
      · have lg1 : gs1.length = gs.length := by have := congrArg List.length t1.1; simpa using this
        dsimp! []
        by_cases h2 : (0 : Int) + (i : Nat) = 2
        · dsimp! [h2]
          refine c_touched_table (d := 3) (by omega) (by omega) T1 (by omega) (fun x hx => nou x (List.mem_append_left _ (by rw [t1.1] at hx; exact hx))) d4 fun gs2 rs2 h5 T2 t2 l2 d5 f5 => ?_
          rw [h2] at fx2
          exact fx2 _ _ ⟨gs2, rs2, rfl, T2, ⟨t2.1.trans t1.1, t2.2.trans t1.2⟩, d5⟩
        · dsimp! [h2]
          exact fx2 _ _ ⟨gs1, rs1, rfl, T1.up, t1, d4⟩
      clear T1 t1 l1 d4 f4 h4 gs1 rs1 d3 h3
      rintro _ h4 ⟨gs', rs', rfl, T', t, d4⟩
      have okr' : ∀ r ∈ rs', RowOk r := fun r hr => T'.rowOk (by omega) hr
      have okg' : ∀ g ∈ gs', GivOk g := fun g hg => (T'.gok g hg).1
      have ndr' : (rs'.map Row.name).Nodup := (List.nodup_append.mp T'.nd).2.1
      have lT' := T'.lr
      have lT := T.lr
      obtain ⟨u1, u2, due, u3, u4, u5⟩ := unt_dat (gs := gs) (gs' := gs') (rs' := rs') okn (by omega)
      dsimp! []
      refine c__law_untouched T.nd (by omega) okr okr' okg okg' rfl (by omega) ?_
      rw [u3] at u1 u2 ⊢
      dsimp! []
      rw [zSeq_x]
      dsimp! []
      refine c_untouched ndr ndr' (by omega) (by omega) (by omega) okr okr' okg okg' rfl (by omega) ?_
      rw [u3]
      refine c_same 1 _ u1 u2 (by omega) ?_
      dsimp! [Bool.not_true]
      refine lcP_V (ps := gs.map Giv.P) (fun p => decide (p ∈ gs'.map Giv.P)) hdP (by rw [sizeLine_eq, List.length_map]; omega) (fun p hp R acc r => ?_) ?_
      · obtain ⟨g, hg, rfl⟩ := List.mem_map.mp hp
        obtain ⟨e1, e2⟩ := (okg g hg).dat
        have dg := givs_dat okg'
        have e1 := dat_pl _ e1
        rw [show g.P = .tup [.str g.name, .int g.rim, oi g.lo, oi g.hi] from rfl] at r e1 e2 ⊢
        dsimp! []
        refine ⟨e1, by omega, dg.1, by have := dg.2; omega, ?_⟩
        by_cases hm : PV.tup [.str g.name, .int g.rim, oi g.lo, oi g.hi] ∈ gs'.map Giv.P
        · dsimp! [hm]
          simpa [hm, hdP] using r
        · dsimp! [hm]
          simpa [hm, hdP] using r
      intro g6 n6
      rw [giv_list]
      have okG : ∀ x ∈ givN gs gs', okS x = true := fun x hx => by
        obtain ⟨g, hg, rfl⟩ := List.mem_map.mp hx
        exact okg g (List.mem_filter.mp hg).1
      have gd := pls_strs okG
      have g6s := d4.ne n6
      have d5 := d4.new n6 (o := .lst ((givN gs gs').map .str))
      have e6 : up h4 g6 (.lst ((givN gs gs').map .str)) g6 = some (.lst ((givN gs gs').map .str)) := up_same
      generalize up h4 g6 (.lst ((givN gs gs').map .str)) = h5 at d5 e6
      dsimp! [List.length_map]
      refine c_sizes (by omega) (by omega) (by omega) d5 fun sz h6 lsz bsz d6 f6 => ?_
      have e6' : h6 g6 = some (.lst ((givN gs gs').map .str)) := (f6 g6 (by simpa using g6s)).trans e6
      have bz : ∀ n ∈ sz, 1 ≤ n ∧ n ≤ 9 := fun n hn => by
        have := bsz n hn
        unfold szB at this
        split at this
        · omega
        · split at this <;> omega
      have hz : ∀ n ∈ sz, 0 ≤ n ∧ n ≤ 1000 := fun n hn => by have := bz n hn; omega
      have hp : ∀ i, (places (sz.take i)).length ≤ 1000 := fun i => by
        have h1 := places_pow (b := 9) (sz.take i).length (sz.take i) rfl fun m hm => by have := bz m (List.mem_of_mem_take hm); omega
        have h2 : (sz.take i).length ≤ 2 := by rw [List.length_take]; omega
        exact Nat.le_trans h1 (Nat.le_trans (Nat.pow_le_pow_right (by omega) h2) (by decide))
      have hp' : ∀ i, (places (sz.take i)).length ≤ 100000 := fun i => Nat.le_trans (hp i) (by decide)
      have hpl : (places sz).length ≤ 1000 := by have := hp sz.length; rwa [List.take_length] at this
      dsimp! []
      refine c_fields (by omega) T.gok (by omega) (by omega) hz hp' d6 fun fs h7 lf okf d7 f7 => ?_
      have e7 : h7 g6 = some (.lst ((givN gs gs').map .str)) := (f7 g6 (by simpa using g6s)).trans e6'
      clear e6 e6' d5 d6 f6 f7 n6 d4
      dsimp! []
      refine ⟨by decide, fun r9 n9 => ?_⟩
      have r9s := d7.ne n9
      have r9a := d7.nea n9
      have h69 : g6 ≠ r9 := by rintro rfl; rw [e7] at n9; cases n9
      have lg : gs'.length = gs.length := by have := congrArg List.length t.1; simpa using this
      have lhis : (hisF gs' fs sz (givN gs gs')).length = gs'.length := by unfold hisF; rw [List.length_map, List.length_zip]; omega
      refine zSeq_key (fun ρ' h' => ∃ (y10 y14 : Option PV), ρ' = [some (.scr ns), some (.ref s), some (TP (.tup (over.map .str)) gs rs (.tup [])), some (.int ((0 : Int) + (i : Nat))), some (TP (.tup (over.map .str)) gs' rs' (.tup [])), some (.tup (due.map .str)), some (.ref g6), some (tI sz), some (fsP fs), some (.ref r9), y10, x11, x12, x13, y14, none, none] ∧ DS a ns s h' ∧ h' r9 = some (.lst ((hisF gs' fs sz (givN gs gs')).map fun f => .tup (f.map fpP)))) ?_ fun X2 fx2 => ?_
      rotate_left
      · dsimp! []
        refine forW_V (ps := gs'.map Giv.P) (fun j ρ' h' => ∃ (y10 y14 : Option PV), ρ' = [some (.scr ns), some (.ref s), some (TP (.tup (over.map .str)) gs rs (.tup [])), some (.int ((0 : Int) + (i : Nat))), some (TP (.tup (over.map .str)) gs' rs' (.tup [])), some (.tup (due.map .str)), some (.ref g6), some (tI sz), some (fsP fs), some (.ref r9), y10, x11, x12, x13, y14, none, none] ∧ Kp [] h7 h' ∧ h' r9 = some (.lst (((hisF gs' fs sz (givN gs gs')).take j).map fun f => .tup (f.map fpP)))) ⟨x10, x14, rfl, kp_new n9, up_same⟩ ?_ ?_
        · rintro j _ h8 u eu ⟨y10, y14, rfl, k8, e8⟩
          rw [List.getElem?_map] at eu
          obtain ⟨g', eg', rfl⟩ := Option.map_eq_some_iff.mp eu
          have hj := (List.getElem?_eq_some_iff.mp eg').1
          have e7' : h8 g6 = some (.lst ((givN gs gs').map .str)) := k8 _ _ (by simp) e7
          have okx : okS g'.name = true := okg' g' (List.mem_of_getElem? eg')
          have hj2 : j < fs.length := by omega
          have stp : (hisF gs' fs sz (givN gs gs')).take (j + 1) = (hisF gs' fs sz (givN gs gs')).take j ++ [if g'.name ∈ givN gs gs' then fs[j] else (places sz).map fun p => (p, g'.rim + 3)] := by
            have : (hisF gs' fs sz (givN gs gs'))[j]? = some (if g'.name ∈ givN gs gs' then fs[j] else (places sz).map fun p => (p, g'.rim + 3)) := by
              unfold hisF
              have hzip : (gs'.zip fs)[j]? = some (g', fs[j]) := by
                rw [List.getElem?_eq_some_iff]
                refine ⟨by simp; omega, ?_⟩
                rw [List.getElem_zip, (List.getElem?_eq_some_iff.mp eg').2]
              rw [List.getElem?_map, hzip]; rfl
            rw [List.take_add_one, this]; rfl
          rw [stp]
          have lacc : (((hisF gs' fs sz (givN gs gs')).take j).map fun f => PV.tup (f.map fpP)).length ≤ 1000 := by rw [List.length_map, List.length_take]; omega
          generalize (hisF gs' fs sz (givN gs gs')).take j = acc at e8 lacc
          rw [show g'.P = .tup [.str g'.name, .int g'.rim, oi g'.lo, oi g'.hi] from rfl]
          have hxp : (PV.str g'.name).pl = true := dat_pl _ (okS_dat okx)
          dsimp! [e7']
          refine ⟨hxp, by simp [PV.dp], gd.1, by have := gd.2; omega, ?_⟩
          by_cases hm : g'.name ∈ givN gs gs'
          · rw [if_pos hm]
            dsimp! [names_in, hm, e8]
            refine lcP_V (ps := gs.map Giv.P) (fun _ => true) hdP (by rw [sizeLine_eq, List.length_map]; omega) (fun p hp R acc r' => ?_) ?_
            · obtain ⟨r0, _, rfl⟩ := List.mem_map.mp hp
              rw [show r0.P = .tup [.str r0.name, .int r0.rim, oi r0.lo, oi r0.hi] from rfl] at r' ⊢
              dsimp! []
              simpa [hdP] using r'
            intro D nD
            have en : ((gs.map Giv.P).filter fun _ => true).map hdP = (gs.map Giv.name).map .str := by
              rw [List.filter_eq_self.mpr (by simp), List.map_map, List.map_map]; rfl
            rw [en]
            have okl := pls_strs (l := gs.map Giv.name) fun x hx => T.ok x (List.mem_append_left _ hx)
            have h9D : r9 ≠ D := by rintro rfl; rw [e8] at nD; cases nD
            have enm : (gs.map Giv.name)[j]? = some g'.name := by rw [← t.1, List.getElem?_map, eg']; rfl
            dsimp! [zIndex_r, zIdxO_l]
            refine ⟨hxp, by simp [PV.dp], okl.1, by have := okl.2; omega, List.mem_map.mpr ⟨_, List.mem_of_getElem? enm, rfl⟩, ?_⟩
            rw [findIdx_nd (List.nodup_append.mp T.nd).1 enm]
            dsimp! [atN, List.getElem?_map, List.getElem?_eq_getElem hj2, Option.map_some, up_ne h9D, e8]
            refine ⟨by rw [sizeLine_eq]; omega, _, G.Sub.refl _, _, _, rfl, (k8.new nD).put0 n9, by rw [up_same, List.map_append]; rfl⟩
          · rw [if_neg hm]
            dsimp! [names_in, hm, e8]
            refine c_places (by omega) (by omega) hz hp' fun pl h9 npl k9 epl => ?_
            have e9 : h9 r9 = some (.lst (acc.map fun f => .tup (f.map fpP))) := k9 _ _ (by simp) e8
            dsimp! [epl]
            refine lcP_L (ps := (places sz).map tI) (fun _ => true) (fun p => .tup [p, .int (g'.rim + 3)]) (by rw [sizeLine_eq, List.length_map]; omega) epl (fun p hp R acc r' => ?_) ?_
            · obtain ⟨r0, _, rfl⟩ := List.mem_map.mp hp
              dsimp! []
              exact ⟨by decide, by simpa using r'⟩
            intro D nD
            have en : (((places sz).map tI).filter fun _ => true).map (fun p => PV.tup [p, .int (g'.rim + 3)]) = ((places sz).map fun p => ((p, g'.rim + 3) : Fp)).map fpP := by
              rw [List.filter_eq_self.mpr (by simp), List.map_map, List.map_map]; rfl
            rw [en]
            have h9D : r9 ≠ D := by rintro rfl; rw [e9] at nD; cases nD
            dsimp! [up_ne h9D, e9]
            refine ⟨by rw [sizeLine_eq]; omega, _, G.Sub.refl _, _, _, rfl, ((k8.trans k9).new nD).put0 n9, by rw [up_same, List.map_append]; rfl⟩
        · rintro _ h8 ⟨y10, y14, rfl, k8, e8⟩
          rw [List.length_map, show (hisF gs' fs sz (givN gs gs')).take gs'.length = hisF gs' fs sz (givN gs gs') from List.take_of_length_le (by omega)] at e8
          exact fx2 _ _ ⟨y10, y14, rfl, ds_kp d7 k8, e8⟩
      clear d7 e7 h69 n9 h7
      rintro _ h7 ⟨y10, y14, rfl, d7, e9⟩
      have Tl := T.tell (by omega) lf lsz hz hp
      have Tl' := T'.tell (by omega) lhis lsz hz hp
      have sf : SameF gs gs' fs (hisF gs' fs sz (givN gs gs')) := fun j g eg hg => by
        obtain ⟨g', eg', en⟩ := names_ix t.1 eg
        have hj := (List.getElem?_eq_some_iff.mp eg').1
        have hj2 : j < fs.length := by omega
        unfold hisF
        have hzip : (gs'.zip fs)[j]? = some (g', fs[j]) := by
          rw [List.getElem?_eq_some_iff]
          refine ⟨by simp; omega, ?_⟩
          rw [List.getElem_zip, (List.getElem?_eq_some_iff.mp eg').2]
        rw [List.getElem?_map, hzip, Option.map_some, List.getElem?_eq_getElem hj2]
        simp only [en]
        rw [if_pos hg]
      have lhis := lhis
      generalize hisF gs' fs sz (givN gs gs') = fs' at e9 lhis Tl' sf
      dsimp! []
      refine c_told_cells Tl (by omega) fun D1 kk1 h8 i1 _ k8 eD1 st1 sp1 => ?_
      have e9' : h8 r9 = some (.lst (fs'.map fun f => .tup (f.map fpP))) := k8 _ _ (by simp) e9
      dsimp! [e9']
      refine c_told_cells Tl' (by omega) fun D2 kk2 h9 i2 _ k9 eD2 st2 sp2 => ?_
      have eD1' : h9 D1 = some (.dic true none kk1) := k9 _ _ (by simp) eD1
      have d9 : DS a ns s h9 := ds_kp d7 (k8.trans k9)
      dsimp! []
      refine forW_V (ps := due.map .str) (fun j ρ' h' => (∃ y13 y14 : Option PV, ρ' = [some (.scr ns), some (.ref s), some (TP (.tup (over.map .str)) gs rs (.tup [])), some (.int ((0 : Int) + (i : Nat))), some (TP (.tup (over.map .str)) gs' rs' (.tup [])), some (.tup (due.map .str)), some (.ref g6), some (tI sz), some (fsP fs), some (.ref r9), y10, some (.ref D1), some (.ref D2), y13, y14, none, none]) ∧ Kp [] h9 h') ⟨⟨_, _, rfl⟩, Kp.refl _ _⟩ ?_ ?_
      · rintro j _ h10 u eu ⟨⟨y13, y14, rfl⟩, k10⟩
        rw [List.getElem?_map] at eu
        obtain ⟨x, ex, rfl⟩ := Option.map_eq_some_iff.mp eu
        have mx := (u4 x).mp (List.mem_of_getElem? ex)
        obtain ⟨r, hr, rfl⟩ := List.mem_map.mp mx
        dsimp! []
        refine c_places (by omega) (by omega) hz hp' fun pl h11 npl k11 epl => ?_
        dsimp! [epl]
        refine forW_L (ps := (places sz).map tI) (fun j ρ' h' => (∃ y13 y14 : Option PV, ρ' = [some (.scr ns), some (.ref s), some (TP (.tup (over.map .str)) gs rs (.tup [])), some (.int ((0 : Int) + (i : Nat))), some (TP (.tup (over.map .str)) gs' rs' (.tup [])), some (.tup (due.map .str)), some (.ref g6), some (tI sz), some (fsP fs), some (.ref r9), y10, some (.ref D1), some (.ref D2), some (.str r.name), y14, none, none]) ∧ Kp [] h11 h') ⟨⟨none, _, rfl⟩, Kp.refl _ _⟩ (fun _ _ h' _ ⟨_, kx⟩ => kx _ _ (by simp) epl) ?_ ?_
        · rintro j' _ h12 v ev ⟨⟨_, y14, rfl⟩, k12⟩
          rw [List.getElem?_map] at ev
          obtain ⟨p, ep, rfl⟩ := Option.map_eq_some_iff.mp ev
          have mp := List.mem_of_getElem? ep
          have kx : Kp [] h9 h12 := (k10.trans k11).trans k12
          have f1 : h12 D1 = some (.dic true none kk1) := kx _ _ (by simp) eD1'
          have f2 : h12 D2 = some (.dic true none kk2) := kx _ _ (by simp) eD2
          have sub := (List.mem_filter.mp (FU_sub _ _ _ r hr)).1
          have eq := due_same T T' Tl Tl' lsz t sf st1 st2 (p.getD 0 0).toNat.succ r p hr mp (by omega)
          have so := all_told T Tl lsz st1 (p.getD 0 0).toNat.succ r p sub mp (by omega)
          obtain ⟨w, hw⟩ := Option.isSome_iff_exists.mp so
          have a1 := sp1 r.name p
          have a2 := sp2 r.name p
          rw [hw] at a1
          rw [← eq, hw] at a2
          simp only [Option.map_some] at a1 a2
          dsimp! [f1, f2, key_cell, a1, a2, Bool.not_true]
          exact ⟨by decide, by decide, h12, G.Sub.refl _, ⟨none, _, rfl⟩, k12⟩
        · rintro _ h12 ⟨⟨_, y14, rfl⟩, k12⟩
          exact ⟨h12, G.Sub.refl _, ⟨_, _, rfl⟩, (k10.trans k11).trans k12⟩
      · rintro _ h10 ⟨⟨y13, y14, rfl⟩, k10⟩
        exact ⟨h10, G.Sub.refl _, ⟨_, _, _, _, _, _, _, _, _, _, _, _, rfl⟩, ds_kp d9 k10⟩
    · rintro _ h3 ⟨⟨x3, x4, x5, x6, x7, x8, x9, x10, x11, x12, x13, x14, rfl⟩, d3⟩
      exact fx _ _ ⟨_, _, _, _, _, _, _, _, _, _, _, _, rfl⟩

end K78
end
theorem PySem.Challenge.cw_toldinwaves_k78_untouched_rules_holds : PySem.Challenge.rw_toldinwaves_k78_untouched_rules.Holds :=
  K78.holds 40 ⟨rfl, by decide, by decide⟩ fun ns hn => K78.c_law (by decide) hn
