import PyProof.Rows.All
import HandS.ForMost
import HandS.Deep
import HandS.TupAny
import HandS.TupLe
import HandS.IsInst
import HandS.RaiseMore
import PyProof.ReprRoads
import HandS.Zip
import PyProof.Draws
import HandS.NoneIn
import HandS.Style
import HandS.Defaults
import HandS.Head0
import HandS.Head1
import HandS.Head2
import HandS.HeadEnd
import HandS.HeadHook1
import HandS.HeadHook2
import HandS.HeadHook3
import HandS.HeadHook4
import HandS.Text
import HandS.StrMore
import HandS.StrSplit
import HandS.Flow
import HandS.SetKeys
import HandS.Strs
import HandS.SetFor
import KE.KDictPairs
import HandS.Conv
import PyProof.StrReplace2
import HandS.Codes
import PyProof.StrLawsIn
import PyProof.StrLawsChain
import PyProof.StrLaws
import HandS.ExcInit
import HandS.ExcField
import HandS.TryMany
import HandS.Finally
import HandS.SortRule
import PyProof.Rows.StrMul
import PyProof.StrLawsLast
import PyProof.P3Eq
import PySem.Challenge.RW_oneafter_k11_whole_tokens_and_what_is_wr
set_option Elab.async false
set_option linter.all false
set_option maxRecDepth 100000
set_option maxHeartbeats 3900000
/-! Ev1: values, symbolic heaps, what stands for what. -/
namespace Fv
open PySem PySem.Spec PyProof.Rows L2


/-- built-in types -/
inductive BT where
  | int | bool | str | list | tuple | dict | none
def BT.name : BT → String
  | .int => "int"
  | .bool => "bool"
  | .str => "str"
  | .list => "list"
  | .tuple => "tuple"
  | .dict => "dict"
  | .none => "NoneType"
inductive SV where
  | non | bl (b : Bool) | int (i : Int) | str (l : List Nat) | tup (xs : List SV) | loc (p : Nat) | fn (k : Nat) | ty (n : BT) | fl (xs : List SV) | ls (xs : List SV) | tp (xs : List SV) | fd (kvs : List (SV × SV))
/-- what stands at a key -/
inductive SO where
  | lst (xs : List SV) | dic (kvs : List (SV × SV))
structure SH where
  c : List SO
def SH.nx (h : SH) : Nat := h.c.length
def SH.get (h : SH) (p : Nat) : Option SO := h.c[p]?
def SH.set (h : SH) (p : Nat) (o : SO) : SH := ⟨h.c.set p o⟩
def SH.new (h : SH) (o : SO) : SH := ⟨h.c ++ [o]⟩
theorem SH.get_set (h : SH) (p q : Nat) (o : SO) : (h.set p o).get q = if q = p then (if p < h.nx then some o else none) else h.get q := by
  unfold SH.set SH.get SH.nx
  simp only [List.getElem?_set]
  by_cases z : p = q
  · subst z; simp
  · rw [if_neg z, if_neg (fun y => z y.symm)]
theorem SH.get_set_some {h : SH} {p q : Nat} {o w : SO} (e : (h.set p o).get q = some w) : (q = p ∧ w = o) ∨ (q ≠ p ∧ h.get q = some w) := by
  rw [SH.get_set] at e
  by_cases z : q = p
  · rw [if_pos z] at e
    split at e
    · cases e; exact .inl ⟨z, rfl⟩
    · cases e
  · rw [if_neg z] at e; exact .inr ⟨z, e⟩
theorem SH.get_new (h : SH) (q : Nat) (o : SO) : (h.new o).get q = if q = h.nx then some o else h.get q := by
  unfold SH.new SH.get SH.nx
  rw [List.getElem?_append]
  by_cases z : q < h.c.length
  · rw [if_pos z, if_neg (Nat.ne_of_lt z)]
  · rw [if_neg z]
    by_cases y : q = h.c.length
    · subst y; simp
    · rw [if_neg y, List.getElem?_eq_none (by simp; omega), List.getElem?_eq_none (by omega)]
theorem SH.nx_set (h : SH) (p : Nat) (o : SO) : (h.set p o).nx = h.nx := by unfold SH.nx SH.set; simp
theorem SH.nx_new (h : SH) (o : SO) : (h.new o).nx = h.nx + 1 := by unfold SH.nx SH.new; simp
theorem SH.get_lt {h : SH} {p : Nat} {o : SO} (e : h.get p = some o) : p < h.nx := (List.getElem?_eq_some_iff.mp e).1

/-- the ground: the written part, where the functions stand -/
structure Gd where
  K : PySem.W.Frag
  γ : Nat → Option Addr
abbrev Rho := Nat → Option Addr
/-- a list that nobody writes: known to the object, or of the written part -/
def SqF (K : PySem.W.Frag) (H : Hp) (a : Addr) (xs : List V) : Prop := (∃ o, H a = some (.frz o (.lst xs))) ∨
  ∃ (o : Obj) (its : Array Value) (n : Nat), K.lookup a = some o ∧ o.cls = .type "list" ∧ o.dict = none ∧ o.data = .seq its n ∧ its.size ≤ sizeLine ∧ Vals xs its.toList
theorem SqF.l {K : PySem.W.Frag} {H : Hp} {a : Addr} {xs : List V} (h : SqF K H a xs) : SqL K H a xs := h.elim (fun z => .inl (.inr z)) .inr
/-- a tuple, its object known -/
def PlT (H : Hp) (a : Addr) (vs : List V) : Prop := ∃ o : Obj, H a = some (.frz o (.tup vs)) ∧ o.cls = .type "tuple" ∧ o.dict = none
theorem PlT.t {K : PySem.W.Frag} {H : Hp} {a : Addr} {vs : List V} (h : PlT H a vs) : SqT K H a vs := let ⟨o, e, _⟩ := h; .inl (.inr ⟨o, e⟩)
/-- a list that stays as it is while it's untracked -/
def SqI (ρ : Rho) (K : PySem.W.Frag) (H : Hp) (a : Addr) (xs : List V) : Prop := SqF K H a xs ∨ (H a = some (.lst xs) ∧ ∀ p, ρ p ≠ some a)
theorem SqI.l {ρ : Rho} {K : PySem.W.Frag} {H : Hp} {a : Addr} {xs : List V} (h : SqI ρ K H a xs) : SqL K H a xs := h.elim (·.l) fun z => .inl (.inl z.1)
mutual
inductive Rep (G : Gd) (ρ : Rho) (H : Hp) : SV → V → Prop
  | non : Rep G ρ H .non .non
  | bl (b : Bool) : Rep G ρ H (.bl b) (.bl b)
  | int (i : Int) : Rep G ρ H (.int i) (.int i)
  | str (l : List Nat) : Rep G ρ H (.str l) (.str ⟨⟨l⟩⟩)
  | tup {xs : List SV} {a : Addr} {vs : List V} : SqT G.K H a vs → RepL G ρ H xs vs → Rep G ρ H (.tup xs) (.ref a)
  | loc {p : Nat} {a : Addr} : ρ p = some a → Rep G ρ H (.loc p) (.ref a)
  | fn {k : Nat} {a : Addr} : G.γ k = some a → Rep G ρ H (.fn k) (.ref a)
  | ty (n : BT) : Rep G ρ H (.ty n) (.ty n.name)
  | fl {xs : List SV} {a : Addr} {vs : List V} : SqF G.K H a vs → RepL G ρ H xs vs → Rep G ρ H (.fl xs) (.ref a)
  | ls {xs : List SV} {a : Addr} {vs : List V} : H a = some (.lst vs) → (∀ p, ρ p ≠ some a) → RepL G ρ H xs vs → Rep G ρ H (.ls xs) (.ref a)
  | tp {xs : List SV} {a : Addr} {vs : List V} : PlT H a vs → RepL G ρ H xs vs → Rep G ρ H (.tp xs) (.ref a)
  | fd {kvs : List (SV × SV)} {a : Addr} {ks : List (Key × V)} : H a = some (.dK ks) → (∀ p, ρ p ≠ some a) → RepQ G ρ H kvs ks → Rep G ρ H (.fd kvs) (.ref a)
inductive RepL (G : Gd) (ρ : Rho) (H : Hp) : List SV → List V → Prop
  | nil : RepL G ρ H [] []
  | cons {x : SV} {v : V} {xs : List SV} {vs : List V} : Rep G ρ H x v → RepL G ρ H xs vs → RepL G ρ H (x :: xs) (v :: vs)
inductive RepQ (G : Gd) (ρ : Rho) (H : Hp) : List (SV × SV) → List (Key × V) → Prop
  | nil : RepQ G ρ H [] []
  | cons {k x : SV} {k' : Key} {v : V} {r : List (SV × SV)} {r' : List (Key × V)} : Rep G ρ H k (kV k') → Rep G ρ H x v → RepQ G ρ H r r' → RepQ G ρ H ((k, x) :: r) ((k', v) :: r')
end
def RepP (G : Gd) (ρ : Rho) (H : Hp) : List (SV × SV) → List (Key × V) → Prop
  | [], [] => True
  | (k, x) :: r, (k', v) :: r' => Rep G ρ H k (kV k') ∧ Rep G ρ H x v ∧ RepP G ρ H r r'
  | _, _ => False
theorem RepQ.p {G : Gd} {ρ : Rho} {H : Hp} : ∀ {kvs : List (SV × SV)} {ks : List (Key × V)}, RepQ G ρ H kvs ks → RepP G ρ H kvs ks
  | _, _, .nil => trivial
  | _, _, .cons a b c => ⟨a, b, c.p⟩
theorem RepP.q {G : Gd} {ρ : Rho} {H : Hp} : ∀ {kvs : List (SV × SV)} {ks : List (Key × V)}, RepP G ρ H kvs ks → RepQ G ρ H kvs ks
  | [], [], _ => .nil
  | _ :: _, _ :: _, ⟨a, b, c⟩ => .cons a b c.q
def RepO (G : Gd) (ρ : Rho) (H : Hp) (a : Addr) : SO → Prop
  | .lst xs => ∃ vs, H a = some (.lst vs) ∧ RepL G ρ H xs vs
  | .dic kvs => ∃ ks, H a = some (.dK ks) ∧ RepP G ρ H kvs ks
/-- what is kept: all but what may be written at ρ -/
def Frm (ρ : Rho) (H H' : Hp) : Prop := ∀ a o, H a = some o → ((∀ p, ρ p ≠ some a) ∨ ¬ Mut (some o)) → H' a = some o
structure Sub (ρ ρ' : Rho) (H : Hp) : Prop where
  up : ∀ p a, ρ p = some a → ρ' p = some a
  new : ∀ p a, ρ' p = some a → ρ p = none → H a = none
instance {ρ ρ' : Rho} {H : Hp} : CoeFun (Sub ρ ρ' H) fun _ => ∀ p a, ρ p = some a → ρ' p = some a := ⟨Sub.up⟩
theorem Sub.refl {ρ : Rho} {H : Hp} : Sub ρ ρ H := ⟨fun _ _ e => e, fun _ _ e n => by rw [e] at n; cases n⟩
theorem Sub.not {ρ ρ' : Rho} {H : Hp} (e : Sub ρ ρ' H) {a : Addr} {o : HO} (h : H a = some o) (n : ∀ p, ρ p ≠ some a) : ∀ p, ρ' p ≠ some a := fun p q => by
  cases z : ρ p with
  | none => have := e.new p a q z; rw [h] at this; cases this
  | some b => have y := e.up p b z; rw [q] at y; cases y; exact n p z
structure Ext (ρ ρ' : Rho) (H : Hp) : Prop where
  sub : Sub ρ ρ' H
  inj : ∀ p q a, ρ' p = some a → ρ' q = some a → p = q
structure Sim (G : Gd) (ρ : Rho) (h : SH) (H : Hp) : Prop where
  inj : ∀ p q a, ρ p = some a → ρ q = some a → p = q
  dom : ∀ p a, ρ p = some a → p < h.nx
  liv : ∀ p a, ρ p = some a → ∃ o, H a = some o ∧ Mut (some o)
  obj : ∀ p o, h.get p = some o → ∃ a, ρ p = some a ∧ RepO G ρ H a o

section
variable {G : Gd} {ρ ρ1 ρ2 : Rho} {H H1 H2 : Hp} {h : SH}
theorem Frm.refl (ρ : Rho) (H : Hp) : Frm ρ H H := fun _ _ e _ => e
theorem Ext.refl (s : Sim G ρ h H) : Ext ρ ρ H := ⟨Sub.refl, s.inj⟩
theorem Ext.new (e : Ext ρ ρ1 H) : ∀ p a, ρ1 p = some a → ρ p = none → H a = none := e.sub.new
theorem Frm.trans (f : Frm ρ H H1) (e : Ext ρ ρ1 H) (g : Frm ρ1 H1 H2) : Frm ρ H H2 := fun a o ha hc => by
  refine g a o (f a o ha hc) ?_
  rcases hc with hc | hc
  · refine .inl fun p hp => ?_
    cases q : ρ p with
    | some b =>
      have := e.sub p b q
      rw [this] at hp; cases hp
      exact hc p q
    | none =>
      have := e.new p a hp q
      rw [this] at ha; cases ha
  · exact .inr hc
theorem Ext.trans (e : Ext ρ ρ1 H) (f : Frm ρ H H1) (e' : Ext ρ1 ρ2 H1) : Ext ρ ρ2 H := by
  refine ⟨⟨fun p a q => e'.sub p a (e.sub p a q), fun p a q n => ?_⟩, e'.inj⟩
  cases r : ρ1 p with
  | some b =>
    have := e'.sub p b r
    rw [q] at this; cases this
    exact e.new p a r n
  | none =>
    have z := e'.new p a q r
    cases w : H a with
    | none => rfl
    | some o =>
      by_cases c : ∀ p, ρ p ≠ some a
      · have := f a o w (.inl c)
        rw [z] at this; cases this
      · obtain ⟨p', hp'⟩ := Classical.not_forall.mp c
        have hp' : ρ p' = some a := Classical.not_not.mp hp'
        have e1 := e'.sub p' a (e.sub p' a hp')
        have := e'.inj p p' a q e1
        subst this
        rw [hp'] at n; cases n
theorem sqt_mono {K : PySem.W.Frag} {a : Addr} {vs : List V} (f : Frm ρ H H1) (h : SqT K H a vs) : SqT K H1 a vs := by
  rcases h with (h | ⟨o, h⟩) | h
  · exact .inl (.inl (f _ _ h (.inr fun z => z)))
  · exact .inl (.inr ⟨o, f _ _ h (.inr fun z => z)⟩)
  · exact .inr h
theorem sqf_mono {K : PySem.W.Frag} {a : Addr} {vs : List V} (f : Frm ρ H H1) (h : SqF K H a vs) : SqF K H1 a vs := by
  rcases h with ⟨o, h⟩ | h
  · exact .inl ⟨o, f _ _ h (.inr fun z => z)⟩
  · exact .inr h
theorem sqi_mono {K : PySem.W.Frag} {a : Addr} {vs : List V} (e : Sub ρ ρ1 H) (f : Frm ρ H H1) (h : SqI ρ K H a vs) : SqI ρ1 K H1 a vs := by
  rcases h with h | ⟨h1, h2⟩
  · exact .inl (sqf_mono f h)
  · exact .inr ⟨f _ _ h1 (.inl h2), e.not h1 h2⟩
mutual
theorem Rep.mono (e : Sub ρ ρ1 H) (f : Frm ρ H H1) : ∀ {x : SV} {v : V}, Rep G ρ H x v → Rep G ρ1 H1 x v
  | _, _, .non => .non
  | _, _, .bl b => .bl b
  | _, _, .int i => .int i
  | _, _, .str l => .str l
  | _, _, .tup s r => .tup (sqt_mono f s) (RepL.mono e f r)
  | _, _, .loc q => .loc (e _ _ q)
  | _, _, .fn q => .fn q
  | _, _, .ty n => .ty n
  | _, _, .fl s r => .fl (sqf_mono f s) (RepL.mono e f r)
  | _, _, .ls s n r => .ls (f _ _ s (.inl n)) (e.not s n) (RepL.mono e f r)
  | _, _, .tp s r => .tp (let ⟨o, e1, e2⟩ := s; ⟨o, f _ _ e1 (.inr fun z => z), e2⟩) (RepL.mono e f r)
  | _, _, .fd s n r => .fd (f _ _ s (.inl n)) (e.not s n) (RepQ.mono e f r)
theorem RepL.mono (e : Sub ρ ρ1 H) (f : Frm ρ H H1) : ∀ {xs : List SV} {vs : List V}, RepL G ρ H xs vs → RepL G ρ1 H1 xs vs
  | _, _, .nil => .nil
  | _, _, .cons r t => .cons (Rep.mono e f r) (RepL.mono e f t)
theorem RepQ.mono (e : Sub ρ ρ1 H) (f : Frm ρ H H1) : ∀ {xs : List (SV × SV)} {vs : List (Key × V)}, RepQ G ρ H xs vs → RepQ G ρ1 H1 xs vs
  | _, _, .nil => .nil
  | _, _, .cons a b c => .cons (Rep.mono e f a) (Rep.mono e f b) (RepQ.mono e f c)
end
theorem RepP.mono (e : Sub ρ ρ1 H) (f : Frm ρ H H1) : ∀ {xs : List (SV × SV)} {vs : List (Key × V)}, RepP G ρ H xs vs → RepP G ρ1 H1 xs vs
  | [], [], _ => trivial
  | (k, x) :: r, (k', v) :: r', ⟨a, b, c⟩ => ⟨a.mono e f, b.mono e f, RepP.mono e f c⟩
theorem RepL.length : ∀ {xs : List SV} {vs : List V}, RepL G ρ H xs vs → xs.length = vs.length
  | _, _, .nil => rfl
  | _, _, .cons _ t => by rw [List.length_cons, List.length_cons, t.length]
theorem RepL.get : ∀ {xs : List SV} {vs : List V} {i : Nat} {x : SV}, RepL G ρ H xs vs → xs[i]? = some x → ∃ v, vs[i]? = some v ∧ Rep G ρ H x v
  | _, _, _, _, .nil, e => by simp at e
  | _, _, 0, _, .cons r _, e => by simp at e; subst e; exact ⟨_, rfl, r⟩
  | _, _, i + 1, x, .cons _ t, e => by
    obtain ⟨u, h1, h2⟩ := RepL.get (i := i) (x := x) t (by simpa using e)
    exact ⟨u, by simpa using h1, h2⟩
theorem RepL.append : ∀ {xs ys : List SV} {us ws : List V}, RepL G ρ H xs us → RepL G ρ H ys ws → RepL G ρ H (xs ++ ys) (us ++ ws)
  | _, _, _, _, .nil, s => s
  | _, _, _, _, .cons r t, s => .cons r (RepL.append t s)
theorem RepL.take : ∀ {xs : List SV} {us : List V} (n : Nat), RepL G ρ H xs us → RepL G ρ H (xs.take n) (us.take n)
  | _, _, 0, _ => .nil
  | _, _, _ + 1, .nil => .nil
  | _, _, n + 1, .cons r t => .cons r (RepL.take n t)
theorem RepL.drop : ∀ {xs : List SV} {us : List V} (n : Nat), RepL G ρ H xs us → RepL G ρ H (xs.drop n) (us.drop n)
  | _, _, 0, r => r
  | _, _, _ + 1, .nil => .nil
  | _, _, n + 1, .cons _ t => RepL.drop n t
theorem RepL.set {x : SV} {u : V} (r : Rep G ρ H x u) : ∀ {xs : List SV} {us : List V} (i : Nat), RepL G ρ H xs us → RepL G ρ H (xs.set i x) (us.set i u)
  | _, _, _, .nil => .nil
  | _, _, 0, .cons _ t => .cons r t
  | _, _, i + 1, .cons q t => .cons q (RepL.set r i t)
/-- a new thing at p -/
theorem frm_new {p : Addr} {o : HO} (hp : H p = none) : Frm ρ H (upd H p o) := fun a u e _ => by
  rw [upd_ne (ne_of_none e hp)]; exact e
theorem RepO.mono {a : Addr} {o : SO} (e : Sub ρ ρ1 H) (f : Frm ρ H H1) (ha : ∀ u, H a = some u → H1 a = some u) (r : RepO G ρ H a o) : RepO G ρ1 H1 a o := by
  cases o with
  | lst xs => obtain ⟨vs, q, r⟩ := r; exact ⟨vs, ha _ q, r.mono e f⟩
  | dic kvs => obtain ⟨ks, q, r⟩ := r; exact ⟨ks, ha _ q, r.mono e f⟩
/-- something new that ρ does not know -/
theorem Sim.newT (s : Sim G ρ h H) {p : Addr} {o : HO} (hp : H p = none) : Sim G ρ h (upd H p o) where
  inj := s.inj
  dom := s.dom
  liv := fun q a e => by
    obtain ⟨u, hu, m⟩ := s.liv q a e
    exact ⟨u, by rw [upd_ne (ne_of_none hu hp)]; exact hu, m⟩
  obj := fun q u e => by
    obtain ⟨a, e1, r⟩ := s.obj q u e
    obtain ⟨w, hw, _⟩ := s.liv q a e1
    refine ⟨a, e1, r.mono Sub.refl (frm_new hp) fun u hu => ?_⟩
    rw [upd_ne (ne_of_none hu hp)]; exact hu
def radd (ρ : Rho) (p : Nat) (a : Addr) : Rho := fun q => if q = p then some a else ρ q
theorem radd_same {p : Nat} {a : Addr} : radd ρ p a p = some a := by unfold radd; rw [if_pos rfl]
theorem radd_ne {p q : Nat} {a : Addr} (n : q ≠ p) : radd ρ p a q = ρ q := by unfold radd; rw [if_neg n]
theorem Sim.fresh (s : Sim G ρ h H) : ρ h.nx = none := by
  cases e : ρ h.nx with
  | none => rfl
  | some a => exact absurd (s.dom _ _ e) (Nat.lt_irrefl _)
theorem Sim.sub (s : Sim G ρ h H) {a : Addr} (ha : H a = none) : Sub ρ (radd ρ h.nx a) H := ⟨fun p b e => by
  rw [radd_ne (fun z => by rw [z, s.fresh] at e; cases e)]; exact e, fun p b e n => by
  by_cases z : p = h.nx
  · subst z; rw [radd_same] at e; cases e; exact ha
  · rw [radd_ne z, n] at e; cases e⟩
theorem Sim.notin (s : Sim G ρ h H) {a : Addr} (ha : H a = none) : ∀ p, ρ p ≠ some a := fun p e => by
  obtain ⟨o, q, _⟩ := s.liv p a e
  rw [ha] at q; cases q
theorem Sim.extN (s : Sim G ρ h H) {a : Addr} (ha : H a = none) : Ext ρ (radd ρ h.nx a) H := by
  refine ⟨s.sub ha, fun p q b e1 e2 => ?_⟩
  · by_cases z : p = h.nx
    · by_cases z' : q = h.nx
      · rw [z, z']
      · rw [z, radd_same] at e1; rw [radd_ne z'] at e2; cases e1
        exact absurd e2 (s.notin ha q)
    · by_cases z' : q = h.nx
      · rw [z', radd_same] at e2; rw [radd_ne z] at e1; cases e2
        exact absurd e1 (s.notin ha p)
      · rw [radd_ne z] at e1; rw [radd_ne z'] at e2; exact s.inj _ _ _ e1 e2
/-- a new object, tracked at the next key -/
theorem Sim.new (s : Sim G ρ h H) {a : Addr} {u : HO} {o : SO} (ha : H a = none) (m : Mut (some u)) (r : RepO G (radd ρ h.nx a) (upd H a u) a o) : Sim G (radd ρ h.nx a) (h.new o) (upd H a u) where
  inj := (s.extN ha).inj
  dom := fun p b e => by
    rw [SH.nx_new]
    by_cases z : p = h.nx
    · rw [z]; exact Nat.lt_succ_self _
    · rw [radd_ne z] at e; exact Nat.lt_succ_of_lt (s.dom _ _ e)
  liv := fun p b e => by
    by_cases z : p = h.nx
    · subst z; rw [radd_same] at e; cases e; exact ⟨u, upd_same, m⟩
    · rw [radd_ne z] at e
      obtain ⟨w, hw, mw⟩ := s.liv p b e
      exact ⟨w, by rw [upd_ne (ne_of_none hw ha)]; exact hw, mw⟩
  obj := fun p w e => by
    rw [SH.get_new] at e
    by_cases z : p = h.nx
    · rw [if_pos z] at e; cases e; rw [z]; exact ⟨a, radd_same, r⟩
    · rw [if_neg z] at e
      obtain ⟨b, e1, r1⟩ := s.obj p w e
      exact ⟨b, by rw [radd_ne z]; exact e1, r1.mono (s.sub ha) (frm_new ha) fun u' hu => by rw [upd_ne (ne_of_none hu ha)]; exact hu⟩
/-- a tracked object is written -/
theorem frm_upd {a : Addr} {p : Nat} {o : HO} {u : HO} (hp : ρ p = some a) (m : Mut (H a)) : Frm ρ H (upd H a u) := fun b w e hc => by
  by_cases z : b = a
  · subst z
    rcases hc with hc | hc
    · exact absurd hp (hc p)
    · rw [e] at m; exact absurd m hc
  · rw [upd_ne z]; exact e
theorem Sim.mut (s : Sim G ρ h H) {a : Addr} {p : Nat} (hp : ρ p = some a) : Mut (H a) := by
  obtain ⟨o, e, m⟩ := s.liv p a hp
  rw [e]; exact m
theorem Sim.write (s : Sim G ρ h H) {a : Addr} {p : Nat} {u : HO} {o : SO} (hp : ρ p = some a) (m : Mut (some u)) (r : RepO G ρ (upd H a u) a o) : Sim G ρ (h.set p o) (upd H a u) where
  inj := s.inj
  dom := fun q b e => by rw [SH.nx_set]; exact s.dom q b e
  liv := fun q b e => by
    by_cases z : b = a
    · rw [z]; exact ⟨u, upd_same, m⟩
    · rw [upd_ne z]; exact s.liv q b e
  obj := fun q w e => by
    rcases SH.get_set_some e with ⟨z, e⟩ | ⟨z, e⟩
    · rw [z, e]; exact ⟨a, hp, r⟩
    · obtain ⟨b, e1, r1⟩ := s.obj q w e
      have nb : b ≠ a := fun y => by rw [y] at e1; exact z (s.inj _ _ _ e1 hp)
      exact ⟨b, e1, r1.mono Sub.refl (frm_upd (o := u) hp (s.mut hp)) fun u' hu => by rw [upd_ne nb]; exact hu⟩
theorem Sim.lst (s : Sim G ρ h H) {p : Nat} {xs : List SV} (e : h.get p = some (.lst xs)) : ∃ a vs, ρ p = some a ∧ H a = some (.lst vs) ∧ RepL G ρ H xs vs := by
  obtain ⟨a, e1, vs, e2, r⟩ := s.obj p _ e
  exact ⟨a, vs, e1, e2, r⟩
theorem Sim.dic (s : Sim G ρ h H) {p : Nat} {xs : List (SV × SV)} (e : h.get p = some (.dic xs)) : ∃ a vs, ρ p = some a ∧ H a = some (.dK vs) ∧ RepP G ρ H xs vs := by
  obtain ⟨a, e1, vs, e2, r⟩ := s.obj p _ e
  exact ⟨a, vs, e1, e2, r⟩
/-- the items of a list: tracked, or nobody's -/
def lstOf (h : SH) (x : SV) : Option (List SV) := match x with
  | .loc p => match h.get p with
    | some (.lst xs) => some xs
    | _ => none
  | .ls xs => some xs
  | _ => none
def dicOf (h : SH) (x : SV) : Option (List (SV × SV)) := match x with
  | .loc p => match h.get p with
    | some (.dic xs) => some xs
    | _ => none
  | .fd xs => some xs
  | _ => none
theorem lstOf_ok (s : Sim G ρ h H) {x : SV} {x' : V} {xs : List SV} (r : Rep G ρ H x x') (e : lstOf h x = some xs) : ∃ a vs, x' = .ref a ∧ H a = some (.lst vs) ∧ RepL G ρ H xs vs := by
  cases r with
  | loc hp =>
    rename_i p a
    unfold lstOf at e
    cases q : h.get p with
    | none => simp [q] at e
    | some o =>
      cases o with
      | lst ys =>
        simp [q] at e
        subst e
        obtain ⟨a', vs, h1, h2, rl⟩ := s.lst q
        rw [hp] at h1; cases h1
        exact ⟨a, vs, rfl, h2, rl⟩
      | dic ys => simp [q] at e
  | ls ha n rl => cases e; exact ⟨_, _, rfl, ha, rl⟩
  | _ => cases e
theorem dicOf_ok (s : Sim G ρ h H) {x : SV} {x' : V} {xs : List (SV × SV)} (r : Rep G ρ H x x') (e : dicOf h x = some xs) : ∃ a vs, x' = .ref a ∧ H a = some (.dK vs) ∧ RepP G ρ H xs vs := by
  cases r with
  | loc hp =>
    rename_i p a
    unfold dicOf at e
    cases q : h.get p with
    | none => simp [q] at e
    | some o =>
      cases o with
      | dic ys =>
        simp [q] at e
        subst e
        obtain ⟨a', vs, h1, h2, rl⟩ := s.dic q
        rw [hp] at h1; cases h1
        exact ⟨a, vs, rfl, h2, rl⟩
      | lst ys => simp [q] at e
  | fd ha n rl => cases e; exact ⟨_, _, rfl, ha, rl.p⟩
  | _ => cases e
end
end Fv
/-! Ev2: outcomes; expressions. -/
namespace Fv
open PySem PySem.Spec PyProof.Rows L2

/-- an exception: its class's number, its fields -/
structure SX where
  k : Nat
  fs : List (Str × SV)
inductive Out (α : Type) where
  | ok (a : α) (h : SH) | exc (x : SX) (h : SH) | bad
abbrev XW := SX → SH → Rho → Hp → Prop
def Post (G : Gd) (ρ : Rho) (H : Hp) (h' : SH) (R : Rho → Hp → Prop) : Prop := ∀ ρ' H', Ext ρ ρ' H → Sim G ρ' h' H' → Frm ρ H H' → R ρ' H'
def Good {α : Type} (G : Gd) (W : XW) (ρ : Rho) (H : Hp) (o : Out α) (R : α → Rho → Hp → Prop) : Prop := match o with
  | .ok a h' => Post G ρ H h' (R a)
  | .exc x h' => Post G ρ H h' (W x h')
  | .bad => False
section
variable {G : Gd} {W : XW} {ρ ρ1 : Rho} {H H1 : Hp} {h h' : SH} {α : Type}
theorem Post.step {R : Rho → Hp → Prop} (e : Ext ρ ρ1 H) (f : Frm ρ H H1) (g : Post G ρ H h' R) : Post G ρ1 H1 h' R := fun ρ' H' e' s' f' => g ρ' H' (e.trans f e') s' (f.trans e f')
theorem Good.step {o : Out α} {R : α → Rho → Hp → Prop} (e : Ext ρ ρ1 H) (f : Frm ρ H H1) (g : Good G W ρ H o R) : Good G W ρ1 H1 o R := by
  cases o with
  | ok a h' => exact Post.step e f g
  | exc x h' => exact Post.step e f g
  | bad => exact g
theorem Good.imp {o : Out α} {R R' : α → Rho → Hp → Prop} (i : ∀ a ρ' H', R a ρ' H' → R' a ρ' H') (g : Good G W ρ H o R) : Good G W ρ H o R' := by
  cases o with
  | ok a h' => exact fun ρ' H' e s f => i _ _ _ (g ρ' H' e s f)
  | exc x h' => exact g
  | bad => exact g
theorem Good.here {a : α} {R : α → Rho → Hp → Prop} (s : Sim G ρ h H) (g : Good G W ρ H (.ok a h) R) : R a ρ H := g ρ H (Ext.refl s) s (Frm.refl ρ H)
theorem Good.new {a : α} {R : α → Rho → Hp → Prop} {o : SO} {u : HO} {p : Addr} (s : Sim G ρ h H) (g : Good G W ρ H (.ok a (h.new o)) R) (hp : H p = none) (m : Mut (some u)) (r : RepO G (radd ρ h.nx p) (upd H p u) p o) :
    R a (radd ρ h.nx p) (upd H p u) := g _ _ (s.extN hp) (s.new hp m r) (frm_new hp)
theorem Good.newT {a : α} {R : α → Rho → Hp → Prop} {u : HO} {p : Addr} (s : Sim G ρ h H) (g : Good G W ρ H (.ok a h) R) (hp : H p = none) :
    R a ρ (upd H p u) := g _ _ (Ext.refl s) (s.newT hp) (frm_new hp)
theorem Good.write {a : α} {R : α → Rho → Hp → Prop} {o : SO} {u : HO} {p : Nat} {c : Addr} (s : Sim G ρ h H) (g : Good G W ρ H (.ok a (h.set p o)) R) (hp : ρ p = some c) (m : Mut (some u)) (r : RepO G ρ (upd H c u) c o) :
    R a ρ (upd H c u) := g _ _ (Ext.refl s) (s.write hp m r) (frm_upd (o := u) hp (s.mut hp))
end

abbrev Sl := List (Option SV)
structure EnvR (G : Gd) (ρ : Rho) (H : Hp) (η : Sl) (σ : L2.St) : Prop where
  len : η.length ≤ σ.length
  at_ : ∀ (i : Nat) v, η[i]? = some (some v) → ∃ v', σ[i]? = some (some v') ∧ Rep G ρ H v v'
theorem EnvR.mono {G : Gd} {ρ ρ1 : Rho} {H H1 : Hp} {η : Sl} {σ : L2.St} (r : EnvR G ρ H η σ) (e : Ext ρ ρ1 H) (f : Frm ρ H H1) : EnvR G ρ1 H1 η σ :=
  ⟨r.len, fun i v q => let ⟨v', q1, q2⟩ := r.at_ i v q; ⟨v', q1, q2.mono e.sub f⟩⟩
theorem EnvR.set {G : Gd} {ρ : Rho} {H : Hp} {η : Sl} {σ : L2.St} (r : EnvR G ρ H η σ) (i : Nat) {v : SV} {v' : V} (rv : Rep G ρ H v v') : EnvR G ρ H (η.set i (some v)) (σ.set i (some v')) := by
  refine ⟨by rw [List.length_set, List.length_set]; exact r.len, fun j w q => ?_⟩
  by_cases z : i = j
  · subst z
    by_cases hi : i < η.length
    · rw [List.getElem?_set_self hi] at q
      cases q
      exact ⟨v', List.getElem?_set_self (Nat.lt_of_lt_of_le hi r.len), rv⟩
    · rw [List.getElem?_eq_none (by rw [List.length_set]; omega)] at q; cases q
  · rw [List.getElem?_set_ne z] at q
    obtain ⟨w', q1, q2⟩ := r.at_ j w q
    exact ⟨w', by rw [List.getElem?_set_ne z]; exact q1, q2⟩

/-! ### readings -/
abbrev F := Sl → SH → Out SV
abbrev FT := Sl → SH → Out Bool
abbrev FA := Sl → SH → Out (List SV)
abbrev RQ (G : Gd) (Q : VK) : SV → Rho → Hp → Prop := fun v ρ' H' => ∀ v', Rep G ρ' H' v v' → Q v' H'
def tE (G : Gd) (W : XW) (f : F) : TE := fun σ H Q => ∃ ρ η h, EnvR G ρ H η σ ∧ Sim G ρ h H ∧ Good G W ρ H (f η h) (RQ G Q)
def tT (G : Gd) (W : XW) (f : FT) : TT := fun σ H Q => ∃ ρ η h, EnvR G ρ H η σ ∧ Sim G ρ h H ∧ Good G W ρ H (f η h) (fun b _ H' => Q b H')
def tA (G : Gd) (W : XW) (f : FA) : TA := fun σ H Q => ∃ ρ η h, EnvR G ρ H η σ ∧ Sim G ρ h H ∧ Good G W ρ H (f η h) (fun vs ρ' H' => ∀ vs', RepL G ρ' H' vs vs' → Q vs' H')

theorem _root_.L2.PE.impX {X : Cx} {e : Expr} {t t' : TE} (p : PE X e t) (i : ∀ σ H Q, t' σ H Q → t σ H Q) : PE X e t' := ⟨fun pins s σ H Q I q => p.run pins s σ H Q I (i σ H Q q)⟩
theorem _root_.L2.PT.impX {X : Cx} {e : Expr} {t t' : TT} (p : PT X e t) (i : ∀ σ H Q, t' σ H Q → t σ H Q) : PT X e t' := ⟨fun pins s σ H Q I q => p.run pins s σ H Q I (i σ H Q q)⟩
theorem _root_.L2.PA.impX {X : Cx} {e : List Expr} {t t' : TA} (p : PA X e t) (i : ∀ σ H Q, t' σ H Q → t σ H Q) : PA X e t' := ⟨fun pos pins s σ H Q I q => p.run pos pins s σ H Q I (i σ H Q q)⟩

def Out.bind {α β : Type} (o : Out α) (k : α → SH → Out β) : Out β := match o with
  | .ok a h => k a h
  | .exc x h => .exc x h
  | .bad => .bad
@[simp] theorem bind_ok {α β : Type} {a : α} {h : SH} {k : α → SH → Out β} : (Out.ok a h).bind k = k a h := rfl
@[simp] theorem bind_bad {α β : Type} {k : α → SH → Out β} : (Out.bad : Out α).bind k = .bad := rfl
@[simp] theorem bind_exc {α β : Type} {x : SX} {h : SH} {k : α → SH → Out β} : (Out.exc x h : Out α).bind k = .exc x h := rfl
/-- behind the first part: the rest, from wherever that leads -/
theorem Good.bind {α β : Type} {G : Gd} {W : XW} {ρ : Rho} {H : Hp} {o : Out α} {k : α → SH → Out β} {R : β → Rho → Hp → Prop} {R1 : α → Rho → Hp → Prop}
    (g : Good G W ρ H (o.bind k) R) (i : ∀ a h1 ρ1 H1, Ext ρ ρ1 H → Sim G ρ1 h1 H1 → Frm ρ H H1 → Good G W ρ1 H1 (k a h1) R → R1 a ρ1 H1) : Good G W ρ H o R1 := by
  cases o with
  | ok a h1 => exact fun ρ1 H1 e s f => i a h1 ρ1 H1 e s f (Good.step e f g)
  | exc x h1 => exact g
  | bad => exact g

section
variable {X : Cx} {G : Gd} {W : XW}
/-! ### names, constants -/
def slot : Sl → Nat → Option SV
  | [], _ => none
  | v :: _, 0 => v
  | _ :: r, n + 1 => slot r n
theorem slot_eq : ∀ (η : Sl) (i : Nat) {v : SV}, slot η i = some v → η[i]? = some (some v)
  | [], _, _, e => by cases e
  | _ :: _, 0, _, e => by simpa [slot] using e
  | _ :: r, n + 1, _, e => by simpa using slot_eq r n (by simpa [slot] using e)
def fVar (i : Nat) : F := fun η h => match slot η i with
  | some v => .ok v h
  | none => .bad
theorem e_var {i : Nat} {e : Expr} (p : PE X e (tVar i)) : PE X e (tE G W (fVar i)) := p.impX fun σ H Q ⟨ρ, η, h, r, s, g⟩ => by
  unfold fVar at g
  cases q : slot η i with
  | none => rw [q] at g; exact g.elim
  | some v =>
    rw [q] at g
    obtain ⟨v', q1, q2⟩ := r.at_ i v (slot_eq η i q)
    exact ⟨v', q1, g.here s v' q2⟩
def fC (v : SV) : F := fun _ h => .ok v h
/-- a value that stands for v wherever one is -/
def Stat (G : Gd) (v : SV) (v' : V) : Prop := ∀ ρ H, Rep G ρ H v v'
theorem e_c {v : SV} {v' : V} {e : Expr} (p : PE X e (tC v')) (st : Stat G v v') : PE X e (tE G W (fC v)) := p.impX fun σ H Q ⟨ρ, η, h, r, s, g⟩ => g.here s v' (st ρ H)
theorem e_int {i j pos} : PE X (.Constant (.int i) j pos) (tE G W (fC (.int i))) := e_c pe_int fun _ _ => .int i
theorem e_bl {b j pos} : PE X (.Constant (.bool b) j pos) (tE G W (fC (.bl b))) := e_c pe_bl fun _ _ => .bl b
theorem e_non {j pos} : PE X (.Constant .none j pos) (tE G W (fC .non)) := e_c pe_non fun _ _ => .non
theorem e_str {x j pos} : PE X (.Constant (.str x) j pos) (tE G W (fC (.str x.cps.toList))) := e_c pe_str fun _ _ => .str x.cps.toList

/-! ### operators -/
abbrev G2 := SV → SV → SH → Out SV
abbrev G1 := SV → SH → Out SV
def OpG (G : Gd) (W : XW) (r : R2) (g : G2) : Prop := ∀ ρ h H x y x' y' Q, Sim G ρ h H → Rep G ρ H x x' → Rep G ρ H y y' → Good G W ρ H (g x y h) (RQ G Q) → r x' y' H Q
def UnG (G : Gd) (W : XW) (r : V → Hp → VK → Prop) (g : G1) : Prop := ∀ ρ h H x x' Q, Sim G ρ h H → Rep G ρ H x x' → Good G W ρ H (g x h) (RQ G Q) → r x' H Q
def fOp (g : G2) (a b : F) : F := fun η h => (a η h).bind fun x h => (b η h).bind fun y h => g x y h
def fUn (g : G1) (a : F) : F := fun η h => (a η h).bind fun x h => g x h
theorem op_imp {r : R2} {g : G2} {fa fb : F} (og : OpG G W r g) {σ : L2.St} {H : Hp} {Q : VK} (t : tE G W (fOp g fa fb) σ H Q) : tOp r (tE G W fa) (tE G W fb) σ H Q := by
  obtain ⟨ρ, η, h, r, s, g⟩ := t
  refine ⟨ρ, η, h, r, s, g.bind fun x h1 ρ1 H1 e1 s1 f1 g1 x' rx => ?_⟩
  refine ⟨ρ1, η, h1, r.mono e1 f1, s1, g1.bind fun y h2 ρ2 H2 e2 s2 f2 g2 y' ry => ?_⟩
  exact og ρ2 h2 H2 x y x' y' Q s2 (rx.mono e2.sub f2) ry g2
theorem un_imp {r : V → Hp → VK → Prop} {g : G1} {fa : F} (og : UnG G W r g) {σ : L2.St} {H : Hp} {Q : VK} (t : tE G W (fUn g fa) σ H Q) : tUn r (tE G W fa) σ H Q := by
  obtain ⟨ρ, η, h, r, s, g⟩ := t
  exact ⟨ρ, η, h, r, s, g.bind fun x h1 ρ1 H1 e1 s1 f1 g1 x' rx => og ρ1 h1 H1 x x' Q s1 rx g1⟩
theorem e_op {op : Operator} {r : R2} {g : G2} {a b : Expr} {fa fb : F} {pos : Pos} (ho : OpR X (binaryOp op) r) (og : OpG G W r g) (ha : PE X a (tE G W fa)) (hb : PE X b (tE G W fb)) : PE X (.BinOp a op b pos) (tE G W (fOp g fa fb)) :=
  (pe_op ho ha hb).impX fun _ _ _ t => op_imp og t
theorem e_un {op : UnaryOp} {r : V → Hp → VK → Prop} {g : G1} {a : Expr} {fa : F} {pos : Pos} (ho : UnR X (unaryOp op) r) (og : UnG G W r g) (ha : PE X a (tE G W fa)) : PE X (.UnaryOp op a pos) (tE G W (fUn g fa)) :=
  (pe_un ho ha).impX fun _ _ _ t => un_imp og t
theorem e_cmp {op : CmpOp} {r : R2} {g : G2} {a b : Expr} {fa fb : F} {pos : Pos} (ho : OpR X (compareOp op) r) (og : OpG G W r g) (ha : PE X a (tE G W fa)) (hb : PE X b (tE G W fb)) (hm : behindInMarks op b = false) : PE X (.Compare a [op] [b] pos) (tE G W (fOp g fa fb)) :=
  (pe_cmpR ho ha hb hm).impX fun _ _ _ t => op_imp og t
theorem e_ix {r : R2} {g : G2} {a b : Expr} {fa fb : F} {pos : Pos} (ho : IxR X r) (og : OpG G W r g) (ha : PE X a (tE G W fa)) (hb : PE X b (tE G W fb)) (hs : PlainIx b) : PE X (.Subscript a b pos) (tE G W (fOp g fa fb)) :=
  (pe_ix ho ha hb hs).impX fun _ _ _ t => op_imp og t

/-! ### tests -/
def fTst (a : F) : FT := fun η h => (a η h).bind fun x h => match x with
  | .bl b => .ok b h
  | _ => .bad
theorem tst_imp {fa : F} {σ : L2.St} {H : Hp} {Q : Bool → Hp → Prop} (t : tT G W (fTst fa) σ H Q) : tE G W fa σ H fun x H' => ∃ k, x = .bl k ∧ Q k H' := by
  obtain ⟨ρ, η, h, r, s, g⟩ := t
  refine ⟨ρ, η, h, r, s, g.bind fun x h1 ρ1 H1 e1 s1 f1 g1 x' rx => ?_⟩
  cases rx with
  | bl b => exact ⟨b, rfl, g1.here s1⟩
  | _ => exact g1.elim
theorem t_cmp {op : CmpOp} {r : R2} {g : G2} {a b : Expr} {fa fb : F} {pos : Pos} (ho : OpR X (compareOp op) r) (og : OpG G W r g) (ha : PE X a (tE G W fa)) (hb : PE X b (tE G W fb)) (hm : behindInMarks op b = false) : PT X (.Compare a [op] [b] pos) (tT G W (fTst (fOp g fa fb))) :=
  (pt_cmpR ho ha hb hm).impX fun σ H Q t => op_imp og (Q := fun x H' => ∃ k, x = .bl k ∧ Q k H') (tst_imp t)
/-- truth of any value -/
def truS (x : SV) (h : SH) : Option Bool := match x with
  | .non => some false
  | .bl b => some b
  | .int i => some (i != 0)
  | .tup xs => some (!xs.isEmpty)
  | .tp xs => some (!xs.isEmpty)
  | .fl xs => some (!xs.isEmpty)
  | .ls xs => some (!xs.isEmpty)
  | .fd xs => some (!xs.isEmpty)
  | .str l => if l.length ≤ sizeLine then some ((l.length : Int) != 0) else none
  | .loc p => match h.get p with
    | some (.lst xs) => some (!xs.isEmpty)
    | some (.dic xs) => some (!xs.isEmpty)
    | none => none
  | _ => none
def fTru (a : F) : FT := fun η h => (a η h).bind fun x h => match truS x h with
  | some b => .ok b h
  | none => .bad
theorem RepL.isEmpty {ρ : Rho} {H : Hp} {xs : List SV} {vs : List V} (r : RepL G ρ H xs vs) : xs.isEmpty = vs.isEmpty := by cases r <;> rfl
theorem RepP.isEmpty {ρ : Rho} {H : Hp} : ∀ {xs : List (SV × SV)} {vs : List (Key × V)}, RepP G ρ H xs vs → xs.isEmpty = vs.isEmpty
  | [], [], _ => rfl
  | _ :: _, _ :: _, _ => rfl
theorem truS_ok {ρ : Rho} {h : SH} {H : Hp} {x : SV} {x' : V} {b : Bool} (s : Sim G ρ h H) (r : Rep G ρ H x x') (e : truS x h = some b) : TruV G.K x' H b := by
  cases r with
  | non => cases e; rfl
  | bl b => cases e; rfl
  | int i => cases e; rfl
  | str l =>
    unfold truS at e
    by_cases c : l.length ≤ sizeLine
    · refine ⟨c, ?_⟩
      simp only [c, if_true] at e
      exact (Option.some.inj e).symm
    · exfalso
      simp [c] at e
  | tup sq rl =>
    cases e
    exact .inr (.inl ⟨_, sq, by rw [rl.isEmpty]⟩)
  | loc hp =>
    rename_i p a
    unfold truS at e
    cases q : h.get p with
    | none => simp [q] at e
    | some o =>
      cases o with
      | lst xs =>
        simp [q] at e
        obtain ⟨a', vs, h1, h2, rl⟩ := s.lst q
        rw [hp] at h1; cases h1
        exact .inl ⟨vs, .inl (.inl h2), by rw [← rl.isEmpty, e]; simp⟩
      | dic xs =>
        simp [q] at e
        obtain ⟨a', vs, h1, h2, rl⟩ := s.dic q
        rw [hp] at h1; cases h1
        exact .inr (.inr ⟨vs, h2, by rw [← rl.isEmpty, e]; simp⟩)
  | fl sq rl =>
    cases e
    exact .inl ⟨_, sq.l, by rw [rl.isEmpty]⟩
  | tp sq rl =>
    cases e
    exact .inr (.inl ⟨_, sq.t, by rw [rl.isEmpty]⟩)
  | ls ha hn rl =>
    cases e
    exact .inl ⟨_, .inl (.inl ha), by rw [rl.isEmpty]⟩
  | fd hd hn rq =>
    cases e
    exact .inr (.inr ⟨_, hd, by rw [← rq.p.isEmpty]⟩)
  | fn _ => cases e
  | ty _ => cases e
theorem t_tru {a : Expr} {fa : F} (hK : X.K = G.K) (ha : PE X a (tE G W fa)) (he : ∀ whole, isTrue a X.env whole = (do let v ← whole; standAt a.pos; holding [v] (truthy v))) : PT X a (tT G W (fTru fa)) :=
  (pt_truth ha he).impX fun σ H Q ⟨ρ, η, h, r, s, g⟩ => by
    refine ⟨ρ, η, h, r, s, g.bind fun x h1 ρ1 H1 e1 s1 f1 g1 x' rx => ?_⟩
    cases q : truS x h1 with
    | none => rw [q] at g1; exact g1.elim
    | some b =>
      rw [q] at g1
      exact ⟨b, by rw [hK]; exact truS_ok s1 rx q, g1.here s1⟩
def fAndT (a b : FT) : FT := fun η h => (a η h).bind fun x h => if x = true then b η h else .ok false h
def fOrT (a b : FT) : FT := fun η h => (a η h).bind fun x h => if x = true then .ok true h else b η h
def fNotT (a : FT) : FT := fun η h => (a η h).bind fun x h => .ok (!x) h
theorem _root_.L2.PW.impX {X : Cx} {e : Expr} {t t' : TT} (p : PW X e t) (i : ∀ σ H Q, t' σ H Q → t σ H Q) : PW X e t' := ⟨fun wh pins s σ H Q I q => p.run wh pins s σ H Q I (i σ H Q q)⟩
variable {a b : Expr} {rest : List Expr} {pos : Pos} {fa fb fc : F} {ta tb : FT}
theorem w_and1 (ha : PT X a (tT G W ta)) : PW X (.BoolOp .And [a] pos) (tT G W ta) := pw_and1 ha
theorem w_or1 (ha : PT X a (tT G W ta)) : PW X (.BoolOp .Or [a] pos) (tT G W ta) := pw_or1 ha
theorem w_and (ha : PT X a (tT G W ta)) (hb : PW X (.BoolOp .And (b :: rest) pos) (tT G W tb)) : PW X (.BoolOp .And (a :: b :: rest) pos) (tT G W (fAndT ta tb)) :=
  (pw_and ha hb).impX fun σ H Q ⟨ρ, η, h, r, s, g⟩ => by
    refine ⟨ρ, η, h, r, s, g.bind fun x h1 ρ1 H1 e1 s1 f1 g1 => ?_⟩
    cases x with
    | true => exact ⟨ρ1, η, h1, r.mono e1 f1, s1, g1⟩
    | false => exact g1.here s1
theorem w_or (ha : PT X a (tT G W ta)) (hb : PW X (.BoolOp .Or (b :: rest) pos) (tT G W tb)) : PW X (.BoolOp .Or (a :: b :: rest) pos) (tT G W (fOrT ta tb)) :=
  (pw_or ha hb).impX fun σ H Q ⟨ρ, η, h, r, s, g⟩ => by
    refine ⟨ρ, η, h, r, s, g.bind fun x h1 ρ1 H1 e1 s1 f1 g1 => ?_⟩
    cases x with
    | true => exact g1.here s1
    | false => exact ⟨ρ1, η, h1, r.mono e1 f1, s1, g1⟩
theorem t_not (ha : PT X a (tT G W ta)) : PT X (.UnaryOp .Not a pos) (tT G W (fNotT ta)) :=
  (pt_not ha).impX fun σ H Q ⟨ρ, η, h, r, s, g⟩ => ⟨ρ, η, h, r, s, g.bind fun x h1 ρ1 H1 e1 s1 f1 g1 => g1.here s1⟩
/-! ### and, or, not, if as values -/
def fAnd (a b : F) : F := fun η h => (a η h).bind fun x h => match x with
  | .bl true => b η h
  | .bl false => .ok (.bl false) h
  | _ => .bad
def fOr (a b : F) : F := fun η h => (a η h).bind fun x h => match x with
  | .bl true => .ok (.bl true) h
  | .bl false => b η h
  | _ => .bad
def fNot (a : F) : F := fun η h => (a η h).bind fun x h => match x with
  | .bl b => .ok (.bl (!b)) h
  | _ => .bad
theorem e_one {op} (h : PE X a (tE G W fa)) : PE X (.BoolOp op [a] pos) (tE G W fa) := pe_one h
theorem e_and (ha : PE X a (tE G W fa)) (hb : PE X (.BoolOp .And (b :: rest) pos) (tE G W fb)) : PE X (.BoolOp .And (a :: b :: rest) pos) (tE G W (fAnd fa fb)) :=
  (pe_and ha hb).impX fun σ H Q ⟨ρ, η, h, r, s, g⟩ => by
    refine ⟨ρ, η, h, r, s, g.bind fun x h1 ρ1 H1 e1 s1 f1 g1 x' rx => ?_⟩
    cases rx with
    | bl b =>
      refine ⟨b, rfl, ?_⟩
      cases b with
      | true => exact ⟨ρ1, η, h1, r.mono e1 f1, s1, g1⟩
      | false => exact g1.here s1 _ (.bl false)
    | _ => exact g1.elim
theorem e_or (ha : PE X a (tE G W fa)) (hb : PE X (.BoolOp .Or (b :: rest) pos) (tE G W fb)) : PE X (.BoolOp .Or (a :: b :: rest) pos) (tE G W (fOr fa fb)) :=
  (pe_or ha hb).impX fun σ H Q ⟨ρ, η, h, r, s, g⟩ => by
    refine ⟨ρ, η, h, r, s, g.bind fun x h1 ρ1 H1 e1 s1 f1 g1 x' rx => ?_⟩
    cases rx with
    | bl b =>
      refine ⟨b, rfl, ?_⟩
      cases b with
      | true => exact g1.here s1 _ (.bl true)
      | false => exact ⟨ρ1, η, h1, r.mono e1 f1, s1, g1⟩
    | _ => exact g1.elim
theorem e_not (ha : PE X a (tE G W fa)) : PE X (.UnaryOp .Not a pos) (tE G W (fNot fa)) :=
  (pe_not ha).impX fun σ H Q ⟨ρ, η, h, r, s, g⟩ => by
    refine ⟨ρ, η, h, r, s, g.bind fun x h1 ρ1 H1 e1 s1 f1 g1 x' rx => ?_⟩
    cases rx with
    | bl b => exact ⟨b, rfl, g1.here s1 _ (.bl (!b))⟩
    | _ => exact g1.elim
def fIf (c : FT) (a b : F) : F := fun η h => (c η h).bind fun x h => if x = true then a η h else b η h
theorem e_if {c : Expr} {tc : FT} (hc : PT X c (tT G W tc)) (ha : PE X a (tE G W fa)) (hb : PE X b (tE G W fb)) : PE X (.IfExp c a b pos) (tE G W (fIf tc fa fb)) :=
  (pe_ifExp hc ha hb).impX fun σ H Q ⟨ρ, η, h, r, s, g⟩ => by
    refine ⟨ρ, η, h, r, s, g.bind fun x h1 ρ1 H1 e1 s1 f1 g1 => ?_⟩
    cases x with
    | true => exact ⟨ρ1, η, h1, r.mono e1 f1, s1, g1⟩
    | false => exact ⟨ρ1, η, h1, r.mono e1 f1, s1, g1⟩
/-! ### argument lists, displays -/
def faN : FA := fun _ h => .ok [] h
def faC (a : F) (r : FA) : FA := fun η h => (a η h).bind fun x h => (r η h).bind fun xs h => .ok (x :: xs) h
theorem a_nil : PA X [] (tA G W faN) := pa_nil.impX fun σ H Q ⟨ρ, η, h, r, s, g⟩ => g.here s _ .nil
theorem a_cons {e : Expr} {es : List Expr} {fe : F} {fr : FA} (ha : PE X e (tE G W fe)) (hr : PA X es (tA G W fr)) (hs : starEach (e :: es) X.env = (false, eval e X.env) :: starEach es X.env := by rfl) : PA X (e :: es) (tA G W (faC fe fr)) :=
  (pa_cons ha hr hs).impX fun σ H Q ⟨ρ, η, h, r, s, g⟩ => by
    refine ⟨ρ, η, h, r, s, g.bind fun x h1 ρ1 H1 e1 s1 f1 g1 x' rx => ?_⟩
    refine ⟨ρ1, η, h1, r.mono e1 f1, s1, g1.bind fun xs h2 ρ2 H2 e2 s2 f2 g2 xs' rxs => ?_⟩
    exact g2.here s2 _ (.cons (rx.mono e2.sub f2) rxs)
def fTup (a : FA) : F := fun η h => (a η h).bind fun xs h => if xs.length ≤ sizeLine then .ok (.tup xs) h else .bad
def fLst (a : FA) : F := fun η h => (a η h).bind fun xs h => if xs.length ≤ sizeLine then .ok (.loc h.nx) (h.new (.lst xs)) else .bad
theorem e_tup {es : List Expr} {x1} {fr : FA} (ha : PA X es (tA G W fr)) : PE X (.Tuple es x1 pos) (tE G W (fTup fr)) :=
  (pe_tup ha).impX fun σ H Q ⟨ρ, η, h, r, s, g⟩ => by
    refine ⟨ρ, η, h, r, s, g.bind fun xs h1 ρ1 H1 e1 s1 f1 g1 xs' rxs => ?_⟩
    by_cases c : xs.length ≤ sizeLine
    · rw [if_pos c] at g1
      refine ⟨by rw [← rxs.length]; exact c, fun p hp => ?_⟩
      exact g1.newT s1 hp _ (.tup (.inl (.inl upd_same)) (rxs.mono Sub.refl (frm_new hp)))
    · rw [if_neg c] at g1; exact g1.elim
theorem repO_lst {ρ : Rho} {H : Hp} {h : SH} {p : Addr} {xs : List SV} {vs : List V} (s : Sim G ρ h H) (hp : H p = none) (r : RepL G ρ H xs vs) : RepO G (radd ρ h.nx p) (upd H p (.lst vs)) p (.lst xs) :=
  ⟨vs, upd_same, r.mono (s.sub hp) (frm_new hp)⟩
theorem e_lst {es : List Expr} {fr : FA} (ha : PA X es (tA G W fr)) : PE X (.List es pos) (tE G W (fLst fr)) :=
  (pe_lst ha).impX fun σ H Q ⟨ρ, η, h, r, s, g⟩ => by
    refine ⟨ρ, η, h, r, s, g.bind fun xs h1 ρ1 H1 e1 s1 f1 g1 xs' rxs => ?_⟩
    by_cases c : xs.length ≤ sizeLine
    · rw [if_pos c] at g1
      refine ⟨by rw [← rxs.length]; exact c, fun p hp => ?_⟩
      exact g1.new (u := .lst xs') (o := .lst xs) s1 hp trivial (repO_lst s1 hp rxs) _ (.loc radd_same)
    · rw [if_neg c] at g1; exact g1.elim
/-! ### calls of built-ins -/
abbrev GL := List SV → SH → Out SV
def CaG (G : Gd) (W : XW) (r : List V → Hp → VK → Prop) (g : GL) : Prop := ∀ ρ h H xs xs' Q, Sim G ρ h H → RepL G ρ H xs xs' → Good G W ρ H (g xs h) (RQ G Q) → r xs' H Q
def fCa (g : GL) (a : FA) : F := fun η h => (a η h).bind fun xs h => g xs h
theorem cb_imp {r : List V → Hp → VK → Prop} {g : GL} {fr : FA} (og : CaG G W r g) {σ : L2.St} {H : Hp} {Q : VK} (t : tE G W (fCa g fr) σ H Q) : tCB r (tA G W fr) σ H Q := by
  obtain ⟨ρ, η, h, r, s, g⟩ := t
  exact ⟨ρ, η, h, r, s, g.bind fun xs h1 ρ1 H1 e1 s1 f1 g1 xs' rx => og ρ1 h1 H1 xs xs' Q s1 rx g1⟩
/-- methods of built-in types -/
def MtG (G : Gd) (W : XW) (T : String) (r : V → List V → Hp → VK → Prop) (g : SV → List SV → SH → Out SV) : Prop :=
  ∀ ρ h H x x' xs xs' Q, Sim G ρ h H → Rep G ρ H x x' → RepL G ρ H xs xs' → Good G W ρ H (g x xs h) (RQ G Q) → r x' xs' H Q
/-- of what type a value is -/
def isTy (T : String) (x : SV) (h : SH) : Bool := match x with
  | .str _ => T == "str"
  | .int _ => T == "int"
  | .fl _ => T == "list"
  | .ls _ => T == "list"
  | .fd _ => T == "dict"
  | .loc p => match h.get p with
    | some (.lst _) => T == "list"
    | some (.dic _) => T == "dict"
    | none => false
  | _ => false
def fMt (T : String) (g : SV → List SV → SH → Out SV) (o : F) (a : FA) : F := fun η h => (o η h).bind fun x h => if isTy T x h = true then (a η h).bind fun xs h => g x xs h else .bad
theorem isTy_ok {T : String} {ρ : Rho} {h : SH} {H : Hp} {x : SV} {x' : V} (s : Sim G ρ h H) (r : Rep G ρ H x x') (e : isTy T x h = true) : tyV G.K T x' H := by
  cases r with
  | str l => exact eq_of_beq e
  | int i => exact eq_of_beq e
  | fl sq rl => exact .inl ⟨eq_of_beq e, _, sq.l⟩
  | ls ha _ rl => exact .inl ⟨eq_of_beq e, _, .inl (.inl ha)⟩
  | fd hd hn rq => exact .inr (.inr (.inl ⟨eq_of_beq e, .inl ⟨_, hd⟩⟩))
  | loc hp =>
    rename_i p a
    unfold isTy at e
    cases q : h.get p with
    | none => simp [q] at e
    | some o =>
      cases o with
      | lst xs =>
        simp [q] at e
        obtain ⟨a', vs, h1, h2, rl⟩ := s.lst q
        rw [hp] at h1; cases h1
        exact .inl ⟨e, vs, .inl (.inl h2)⟩
      | dic xs =>
        simp [q] at e
        obtain ⟨a', vs, h1, h2, rl⟩ := s.dic q
        rw [hp] at h1; cases h1
        exact .inr (.inr (.inl ⟨e, .inl ⟨vs, h2⟩⟩))
  | _ => cases e
theorem bm_imp {T : String} {r : V → List V → Hp → VK → Prop} {g : SV → List SV → SH → Out SV} {fo : F} {fr : FA} (og : MtG G W T r g) {σ : L2.St} {H : Hp} {Q : VK} (t : tE G W (fMt T g fo fr) σ H Q) : tBM G.K T r (tE G W fo) (tA G W fr) σ H Q := by
  obtain ⟨ρ, η, h, r, s, g⟩ := t
  refine ⟨ρ, η, h, r, s, g.bind fun x h1 ρ1 H1 e1 s1 f1 g1 x' rx => ?_⟩
  by_cases c : isTy T x h1 = true
  · rw [if_pos c] at g1
    refine ⟨isTy_ok s1 rx c, ρ1, η, h1, r.mono e1 f1, s1, g1.bind fun xs h2 ρ2 H2 e2 s2 f2 g2 xs' rxs => ?_⟩
    exact og ρ2 h2 H2 x x' xs xs' Q s2 (rx.mono e2.sub f2) rxs g2
  · rw [if_neg c] at g1; exact g1.elim
theorem bm0_imp {T : String} {r : V → List V → Hp → VK → Prop} {g : SV → List SV → SH → Out SV} {fo : F} (og : MtG G W T r g) {σ : L2.St} {H : Hp} {Q : VK} (t : tE G W (fMt T g fo faN) σ H Q) : tBM0 G.K T r (tE G W fo) σ H Q := by
  obtain ⟨ρ, η, h, r, s, g⟩ := t
  refine ⟨ρ, η, h, r, s, g.bind fun x h1 ρ1 H1 e1 s1 f1 g1 x' rx => ?_⟩
  by_cases c : isTy T x h1 = true
  · rw [if_pos c] at g1
    exact ⟨isTy_ok s1 rx c, og ρ1 h1 H1 x x' [] [] Q s1 rx .nil g1⟩
  · rw [if_neg c] at g1; exact g1.elim
/-! ### slices -/
abbrev FO := Sl → SH → Out (Option Int)
def tO (G : Gd) (W : XW) (f : FO) : TO := fun σ H Q => ∃ ρ η h, EnvR G ρ H η σ ∧ Sim G ρ h H ∧ Good G W ρ H (f η h) (fun o _ H' => Q o H')
def foN : FO := fun _ h => .ok none h
def foS (a : F) : FO := fun η h => (a η h).bind fun x h => match x with
  | .int i => .ok (some i) h
  | _ => .bad
theorem _root_.L2.PO.impX {X : Cx} {e : Option Expr} {t t' : TO} (p : PO X e t) (i : ∀ σ H Q, t' σ H Q → t σ H Q) : PO X e t' := ⟨fun pins s σ H Q I q => p.run pins s σ H Q I (i σ H Q q)⟩
theorem o_none : PO X none (tO G W foN) := po_none.impX fun σ H Q ⟨ρ, η, h, r, s, g⟩ => g.here s
theorem o_some {e : Expr} (he : PE X e (tE G W fa)) : PO X (some e) (tO G W (foS fa)) := (po_some he).impX fun σ H Q ⟨ρ, η, h, r, s, g⟩ => by
  refine ⟨ρ, η, h, r, s, g.bind fun x h1 ρ1 H1 e1 s1 f1 g1 x' rx => ?_⟩
  cases rx with
  | int i => exact ⟨i, rfl, g1.here s1⟩
  | _ => exact g1.elim
abbrev GS := SV → Option Int → Option Int → SH → Out SV
def SlG (G : Gd) (W : XW) (r : V → Option Int → Option Int → Hp → VK → Prop) (g : GS) : Prop := ∀ ρ h H x x' lo hi Q, Sim G ρ h H → Rep G ρ H x x' → Good G W ρ H (g x lo hi h) (RQ G Q) → r x' lo hi H Q
def fSl (g : GS) (a : F) (l u : FO) : F := fun η h => (a η h).bind fun x h => (l η h).bind fun lo h => (u η h).bind fun hi h => g x lo hi h
theorem e_slice {r : V → Option Int → Option Int → Hp → VK → Prop} {g : GS} {e : Expr} {lo hi : Option Expr} {p2 : Pos} {fl fu : FO} (hr : SlR X r) (og : SlG G W r g) (he : PE X e (tE G W fa)) (hl : PO X lo (tO G W fl)) (hu : PO X hi (tO G W fu)) :
    PE X (.Subscript e (.Slice lo hi none p2) pos) (tE G W (fSl g fa fl fu)) := (pe_slice hr he hl hu).impX fun σ H Q ⟨ρ, η, h, r, s, g⟩ => by
  refine ⟨ρ, η, h, r, s, g.bind fun x h1 ρ1 H1 e1 s1 f1 g1 x' rx => ?_⟩
  refine ⟨ρ1, η, h1, r.mono e1 f1, s1, g1.bind fun lo h2 ρ2 H2 e2 s2 f2 g2 => ?_⟩
  refine ⟨ρ2, η, h2, (r.mono e1 f1).mono e2 f2, s2, g2.bind fun hi h3 ρ3 H3 e3 s3 f3 g3 => ?_⟩
  exact og ρ3 h3 H3 x x' lo hi Q s3 ((rx.mono e2.sub f2).mono e3.sub f3) g3
end
end Fv
/-! Ev3: operators by values. -/
namespace Fv
open PySem PySem.Spec PyProof.Rows L2

/-! ### sequences -/
def items (h : SH) (x : SV) : Option (List SV) := match x with
  | .tup xs => some xs
  | .tp xs => some xs
  | .fl xs => some xs
  | .ls xs => some xs
  | .loc p => match h.get p with
    | some (.lst xs) => some xs
    | _ => none
  | _ => none
section
variable {G : Gd} {W : XW} {ρ : Rho} {h : SH} {H : Hp} {x : SV} {x' : V} {xs : List SV}
theorem items_ok (s : Sim G ρ h H) (r : Rep G ρ H x x') (e : items h x = some xs) : ∃ a vs, x' = .ref a ∧ (SqL G.K H a vs ∨ SqT G.K H a vs) ∧ RepL G ρ H xs vs := by
  cases r with
  | tup sq rl => cases e; exact ⟨_, _, rfl, .inr sq, rl⟩
  | tp sq rl => cases e; exact ⟨_, _, rfl, .inr sq.t, rl⟩
  | fl sq rl => cases e; exact ⟨_, _, rfl, .inl sq.l, rl⟩
  | ls ha _ rl => cases e; exact ⟨_, _, rfl, .inl (.inl (.inl ha)), rl⟩
  | loc hp =>
    rename_i p a
    unfold items at e
    cases q : h.get p with
    | none => simp [q] at e
    | some o =>
      cases o with
      | lst ys =>
        simp [q] at e
        subst e
        obtain ⟨a', vs, h1, h2, rl⟩ := s.lst q
        rw [hp] at h1; cases h1
        exact ⟨a, vs, rfl, .inl (.inl (.inl h2)), rl⟩
      | dic ys => simp [q] at e
  | _ => cases e
theorem lst_at (s : Sim G ρ h H) {p : Nat} {a : Addr} (hp : ρ p = some a) (e : h.get p = some (.lst xs)) : ∃ vs, H a = some (.lst vs) ∧ RepL G ρ H xs vs := by
  obtain ⟨a', vs, h1, h2, rl⟩ := s.lst e
  rw [hp] at h1; cases h1
  exact ⟨vs, h2, rl⟩
end

/-! ### data -/
def mapO {α β : Type} (f : α → Option β) : List α → Option (List β)
  | [] => some []
  | x :: r => match f x with
    | some y => match mapO f r with
      | some ys => some (y :: ys)
      | none => none
    | none => none
/-- a value as data, so many levels deep -/
def toD (h : SH) : Nat → SV → Option PyData
  | _, .non => some .none
  | _, .bl b => some (.bool b)
  | _, .int i => some (.int i)
  | _, .str l => some (.str ⟨⟨l⟩⟩)
  | n + 1, .tup xs => (mapO (toD h n) xs).map .tuple
  | n + 1, .tp xs => (mapO (toD h n) xs).map .tuple
  | n + 1, .loc p => match h.get p with
    | some (.lst xs) => (mapO (toD h n) xs).map .list
    | _ => none
  | n + 1, .ls xs => (mapO (toD h n) xs).map .list
  | _, _ => none
section
variable {G : Gd} {W : XW} {ρ : Rho} {h : SH} {H : Hp}
theorem mapO_ok {f : SV → Option PyData} (ih : ∀ x x' d, Rep G ρ H x x' → f x = some d → Dp G.K H x' d) : ∀ {xs : List SV} {vs : List V} {ds : List PyData}, RepL G ρ H xs vs → mapO f xs = some ds → DpAll G.K H vs ds
  | _, _, ds, .nil, e => by cases e; exact .nil
  | x :: xs, v :: vs, ds, .cons r t, e => by
    unfold mapO at e
    cases q : f x with
    | none => simp [q] at e
    | some d =>
      simp [q] at e
      cases q2 : mapO f xs with
      | none => simp [q2] at e
      | some r2 =>
        simp [q2] at e
        subst e
        exact .cons (ih _ _ _ r q) (mapO_ok ih t q2)
theorem toD_ok (s : Sim G ρ h H) : ∀ (n : Nat) (x : SV) (x' : V) (d : PyData), Rep G ρ H x x' → toD h n x = some d → Dp G.K H x' d := by
  intro n
  induction n with
  | zero =>
    intro x x' d r e
    cases r with
    | non => simp [toD] at e; subst e; exact .non
    | bl b => simp [toD] at e; subst e; exact .bl b
    | int i => simp [toD] at e; subst e; exact .int i
    | str l => simp [toD] at e; subst e; exact .str _
    | tup _ _ => simp [toD] at e
    | tp _ _ => simp [toD] at e
    | loc _ => simp [toD] at e
    | fn _ => simp [toD] at e
    | fl _ _ => simp [toD] at e
    | ls _ _ _ => simp [toD] at e
    | fd _ _ _ => simp [toD] at e
    | ty _ => simp [toD] at e
  | succ n ih =>
    intro x x' d r e
    cases r with
    | non => simp [toD] at e; subst e; exact .non
    | bl b => simp [toD] at e; subst e; exact .bl b
    | int i => simp [toD] at e; subst e; exact .int i
    | str l => simp [toD] at e; subst e; exact .str _
    | tup sq rl =>
      rename_i xs a vs
      simp only [toD] at e
      cases q : mapO (toD h n) xs with
      | none => simp [q] at e
      | some ds =>
        simp [q] at e
        subst e
        exact .tup sq (mapO_ok ih rl q)
    | loc hp =>
      rename_i p a
      simp only [toD] at e
      cases q : h.get p with
      | none => simp [q] at e
      | some o =>
        cases o with
        | dic _ => simp [q] at e
        | lst xs =>
          simp [q] at e
          obtain ⟨ds, e1, e2⟩ := e
          subst e2
          obtain ⟨vs, h2, rl⟩ := lst_at s hp q
          exact .lst (.inl (.inl h2)) (mapO_ok ih rl e1)
    | fn _ => simp [toD] at e
    | fl _ _ => simp [toD] at e
    | fd _ _ _ => simp [toD] at e
    | @tp xs a vs sq rl =>
      simp only [toD] at e
      cases q : mapO (toD h n) xs with
      | none => simp [q] at e
      | some ds =>
        simp [q] at e
        subst e
        exact .tup sq.t (mapO_ok ih rl q)
    | @ls xs a vs ha _ rl =>
      simp only [toD] at e
      cases q : mapO (toD h n) xs with
      | none => simp [q] at e
      | some ds =>
        simp [q] at e
        subst e
        exact .lst (.inl (.inl ha)) (mapO_ok ih rl q)
    | ty _ => simp [toD] at e

/-! ### + - * // % ** -/
def catS (x y : List SV) : Option (List SV) := if x.length + y.length ≤ sizeLine then some (x ++ y) else none
def gAdd : G2 := fun x y h => match x, y with
  | .int i, .int j => .ok (.int (i + j)) h
  | .str a, .str b => if a.length + b.length ≤ sizeLine then .ok (.str (a ++ b)) h else .bad
  | .tup a, .tup b => if a.length + b.length ≤ sizeLine then .ok (.tup (a ++ b)) h else .bad
  | x, y => match lstOf h x, lstOf h y with
    | some a, some b => if a.length + b.length ≤ sizeLine then .ok (.loc h.nx) (h.new (.lst (a ++ b))) else .bad
    | _, _ => .bad
def rAddU (K : PySem.W.Frag) : R2 := fun x y H Q => (rI0 (fun i j => .int (i + j)) x y H Q ∨ (∃ i j, x = .str i ∧ y = .str j ∧ i.length + j.length ≤ sizeLine ∧ Q (.str (i ++ j)) H)) ∨ (rCatA K x y H Q ∨ rCat x y H Q)
theorem op_addU {X : Cx} : OpR X (binaryOp .Add) (rAddU X.K) := .or (.or op_add op_add_str) (.or op_catA op_cat)
theorem str_app (a b : List Nat) : (⟨⟨a⟩⟩ : Str) ++ ⟨⟨b⟩⟩ = ⟨⟨a ++ b⟩⟩ := by
  show Str.mk (_ ++ _) = _
  congr 1
  simp
theorem og_add : OpG G W (rAddU G.K) gAdd := by
  intro ρ h H x y x' y' Q s rx ry g
  have key : Good G W ρ H (match lstOf h x, lstOf h y with
    | some a, some b => if a.length + b.length ≤ sizeLine then .ok (.loc h.nx) (h.new (.lst (a ++ b))) else .bad
    | _, _ => .bad : Out SV) (RQ G Q) → rAddU G.K x' y' H Q := fun g => by
    cases e1 : lstOf h x with
    | none => simp only [e1] at g; exact g.elim
    | some xs =>
      cases e2 : lstOf h y with
      | none => simp only [e1, e2] at g; exact g.elim
      | some ys =>
        simp only [e1, e2] at g
        obtain ⟨a, va, rfl, ha, ra⟩ := lstOf_ok s rx e1
        obtain ⟨b, vb, rfl, hb, rb⟩ := lstOf_ok s ry e2
        by_cases c : xs.length + ys.length ≤ sizeLine
        · simp only [c, if_true] at g
          refine .inr (.inr ⟨a, b, va, vb, rfl, rfl, ha, hb, by rw [← ra.length, ← rb.length]; exact c, fun w hw => ?_⟩)
          exact g.new (u := .lst (va ++ vb)) (o := .lst (xs ++ ys)) s hw trivial (repO_lst s hw (ra.append rb)) _ (.loc radd_same)
        · simp only [c, if_false] at g; exact g.elim
  unfold gAdd at g
  cases rx with
  | int i =>
    cases ry with
    | int j => exact .inl (.inl ⟨i, j, rfl, rfl, g.here s _ (.int _)⟩)
    | _ => exact key g
  | str a =>
    cases ry with
    | str b =>
      by_cases c : a.length + b.length ≤ sizeLine
      · simp only [c, if_true] at g
        refine .inl (.inr ⟨_, _, rfl, rfl, c, ?_⟩)
        rw [str_app]
        exact g.here s _ (.str _)
      · simp only [c, if_false] at g; exact g.elim
    | _ => exact key g
  | tup sa ra =>
    cases ry with
    | tup sb rb =>
      rename_i a pa va b pb vb
      by_cases c : a.length + b.length ≤ sizeLine
      · simp only [c, if_true] at g
        refine .inr (.inl ⟨pa, pb, va, vb, rfl, rfl, sa, sb, by rw [← ra.length, ← rb.length]; exact c, fun e => ?_, fun _ e => ?_, fun _ _ p hp => ?_⟩)
        · subst e
          cases ra
          exact g.here s _ (.tup sb rb)
        · subst e
          cases rb
          rw [List.append_nil] at g
          exact g.here s _ (.tup sa ra)
        · exact g.newT s hp _ (.tup (.inl (.inl upd_same)) ((ra.append rb).mono Sub.refl (frm_new hp)))
      · simp only [c, if_false] at g; exact g.elim
    | _ => exact key g
  | _ => exact key g
/-- ints, under a condition -/
def gI (C : Int → Int → Bool) (f : Int → Int → Int) : G2 := fun x y h => match x, y with
  | .int i, .int j => if C i j = true then .ok (.int (f i j)) h else .bad
  | _, _ => .bad
theorem og_I {C : Int → Int → Bool} {P : Int → Int → Prop} {f : Int → Int → Int} (hc : ∀ i j, C i j = true → P i j) : OpG G W (rI P fun i j => .int (f i j)) (gI C f) := by
  intro ρ h H x y x' y' Q s rx ry g
  unfold gI at g
  cases rx with
  | int i =>
    cases ry with
    | int j =>
      by_cases c : C i j = true
      · simp only [c, if_true] at g
        exact ⟨i, j, rfl, rfl, hc i j c, g.here s _ (.int _)⟩
      · simp only [c, if_false] at g; exact g.elim
    | _ => exact g.elim
  | _ => exact g.elim
def gSub : G2 := fun x y h => match x, y with
  | .int i, .int j => .ok (.int (i - j)) h
  | _, _ => .bad
theorem og_sub : OpG G W (rI0 fun i j => .int (i - j)) gSub := by
  intro ρ h H x y x' y' Q s rx ry g
  unfold gSub at g
  cases rx with
  | int i =>
    cases ry with
    | int j => exact ⟨i, j, rfl, rfl, g.here s _ (.int _)⟩
    | _ => exact g.elim
  | _ => exact g.elim
def gMul : G2 := gI (fun i j => (decide (-(2 ^ 64) < i) && decide (i < 2 ^ 64)) || (decide (-(2 ^ 64) < j) && decide (j < 2 ^ 64))) fun i j => i * j
theorem og_mul : OpG G W (rI CMul fun i j => .int (i * j)) gMul := og_I fun i j e => by
  simp only [Bool.or_eq_true, Bool.and_eq_true, decide_eq_true_eq] at e
  exact e
def gDiv : G2 := gI (fun _ j => decide (0 < j) && decide (j < 1073741824)) fun i j => i / j
theorem og_div : OpG G W (rI CDiv fun i j => .int (i / j)) gDiv := og_I fun i j e => by
  simp only [Bool.and_eq_true, decide_eq_true_eq] at e
  exact e
def gMod : G2 := gI (fun _ j => decide (0 < j)) fun i j => i % j
theorem og_mod : OpG G W (rI (fun _ j => 0 < j) fun i j => .int (i % j)) gMod := og_I fun i j e => of_decide_eq_true e
def gPow : G2 := gI (fun i j => decide (0 ≤ j) && (decide (j ≤ 1000000) && decide (i.natAbs < 2 ^ 64))) fun i j => i ^ j.toNat
theorem og_pow : OpG G W (rI CPow fun i j => .int (i ^ j.toNat)) gPow := og_I fun i j e => by
  simp only [Bool.and_eq_true, decide_eq_true_eq] at e
  exact e
def gNeg : G1 := fun x h => match x with
  | .int i => .ok (.int (-i)) h
  | _ => .bad
theorem ug_neg : UnG G W (rU fun i => .int (-i)) gNeg := by
  intro ρ h H x x' Q s rx g
  unfold gNeg at g
  cases rx with
  | int i => exact ⟨i, rfl, g.here s _ (.int _)⟩
  | _ => exact g.elim

/-! ### order of ints -/
def gRel (f : Int → Int → Bool) : G2 := fun x y h => match x, y with
  | .int i, .int j => .ok (.bl (f i j)) h
  | _, _ => .bad
theorem og_rel {f : Int → Int → Bool} : OpG G W (rI0 fun i j => .bl (f i j)) (gRel f) := by
  intro ρ h H x y x' y' Q s rx ry g
  unfold gRel at g
  cases rx with
  | int i =>
    cases ry with
    | int j => exact ⟨i, j, rfl, rfl, g.here s _ (.bl _)⟩
    | _ => exact g.elim
  | _ => exact g.elim
abbrev gLt : G2 := gRel fun i j => decide (i < j)
abbrev gLe : G2 := gRel fun i j => decide (i ≤ j)
abbrev gGt : G2 := gRel fun i j => decide (j < i)
abbrev gGe : G2 := gRel fun i j => decide (j ≤ i)

/-! ### is None -/
def isNon : SV → Bool
  | .non => true
  | _ => false
def gIsN (neg : Bool) : G2 := fun x y h => match y with
  | .non => .ok (.bl (if neg then !isNon x else isNon x)) h
  | .bl b => match x with
    | .bl a => .ok (.bl (if neg then !(decide (a = b)) else decide (a = b))) h
    | _ => .bad
  | _ => .bad
def rIsU (neg : Bool) : R2 := fun x y H Q => (y = .non ∧ Q (.bl (if neg then !decide (x = .non) else decide (x = .non))) H) ∨ ∃ a b, x = .bl a ∧ y = .bl b ∧ Q (.bl (if neg then !decide (a = b) else decide (a = b))) H
theorem og_is {neg : Bool} : OpG G W (rIsU neg) (gIsN neg) := by
  intro ρ h H x y x' y' Q s rx ry g
  unfold gIsN at g
  cases ry with
  | non =>
    refine .inl ⟨rfl, ?_⟩
    have e : isNon x = decide (x' = V.non) := by cases rx <;> rfl
    rw [← e]
    exact g.here s _ (.bl _)
  | bl b =>
    cases rx with
    | bl a => exact .inr ⟨a, b, rfl, rfl, g.here s _ (.bl _)⟩
    | _ => exact g.elim
  | _ => exact g.elim

/-! ### == -/
def eqSc (x y : SV) : Option Bool := match x, y with
  | .int i, .int j => some (decide (i = j))
  | .str a, .str b => some (decide (a = b))
  | .bl a, .bl b => some (decide (a = b))
  | .non, .non => some true
  | .non, .int _ => some false
  | .int _, .non => some false
  | .non, .str _ => some false
  | .str _, .non => some false
  | .non, .bl _ => some false
  | .bl _, .non => some false
  | .int _, .str _ => some false
  | .str _, .int _ => some false
  | _, _ => none
theorem eqSc_ok {ρ : Rho} {H : Hp} {x y : SV} {x' y' : V} {b : Bool} (rx : Rep G ρ H x x') (ry : Rep G ρ H y y') (e : eqSc x y = some b) : scal x' y' = true ∧ decide (x' = y') = b := by
  cases rx with
  | int i =>
    cases ry with
    | int j => cases e; exact ⟨rfl, by simp⟩
    | non => cases e; exact ⟨rfl, rfl⟩
    | str _ => cases e; exact ⟨rfl, rfl⟩
    | _ => cases e
  | str a =>
    cases ry with
    | str b => cases e; exact ⟨rfl, by simp⟩
    | non => cases e; exact ⟨rfl, rfl⟩
    | int _ => cases e; exact ⟨rfl, rfl⟩
    | _ => cases e
  | bl a =>
    cases ry with
    | bl b => cases e; exact ⟨rfl, by simp⟩
    | non => cases e; exact ⟨rfl, rfl⟩
    | _ => cases e
  | non =>
    cases ry with
    | non => cases e; exact ⟨rfl, rfl⟩
    | int _ => cases e; exact ⟨rfl, rfl⟩
    | str _ => cases e; exact ⟨rfl, rfl⟩
    | bl _ => cases e; exact ⟨rfl, rfl⟩
    | _ => cases e
  | _ => cases e
def eqDt (h : SH) (x y : SV) : Option Bool := match toD h 60 x, toD h 60 y with
  | some d, some e => if (SeqAt.shaped d && SeqAt.shaped e) = true then some (PyData.eqv d e) else none
  | _, _ => none
def gEq (neg : Bool) : G2 := fun x y h => match eqSc x y with
  | some b => .ok (.bl (if neg then !b else b)) h
  | none => match eqDt h x y with
    | some b => .ok (.bl (if neg then !b else b)) h
    | none => .bad
def rEqU (K : PySem.W.Frag) (neg : Bool) : R2 := fun x y H Q => (scal x y = true ∧ Q (.bl (if neg then !decide (x = y) else decide (x = y))) H) ∨ ∃ d e, Dp K H x d ∧ Dp K H y e ∧ SeqAt.shaped d = true ∧ SeqAt.shaped e = true ∧ Q (.bl (if neg then !PyData.eqv d e else PyData.eqv d e)) H
theorem og_eq {neg : Bool} : OpG G W (rEqU G.K neg) (gEq neg) := by
  intro ρ h H x y x' y' Q s rx ry g
  unfold gEq at g
  cases q : eqSc x y with
  | some b =>
    simp only [q] at g
    obtain ⟨h1, h2⟩ := eqSc_ok rx ry q
    refine .inl ⟨h1, ?_⟩
    rw [h2]
    exact g.here s _ (.bl _)
  | none =>
    simp only [q] at g
    cases q2 : eqDt h x y with
    | none => simp only [q2] at g; exact g.elim
    | some b =>
      simp only [q2] at g
      unfold eqDt at q2
      cases qx : toD h 60 x with
      | none => simp [qx] at q2
      | some d =>
        cases qy : toD h 60 y with
        | none => simp [qx, qy] at q2
        | some e =>
          simp only [qx, qy] at q2
          by_cases c : (SeqAt.shaped d && SeqAt.shaped e) = true
          · rw [if_pos c] at q2
            cases q2
            obtain ⟨c1, c2⟩ := Bool.and_eq_true_iff.mp c
            exact .inr ⟨d, e, toD_ok s 60 _ _ _ rx qx, toD_ok s 60 _ _ _ ry qy, c1, c2, g.here s _ (.bl _)⟩
          · rw [if_neg c] at q2; cases q2
theorem op_eqU {X : Cx} (hu : X.A.units + 64 < cLine) : OpR X (compareOp .Eq) (rEqU X.K false) := .or op_eq (op_eqD hu)
theorem op_neU {X : Cx} (hu : X.A.units + 64 < cLine) : OpR X (compareOp .NotEq) (rEqU X.K true) := .or op_ne (op_neD hu)
theorem op_isU {X : Cx} : OpR X (compareOp .Is) (rIsU false) := .or op_isN op_is_bl
theorem op_isNU {X : Cx} : OpR X (compareOp .IsNot) (rIsU true) := .or op_notN op_isnot_bl

/-! ### in -/
def flatS : SV → Bool
  | .non => true
  | .bl _ => true
  | .int _ => true
  | .str _ => true
  | _ => false
def eqF : SV → SV → Bool
  | .non, .non => true
  | .bl a, .bl b => a == b
  | .bl a, .int b => (if a then 1 else 0) == b
  | .int a, .bl b => a == (if b then 1 else 0)
  | .int a, .int b => a == b
  | .str a, .str b => a == b
  | _, _ => false
theorem flatS_ok {ρ : Rho} {H : Hp} {x : SV} {x' : V} (rx : Rep G ρ H x x') : flatV x' = flatS x := by cases rx <;> rfl
theorem eqF_ok {ρ : Rho} {H : Hp} {x y : SV} {x' y' : V} (rx : Rep G ρ H x x') (ry : Rep G ρ H y y') (fx : flatS x = true) (fy : flatS y = true) : eqV x' y' = eqF x y := by
  cases rx with
  | non => cases ry <;> first | rfl | cases fy
  | bl a => cases ry <;> first | rfl | cases fy
  | int i => cases ry <;> first | rfl | cases fy
  | str a =>
    cases ry with
    | str b =>
      show ((⟨⟨a⟩⟩ : Str) == ⟨⟨b⟩⟩) = (a == b)
      by_cases c : a = b
      · subst c; simp
      · have : (⟨⟨a⟩⟩ : Str) ≠ ⟨⟨b⟩⟩ := fun e => c (by injection e with e; injection e)
        rw [beq_eq_false_iff_ne.mpr this, beq_eq_false_iff_ne.mpr c]
    | non => rfl
    | bl _ => rfl
    | int _ => rfl
    | _ => cases fy
  | _ => cases fx
theorem flatL_ok {ρ : Rho} {H : Hp} : ∀ {xs : List SV} {vs : List V}, RepL G ρ H xs vs → vs.all flatV = xs.all flatS
  | _, _, .nil => rfl
  | _, _, .cons r t => by rw [List.all_cons, List.all_cons, flatS_ok r, flatL_ok t]
theorem inL_ok {ρ : Rho} {H : Hp} {x : SV} {x' : V} (rx : Rep G ρ H x x') (fx : flatS x = true) : ∀ {xs : List SV} {vs : List V}, RepL G ρ H xs vs → xs.all flatS = true → inV x' vs = xs.any fun y => eqF y x
  | _, _, .nil, _ => rfl
  | y :: xs, v :: vs, .cons r t, h => by
    rw [List.all_cons, Bool.and_eq_true] at h
    show (eqV v x' || inV x' vs) = (eqF y x || xs.any fun y => eqF y x)
    rw [eqF_ok r rx h.1 fx, inL_ok rx fx t h.2]
def gIn (neg : Bool) : G2 := fun x y h => match y with
  | .str l => match x with
    | .str [c] => .ok (.bl (if neg then !decide (c ∈ l) else decide (c ∈ l))) h
    | _ => .bad
  | _ => match items h y with
    | some ys => if (flatS x && ys.all flatS) = true then .ok (.bl (if neg then !(ys.any fun y => eqF y x) else ys.any fun y => eqF y x)) h else .bad
    | none => .bad
def rInU (K : PySem.W.Frag) (neg : Bool) : R2 := fun x y H Q => rIn K neg x y H Q ∨ ∃ (c : Nat) (z : Str), x = .str ⟨#[c]⟩ ∧ y = .str z ∧ Q (.bl (if neg then !decide (c ∈ z.cps.toList) else decide (c ∈ z.cps.toList))) H
theorem op_inU {X : Cx} : OpR X (compareOp .In) (rInU X.K false) := .or op_in_seq op_in_sign
theorem op_notInU {X : Cx} : OpR X (compareOp .NotIn) (rInU X.K true) := .or op_notIn_seq op_notIn_sign
theorem og_in {neg : Bool} : OpG G W (rInU G.K neg) (gIn neg) := by
  intro ρ h H x y x' y' Q s rx ry g
  have key : ∀ {ys : List SV}, items h y = some ys → Good G W ρ H (if (flatS x && ys.all flatS) = true then .ok (.bl (if neg then !(ys.any fun y => eqF y x) else ys.any fun y => eqF y x)) h else .bad) (RQ G Q) → rInU G.K neg x' y' H Q := fun {ys} e g => by
    by_cases c : (flatS x && ys.all flatS) = true
    · rw [if_pos c] at g
      obtain ⟨c1, c2⟩ := Bool.and_eq_true_iff.mp c
      obtain ⟨a, vs, rfl, sq, rl⟩ := items_ok s ry e
      refine .inl ⟨a, vs, rfl, sq, by rw [flatS_ok rx]; exact c1, by rw [flatL_ok rl]; exact c2, ?_⟩
      rw [inL_ok rx c1 rl c2]
      exact g.here s _ (.bl _)
    · rw [if_neg c] at g; exact g.elim
  unfold gIn at g
  cases ry with
  | str l =>
    cases rx with
    | str m =>
      rcases m with _ | ⟨c, _ | ⟨_, _⟩⟩
      · exact g.elim
      · exact .inr ⟨c, ⟨⟨l⟩⟩, rfl, rfl, g.here s _ (.bl _)⟩
      · exact g.elim
    | _ => exact g.elim
  | tup sq rl => exact key rfl g
  | fl sq rl => exact key rfl g
  | ls _ _ _ => exact key rfl g
  | tp _ _ => exact key rfl g
  | loc hp =>
    rename_i p a
    simp only at g
    cases e : items h (.loc p) with
    | none => rw [e] at g; exact g.elim
    | some ys => rw [e] at g; exact key e g
  | _ => exact g.elim

/-! ### o[i] -/
def gIx : G2 := fun x y h => match y with
  | .int i => match x with
    | .str l => if l.length ≤ sizeLine then (match atI l i with | some c => .ok (.str [c]) h | none => .bad) else .bad
    | _ => match items h x with
      | some xs => (match atI xs i with | some v => .ok v h | none => .bad)
      | none => .bad
  | _ => .bad
theorem at_rep {ρ : Rho} {H : Hp} {xs : List SV} {vs : List V} {i : Int} {x : SV} (r : RepL G ρ H xs vs) (e : atI xs i = some x) : ∃ v, atI vs i = some v ∧ Rep G ρ H x v := by
  unfold atI at e ⊢
  rw [← r.length]
  cases q : ixN xs.length i with
  | none => rw [q] at e; cases e
  | some j => rw [q] at e; exact r.get (i := j) e
theorem og_ix : OpG G W (rIx G.K) gIx := by
  intro ρ h H x y x' y' Q s rx ry g
  have key : ∀ {i : Int} {xs : List SV}, items h x = some xs → y' = .int i → Good G W ρ H (match atI xs i with | some v => .ok v h | none => .bad) (RQ G Q) → rIx G.K x' y' H Q := fun {i xs} e ey g => by
    cases q : atI xs i with
    | none => rw [q] at g; exact g.elim
    | some v =>
      rw [q] at g
      obtain ⟨a, vs, rfl, sq, rl⟩ := items_ok s rx e
      obtain ⟨v', e1, rv⟩ := at_rep rl q
      rcases sq with sq | sq
      · exact .inl ⟨a, vs, i, v', rfl, ey, sq, e1, g.here s _ rv⟩
      · exact .inr (.inl ⟨a, vs, i, v', rfl, ey, sq, e1, g.here s _ rv⟩)
  unfold gIx at g
  cases ry with
  | int i =>
    cases rx with
    | str l =>
      by_cases c : l.length ≤ sizeLine
      · simp only [c, if_true] at g
        cases q : atI l i with
        | none => simp only [q] at g; exact g.elim
        | some z =>
          simp only [q] at g
          exact .inr (.inr ⟨⟨⟨l⟩⟩, i, z, rfl, rfl, c, q, g.here s _ (.str [z])⟩)
      · simp only [c, if_false] at g; exact g.elim
    | tup sq rl => exact key rfl rfl g
    | fl sq rl => exact key rfl rfl g
    | ls _ _ _ => exact key rfl rfl g
    | tp _ _ => exact key rfl rfl g
    | loc hp =>
      rename_i p a
      simp only at g
      cases e : items h (.loc p) with
      | none => rw [e] at g; exact g.elim
      | some ys => rw [e] at g; exact key e rfl g
    | _ => exact g.elim
  | _ => exact g.elim

/-! ### o[a:b] -/
def cutL {α : Type} (xs : List α) (lo hi : Option Int) : List α := (xs.drop (HT.sIx xs.length 0 lo)).take (HT.sIx xs.length xs.length hi - HT.sIx xs.length 0 lo)
theorem cut_rep {ρ : Rho} {H : Hp} {xs : List SV} {vs : List V} {lo hi : Option Int} (r : RepL G ρ H xs vs) : RepL G ρ H (cutL xs lo hi) (cutV vs lo hi) := by
  unfold cutL cutV
  rw [← r.length]
  exact (r.drop _).take _
def gSl : GS := fun x lo hi h => match x with
  | .str l => if l.length ≤ sizeLine then .ok (.str (cutL l lo hi)) h else .bad
  | .tup xs => .ok (.tup (cutL xs lo hi)) h
  | .tp xs => if (decide (HT.sIx xs.length 0 lo = 0) && decide (HT.sIx xs.length xs.length hi = xs.length)) = true then .ok (.tp xs) h else .ok (.tup (cutL xs lo hi)) h
  | .fl xs => .ok (.loc h.nx) (h.new (.lst (cutL xs lo hi)))
  | x => match lstOf h x with
    | some xs => .ok (.loc h.nx) (h.new (.lst (cutL xs lo hi)))
    | none => .bad
def rSlU (K : PySem.W.Frag) : V → Option Int → Option Int → Hp → VK → Prop := fun x lo hi H Q => (rSlL K x lo hi H Q ∨ rSlA K x lo hi H Q) ∨ rSlS x lo hi H Q
theorem sl_U {X : Cx} : SlR X (rSlU X.K) := .or (.or sl_list sl_tupA) sl_str
theorem cutS_eq (l : List Nat) (lo hi : Option Int) : cutS ⟨⟨l⟩⟩ lo hi = ⟨⟨cutL l lo hi⟩⟩ := by
  unfold cutS cutL
  first | rfl | simp
theorem sg_U : SlG G W (rSlU G.K) gSl := by
  intro ρ h H x x' lo hi Q s rx g
  have key : Good G W ρ H (match lstOf h x with
    | some xs => .ok (.loc h.nx) (h.new (.lst (cutL xs lo hi)))
    | none => .bad : Out SV) (RQ G Q) → rSlU G.K x' lo hi H Q := fun g => by
    cases e1 : lstOf h x with
    | none => simp only [e1] at g; exact g.elim
    | some xs =>
      simp only [e1] at g
      obtain ⟨a, va, rfl, ha, ra⟩ := lstOf_ok s rx e1
      exact .inl (.inl ⟨a, va, rfl, .inl (.inl ha), fun w hw => g.new (u := .lst (cutV va lo hi)) (o := .lst (cutL xs lo hi)) s hw trivial (repO_lst s hw (cut_rep ra)) _ (.loc radd_same)⟩)
  unfold gSl at g
  cases rx with
  | str l =>
    by_cases c : l.length ≤ sizeLine
    · simp only [c, if_true] at g
      refine .inr ⟨⟨⟨l⟩⟩, rfl, c, ?_⟩
      rw [cutS_eq]
      exact g.here s _ (.str _)
    · simp only [c, if_false] at g; exact g.elim
  | tup sq rl =>
    rename_i xs a vs
    refine .inl (.inr ⟨a, vs, rfl, sq, fun e => ?_, fun _ p hp => ?_⟩)
    · have ew : cutL xs lo hi = xs := by
        unfold cutL
        rw [rl.length, e.1, e.2, List.drop_zero, Nat.sub_zero, ← rl.length, List.take_length]
      simp only [ew] at g
      exact g.here s _ (.tup sq rl)
    · exact g.newT s hp _ (.tup (.inl (.inl upd_same)) ((cut_rep rl).mono Sub.refl (frm_new hp)))
  | @fl xs a vs sq rl =>
    simp only at g
    exact .inl (.inl ⟨a, vs, rfl, sq.l, fun w hw => g.new (u := .lst (cutV vs lo hi)) (o := .lst (cutL xs lo hi)) s hw trivial (repO_lst s hw (cut_rep rl)) _ (.loc radd_same)⟩)
  | @tp xs a vs sq rl =>
    simp only at g
    by_cases c : (decide (HT.sIx xs.length 0 lo = 0) && decide (HT.sIx xs.length xs.length hi = xs.length)) = true
    · rw [if_pos c] at g
      refine .inl (.inr ⟨a, vs, rfl, sq.t, fun _ => g.here s _ (.tp sq rl), fun e => absurd ?_ e⟩)
      rw [Bool.and_eq_true, decide_eq_true_eq, decide_eq_true_eq, rl.length] at c
      exact c
    · rw [if_neg c] at g
      refine .inl (.inr ⟨a, vs, rfl, sq.t, fun e => absurd ?_ c, fun _ p hp => ?_⟩)
      · rw [Bool.and_eq_true, decide_eq_true_eq, decide_eq_true_eq, rl.length]
        exact e
      · exact g.newT s hp _ (.tup (.inl (.inl upd_same)) ((cut_rep rl).mono Sub.refl (frm_new hp)))
  | _ => exact key g
end
end Fv
/-! Ev4: built-in functions and methods by values. -/
namespace Fv
open PySem PySem.Spec PyProof.Rows L2
section
variable {X : Cx} {G : Gd} {W : XW}
theorem rep1 {ρ : Rho} {H : Hp} {x : SV} {vs : List V} (r : RepL G ρ H [x] vs) : ∃ v, vs = [v] ∧ Rep G ρ H x v := by
  cases r with
  | cons r t => cases t; exact ⟨_, rfl, r⟩
theorem rep2 {ρ : Rho} {H : Hp} {x y : SV} {vs : List V} (r : RepL G ρ H [x, y] vs) : ∃ v w, vs = [v, w] ∧ Rep G ρ H x v ∧ Rep G ρ H y w := by
  cases r with
  | cons r t =>
    cases t with
    | cons r2 t => cases t; exact ⟨_, _, rfl, r, r2⟩
/-! ### ints and bools in a list -/
def intsOf : List SV → Option (List Int)
  | [] => some []
  | .int i :: r => match intsOf r with
    | some l => some (i :: l)
    | none => none
  | _ :: _ => none
def boolsOf : List SV → Option (List Bool)
  | [] => some []
  | .bl i :: r => match boolsOf r with
    | some l => some (i :: l)
    | none => none
  | _ :: _ => none
theorem intsOf_ok {ρ : Rho} {H : Hp} : ∀ {xs : List SV} {vs : List V} {ns : List Int}, RepL G ρ H xs vs → intsOf xs = some ns → vs = ns.map V.int
  | _, _, _, .nil, e => by cases e; rfl
  | x :: xs, v :: vs, ns, .cons r t, e => by
    cases r with
    | int i =>
      unfold intsOf at e
      cases q : intsOf xs with
      | none => rw [q] at e; cases e
      | some l => rw [q] at e; cases e; rw [List.map_cons, intsOf_ok t q]
    | _ => cases e
theorem boolsOf_ok {ρ : Rho} {H : Hp} : ∀ {xs : List SV} {vs : List V} {ns : List Bool}, RepL G ρ H xs vs → boolsOf xs = some ns → vs = ns.map V.bl
  | _, _, _, .nil, e => by cases e; rfl
  | x :: xs, v :: vs, ns, .cons r t, e => by
    cases r with
    | bl i =>
      unfold boolsOf at e
      cases q : boolsOf xs with
      | none => rw [q] at e; cases e
      | some l => rw [q] at e; cases e; rw [List.map_cons, boolsOf_ok t q]
    | _ => cases e
theorem intsOf_map (ns : List Int) : intsOf (ns.map SV.int) = some ns := by
  induction ns with
  | nil => rfl
  | cons n ns ih => simp [intsOf, ih]
theorem boolsOf_map (ns : List Bool) : boolsOf (ns.map SV.bl) = some ns := by
  induction ns with
  | nil => rfl
  | cons n ns ih => simp [boolsOf, ih]

/-! ### len, abs, max, min, sum, all, any -/
def gLen : GL := fun xs h => match xs with
  | [.str l] => if l.length ≤ sizeLine then .ok (.int l.length) h else .bad
  | [.loc p] => match h.get p with
    | some (.lst xs) => .ok (.int xs.length) h
    | some (.dic xs) => .ok (.int xs.length) h
    | none => .bad
  | [.tup xs] => .ok (.int xs.length) h
  | [.fl xs] => .ok (.int xs.length) h
  | [.ls xs] => .ok (.int xs.length) h
  | [.tp xs] => .ok (.int xs.length) h
  | [.fd xs] => .ok (.int xs.length) h
  | _ => .bad
def rLenU (K : PySem.W.Frag) : List V → Hp → VK → Prop := fun xs H Q => (∃ x n, xs = [x] ∧ LenV K x H n ∧ Q (.int n) H) ∨ ∃ a kvs, xs = [V.ref a] ∧ H a = some (.dK kvs) ∧ Q (.int kvs.length) H
theorem call_lenU : CallR X (.builtin "len") (rLenU X.K) := .or call_len call_lenD
theorem RepP.length {ρ : Rho} {H : Hp} : ∀ {xs : List (SV × SV)} {vs : List (Key × V)}, RepP G ρ H xs vs → xs.length = vs.length
  | [], [], _ => rfl
  | (_, _) :: _, (_, _) :: _, ⟨_, _, c⟩ => by rw [List.length_cons, List.length_cons, RepP.length c]
theorem cg_len : CaG G W (rLenU G.K) gLen := by
  intro ρ h H xs xs' Q s rx g
  unfold gLen at g
  rcases xs with _ | ⟨x, _ | ⟨_, _⟩⟩
  · exact g.elim
  · obtain ⟨v, rfl, r⟩ := rep1 rx
    cases r with
    | str l =>
      by_cases c : l.length ≤ sizeLine
      · simp only [c, if_true] at g
        exact .inl ⟨_, l.length, rfl, ⟨c, rfl⟩, g.here s _ (.int _)⟩
      · simp only [c, if_false] at g; exact g.elim
    | tup sq rl =>
      rename_i xs a vs
      refine .inl ⟨_, xs.length, rfl, .inr ⟨vs, sq, rl.length⟩, g.here s _ (.int _)⟩
    | @fl xs a vs sq rl =>
      refine .inl ⟨_, xs.length, rfl, .inl ⟨vs, sq.l, rl.length⟩, g.here s _ (.int _)⟩
    | @tp xs a vs sq rl =>
      refine .inl ⟨_, xs.length, rfl, .inr ⟨vs, sq.t, rl.length⟩, g.here s _ (.int _)⟩
    | @ls xs a vs ha _ rl =>
      refine .inl ⟨_, xs.length, rfl, .inl ⟨vs, .inl (.inl ha), rl.length⟩, g.here s _ (.int _)⟩
    | @fd xs a vs ha _ rl =>
      refine .inr ⟨_, vs, rfl, ha, ?_⟩
      rw [← rl.p.length]
      exact g.here s _ (.int _)
    | loc hp =>
      rename_i p a
      simp only at g
      cases e : h.get p with
      | none => rw [e] at g; exact g.elim
      | some o =>
        rw [e] at g
        cases o with
        | lst ys =>
          obtain ⟨vs, ha, rl⟩ := lst_at s hp e
          exact .inl ⟨_, ys.length, rfl, .inl ⟨vs, .inl (.inl ha), rl.length⟩, g.here s _ (.int _)⟩
        | dic ys =>
          obtain ⟨a', vs, h1, ha, rl⟩ := s.dic e
          rw [hp] at h1; cases h1
          refine .inr ⟨_, vs, rfl, ha, ?_⟩
          rw [← rl.length]
          exact g.here s _ (.int _)
    | _ => exact g.elim
  · cases x <;> exact g.elim
def gAbs : GL := fun xs h => match xs with
  | [.int i] => .ok (.int (if i < 0 then -i else i)) h
  | _ => .bad
theorem cg_abs : CaG G W (fun xs H Q => ∃ i, xs = [.int i] ∧ Q (.int (if i < 0 then -i else i)) H) gAbs := by
  intro ρ h H xs xs' Q s rx g
  unfold gAbs at g
  rcases xs with _ | ⟨x, _ | ⟨_, _⟩⟩
  · exact g.elim
  · obtain ⟨v, rfl, r⟩ := rep1 rx
    cases r with
    | int i => exact ⟨i, rfl, g.here s _ (.int _)⟩
    | _ => exact g.elim
  · cases x <;> exact g.elim
def maxL : List Int → Int
  | [] => 0
  | [x] => x
  | x :: y :: r => max x (maxL (y :: r))
def minL : List Int → Int
  | [] => 0
  | [x] => x
  | x :: y :: r => min x (minL (y :: r))
theorem maxL_mem : ∀ {l : List Int}, 0 < l.length → maxL l ∈ l
  | [], h => by cases h
  | [x], _ => by simp [maxL]
  | x :: y :: r, _ => by
    have ih := maxL_mem (l := y :: r) (Nat.zero_lt_succ _)
    rw [maxL]
    by_cases c : x ≤ maxL (y :: r)
    · rw [Int.max_eq_right c]; exact List.mem_cons_of_mem _ ih
    · rw [Int.max_eq_left (by omega)]; exact List.mem_cons_self
theorem le_maxL : ∀ {l : List Int} {z : Int}, z ∈ l → z ≤ maxL l
  | [], _, h => by cases h
  | [x], z, h => by simp at h; simp [maxL, h]
  | x :: y :: r, z, h => by
    rw [maxL]
    rcases List.mem_cons.mp h with h | h
    · subst h; exact Int.le_max_left _ _
    · exact Int.le_trans (le_maxL h) (Int.le_max_right _ _)
theorem minL_mem : ∀ {l : List Int}, 0 < l.length → minL l ∈ l
  | [], h => by cases h
  | [x], _ => by simp [minL]
  | x :: y :: r, _ => by
    have ih := minL_mem (l := y :: r) (Nat.zero_lt_succ _)
    rw [minL]
    by_cases c : minL (y :: r) ≤ x
    · rw [Int.min_eq_right c]; exact List.mem_cons_of_mem _ ih
    · rw [Int.min_eq_left (by omega)]; exact List.mem_cons_self
theorem minL_le : ∀ {l : List Int} {z : Int}, z ∈ l → minL l ≤ z
  | [], _, h => by cases h
  | [x], z, h => by simp at h; simp [minL, h]
  | x :: y :: r, z, h => by
    rw [minL]
    rcases List.mem_cons.mp h with h | h
    · subst h; exact Int.min_le_left _ _
    · exact Int.le_trans (Int.min_le_right _ _) (minL_le h)
/-- over the ints of a list -/
def gInts (C : List Int → Bool) (f : List Int → SV) : GL := fun xs h => match xs with
  | [x] => match lstOf h x with
    | some xs => match intsOf xs with
      | some ns => if C ns = true then .ok (f ns) h else .bad
      | none => .bad
    | none => .bad
  | _ => .bad
theorem ints_case {C : List Int → Bool} {f : List Int → SV} {ρ : Rho} {h : SH} {H : Hp} {xs : List SV} {xs' : List V} {R : SV → Rho → Hp → Prop} (s : Sim G ρ h H) (rx : RepL G ρ H xs xs') (g : Good G W ρ H (gInts C f xs h) R) :
    ∃ a ns, xs' = [.ref a] ∧ SqL G.K H a (ns.map V.int) ∧ C ns = true ∧ R (f ns) ρ H := by
  unfold gInts at g
  rcases xs with _ | ⟨x, _ | ⟨_, _⟩⟩
  · exact g.elim
  · obtain ⟨v, rfl, r⟩ := rep1 rx
    simp only at g
    cases e : lstOf h x with
    | none => rw [e] at g; exact g.elim
    | some ys =>
      rw [e] at g
      obtain ⟨a, vs, rfl, ha, rl⟩ := lstOf_ok s r e
      simp only at g
      cases q : intsOf ys with
      | none => rw [q] at g; exact g.elim
      | some ns =>
        rw [q] at g
        simp only at g
        by_cases c : C ns = true
        · rw [if_pos c] at g
          refine ⟨a, ns, rfl, ?_, c, g.here s⟩
          rw [← intsOf_ok rl q]
          exact .inl (.inl ha)
        · rw [if_neg c] at g; exact g.elim
  · exact g.elim
def g2I (f : Int → Int → SV) : GL := fun xs h => match xs with
  | [.int i, .int j] => .ok (f i j) h
  | _ => .bad
theorem two_case {f : Int → Int → SV} {ρ : Rho} {h : SH} {H : Hp} {xs : List SV} {xs' : List V} {R : SV → Rho → Hp → Prop} (s : Sim G ρ h H) (rx : RepL G ρ H xs xs') (g : Good G W ρ H (g2I f xs h) R) :
    ∃ i j, xs' = [.int i, .int j] ∧ R (f i j) ρ H := by
  unfold g2I at g
  rcases xs with _ | ⟨x, _ | ⟨y, _ | ⟨_, _⟩⟩⟩
  · exact g.elim
  · cases x <;> exact g.elim
  · obtain ⟨v, w, rfl, r1, r2⟩ := rep2 rx
    cases r1 with
    | int i =>
      cases r2 with
      | int j => exact ⟨i, j, rfl, g.here s⟩
      | _ => exact g.elim
    | _ => exact g.elim
  · cases x <;> cases y <;> exact g.elim
def orL (g1 g2 : GL) : GL := fun xs h => match g1 xs h with
  | .bad => g2 xs h
  | o => o
theorem cg_or {r1 r2 : List V → Hp → VK → Prop} {g1 g2 : GL} (c1 : CaG G W r1 g1) (c2 : CaG G W r2 g2) : CaG G W (fun xs H Q => r1 xs H Q ∨ r2 xs H Q) (orL g1 g2) := by
  intro ρ h H xs xs' Q s rx g
  unfold orL at g
  cases q : g1 xs h with
  | ok a h' => rw [q] at g; exact .inl (c1 ρ h H xs xs' Q s rx (by rw [q]; exact g))
  | exc x h' => rw [q] at g; exact .inl (c1 ρ h H xs xs' Q s rx (by rw [q]; exact g))
  | bad => rw [q] at g; exact .inr (c2 ρ h H xs xs' Q s rx g)
def gMax : GL := orL (g2I fun i j => .int (if j > i then j else i)) (gInts (fun ns => decide (0 < ns.length)) fun ns => .int (maxL ns))
def rMaxU (K : PySem.W.Frag) : List V → Hp → VK → Prop := fun xs H Q => (∃ i j, xs = [.int i, .int j] ∧ Q (.int (if j > i then j else i)) H) ∨ rMax K xs H Q
theorem call_maxU (hc : X.calm = true) : CallR X (.builtin "max") (rMaxU X.K) := .or (call_max2 hc) (cr_max hc)
theorem cg_max : CaG G W (rMaxU G.K) gMax := cg_or (fun ρ h H xs xs' Q s rx g => by
    obtain ⟨i, j, e, q⟩ := two_case s rx g
    exact ⟨i, j, e, q _ (.int _)⟩) fun ρ h H xs xs' Q s rx g => by
    obtain ⟨a, ns, e, sq, c, q⟩ := ints_case s rx g
    have c := of_decide_eq_true c
    refine ⟨a, ns, e, sq, c, fun m hm hy => ?_⟩
    have em : m = maxL ns := Int.le_antisymm (le_maxL hm) (hy _ (maxL_mem c))
    rw [em]
    exact q _ (.int _)
def gMin : GL := orL (g2I fun i j => .int (if j < i then j else i)) (gInts (fun ns => decide (0 < ns.length)) fun ns => .int (minL ns))
def rMinU (K : PySem.W.Frag) : List V → Hp → VK → Prop := fun xs H Q => (∃ i j, xs = [.int i, .int j] ∧ Q (.int (if j < i then j else i)) H) ∨ rMin K xs H Q
theorem call_minU (hc : X.calm = true) : CallR X (.builtin "min") (rMinU X.K) := .or (call_min2 hc) (cr_min hc)
theorem cg_min : CaG G W (rMinU G.K) gMin := cg_or (fun ρ h H xs xs' Q s rx g => by
    obtain ⟨i, j, e, q⟩ := two_case s rx g
    exact ⟨i, j, e, q _ (.int _)⟩) fun ρ h H xs xs' Q s rx g => by
    obtain ⟨a, ns, e, sq, c, q⟩ := ints_case s rx g
    have c := of_decide_eq_true c
    refine ⟨a, ns, e, sq, c, fun m hm hy => ?_⟩
    have em : m = minL ns := Int.le_antisymm (hy _ (minL_mem c)) (minL_le hm)
    rw [em]
    exact q _ (.int _)
def gSum : GL := gInts (fun _ => true) fun ns => .int ns.sum
theorem cg_sum : CaG G W (rSum G.K) gSum := fun ρ h H xs xs' Q s rx g => by
  obtain ⟨a, ns, e, sq, _, q⟩ := ints_case s rx g
  exact ⟨a, ns, e, sq, q _ (.int _)⟩
def gBools (f : List Bool → Bool) : GL := fun xs h => match xs with
  | [x] => match lstOf h x with
    | some xs => match boolsOf xs with
      | some ns => .ok (.bl (f ns)) h
      | none => .bad
    | none => .bad
  | _ => .bad
theorem bools_case {f : List Bool → Bool} {ρ : Rho} {h : SH} {H : Hp} {xs : List SV} {xs' : List V} {R : SV → Rho → Hp → Prop} (s : Sim G ρ h H) (rx : RepL G ρ H xs xs') (g : Good G W ρ H (gBools f xs h) R) :
    ∃ a ns, xs' = [.ref a] ∧ SqL G.K H a (ns.map V.bl) ∧ R (.bl (f ns)) ρ H := by
  unfold gBools at g
  rcases xs with _ | ⟨x, _ | ⟨_, _⟩⟩
  · exact g.elim
  · obtain ⟨v, rfl, r⟩ := rep1 rx
    simp only at g
    cases e : lstOf h x with
    | none => rw [e] at g; exact g.elim
    | some ys =>
      rw [e] at g
      obtain ⟨a, vs, rfl, ha, rl⟩ := lstOf_ok s r e
      simp only at g
      cases q : boolsOf ys with
      | none => rw [q] at g; exact g.elim
      | some ns =>
        rw [q] at g
        refine ⟨a, ns, rfl, ?_, g.here s⟩
        rw [← boolsOf_ok rl q]
        exact .inl (.inl ha)
  · exact g.elim
def gAll : GL := gBools fun bs => bs.all id
def gAny : GL := gBools fun bs => bs.any id
theorem cg_all : CaG G W (rAll G.K) gAll := fun ρ h H xs xs' Q s rx g => by
  obtain ⟨a, ns, e, sq, q⟩ := bools_case s rx g
  exact ⟨a, ns, e, sq, q _ (.bl _)⟩
theorem cg_any : CaG G W (rAny G.K) gAny := fun ρ h H xs xs' Q s rx g => by
  obtain ⟨a, ns, e, sq, q⟩ := bools_case s rx g
  exact ⟨a, ns, e, sq, q _ (.bl _)⟩

/-! ### list(x), tuple(x), int(x), divmod -/
def gListOf : GL := fun xs h => match xs with
  | [x] => match items h x with
    | some ys => .ok (.loc h.nx) (h.new (.lst ys))
    | none => .bad
  | _ => .bad
theorem cg_list : CaG G W (fun xs H Q => ∃ p ys, xs = [.ref p] ∧ (SqL G.K H p ys ∨ SqT G.K H p ys) ∧ ∀ l, H l = none → Q (.ref l) (upd H l (.lst ys))) gListOf := by
  intro ρ h H xs xs' Q s rx g
  unfold gListOf at g
  rcases xs with _ | ⟨x, _ | ⟨_, _⟩⟩
  · exact g.elim
  · obtain ⟨v, rfl, r⟩ := rep1 rx
    simp only at g
    cases e : items h x with
    | none => rw [e] at g; exact g.elim
    | some ys =>
      rw [e] at g
      obtain ⟨a, vs, rfl, sq, rl⟩ := items_ok s r e
      exact ⟨a, vs, rfl, sq, fun w hw => g.new (u := .lst vs) (o := .lst ys) s hw trivial (repO_lst s hw rl) _ (.loc radd_same)⟩
  · exact g.elim
def gTupOf : GL := fun xs h => match xs with
  | [.tup ys] => .ok (.tup ys) h
  | [x] => match lstOf h x with
    | some ys => .ok (.tup ys) h
    | none => .bad
  | _ => .bad
theorem cg_tuple : CaG G W (fun xs H Q => ∃ p ys, xs = [.ref p] ∧ ((SqL G.K H p ys ∧ ∀ l, H l = none → Q (.ref l) (upd H l (.tup ys))) ∨ (SqT G.K H p ys ∧ Q (.ref p) H))) gTupOf := by
  intro ρ h H xs xs' Q s rx g
  unfold gTupOf at g
  rcases xs with _ | ⟨x, _ | ⟨_, _⟩⟩
  · exact g.elim
  · obtain ⟨v, rfl, r⟩ := rep1 rx
    have key : Good G W ρ H (match lstOf h x with
      | some ys => .ok (.tup ys) h
      | none => .bad : Out SV) (RQ G Q) → ∃ p ys, [v] = [V.ref p] ∧ ((SqL G.K H p ys ∧ ∀ l, H l = none → Q (.ref l) (upd H l (.tup ys))) ∨ (SqT G.K H p ys ∧ Q (.ref p) H)) := fun g => by
      cases e : lstOf h x with
      | none => rw [e] at g; exact g.elim
      | some ys =>
        rw [e] at g
        obtain ⟨a, vs, rfl, ha, rl⟩ := lstOf_ok s r e
        exact ⟨a, vs, rfl, .inl ⟨.inl (.inl ha), fun w hw => g.newT s hw _ (.tup (.inl (.inl upd_same)) (rl.mono Sub.refl (frm_new hw)))⟩⟩
    cases r with
    | tup sq rl => exact ⟨_, _, rfl, .inr ⟨sq, g.here s _ (.tup sq rl)⟩⟩
    | _ => exact key g
  · cases x <;> exact g.elim
def gIntOf : GL := fun xs h => match xs with
  | [.int i] => .ok (.int i) h
  | [.bl b] => .ok (.int (if b then 1 else 0)) h
  | _ => .bad
theorem cg_int : CaG G W (fun xs H Q => (∃ i, xs = [.int i] ∧ Q (.int i) H) ∨ ∃ k, xs = [.bl k] ∧ Q (.int (if k then 1 else 0)) H) gIntOf := by
  intro ρ h H xs xs' Q s rx g
  unfold gIntOf at g
  rcases xs with _ | ⟨x, _ | ⟨_, _⟩⟩
  · exact g.elim
  · obtain ⟨v, rfl, r⟩ := rep1 rx
    cases r with
    | int i => exact .inl ⟨i, rfl, g.here s _ (.int _)⟩
    | bl b => exact .inr ⟨b, rfl, g.here s _ (.int _)⟩
    | _ => exact g.elim
  · cases x <;> exact g.elim
def gDivmod : GL := fun xs h => match xs with
  | [.int i, .int j] => if (decide (0 < j) && decide (j < 1073741824)) = true then .ok (.tup [.int (i / j), .int (i % j)]) h else .bad
  | _ => .bad
theorem cg_divmod : CaG G W (fun xs H Q => ∃ i j, xs = [.int i, .int j] ∧ CDiv i j ∧ ∀ p, H p = none → Q (.ref p) (upd H p (.tup [.int (i / j), .int (i % j)]))) gDivmod := by
  intro ρ h H xs xs' Q s rx g
  unfold gDivmod at g
  rcases xs with _ | ⟨x, _ | ⟨y, _ | ⟨_, _⟩⟩⟩
  · exact g.elim
  · cases x <;> exact g.elim
  · obtain ⟨v, w, rfl, r1, r2⟩ := rep2 rx
    cases r1 with
    | int i =>
      cases r2 with
      | int j =>
        simp only at g
        by_cases c : (decide (0 < j) && decide (j < 1073741824)) = true
        · rw [if_pos c] at g
          have c' := c
          simp only [Bool.and_eq_true, decide_eq_true_eq] at c'
          exact ⟨i, j, rfl, c', fun p hp => g.newT s hp _ (.tup (.inl (.inl upd_same)) (.cons (.int _) (.cons (.int _) .nil)))⟩
        · rw [if_neg c] at g; exact g.elim
      | _ => exact g.elim
    | _ => exact g.elim
  · cases x <;> cases y <;> exact g.elim

/-! ### repr -/
theorem call_reprD (hg : X.A.guards = some []) (hu : X.A.units + 66 < cLine) : CallR X (.builtin "repr") (fun xs H Q => ∃ a d, xs = [.ref a] ∧ Dp X.K H (.ref a) d ∧ d.showable = true ∧ d.hasDict = false ∧ d.depth ≤ 64 ∧ d.shown.length ≤ sizeLine ∧ Q (.str d.shown) H) := by
  intro pins s σ H xs us Q I r h
  obtain ⟨a, d, rfl, hd, h1, h2, h3, h4, q⟩ := h
  obtain ⟨u, rfl, ru⟩ := vals1 r
  cases ru
  obtain ⟨as, rd⟩ := Dp.reads I d _ _ hd rfl
  exact repr_of_reads' rd h1 (PyData.noDict_hsm h2) hg (by omega) (fun _ _ e => e) (fun h' u tk hk => ⟨.str d.shown, H, I.kept hk, ⟨u, rfl⟩, q⟩) h4
theorem call_reprF : CallR X (.builtin "repr") (fun xs H Q => (∃ y : Str, xs = [.str y] ∧ (reprText y).length ≤ sizeLine ∧ Q (.str (reprText y)) H) ∨ (∃ b, xs = [.bl b] ∧ Q (.str (if b then "True" else "False")) H) ∨ (xs = [.non] ∧ Q (.str "None") H)) := by
  intro pins s σ H xs us Q I r h
  rcases h with ⟨y, rfl, hz, q⟩ | ⟨b, rfl, q⟩ | ⟨rfl, q⟩
  · obtain ⟨u, rfl, ru⟩ := vals1 r
    obtain ⟨t, rfl⟩ := ru
    exact PySem.P.repr_of_str ⟨.str _, H, I.tok _, ⟨_, rfl⟩, q⟩ hz
  · obtain ⟨u, rfl, ru⟩ := vals1 r
    cases ru
    exact PySem.P.repr_of_bool ⟨.str _, H, I.tok _, ⟨_, rfl⟩, q⟩
  · obtain ⟨u, rfl, ru⟩ := vals1 r
    cases ru
    exact PySem.P.repr_of_none ⟨.str _, H, I.tok _, ⟨_, rfl⟩, q⟩
def gRepr : GL := fun xs h => match xs with
  | [x] => match toD h 60 x with
    | some d => if (d.showable && (!d.hasDict && (decide (d.depth ≤ 64) && decide (d.shown.length ≤ sizeLine)))) = true then .ok (.str d.shown.cps.toList) h else .bad
    | none => .bad
  | _ => .bad
def rReprU (K : PySem.W.Frag) : List V → Hp → VK → Prop := fun xs H Q => (∃ a d, xs = [.ref a] ∧ Dp K H (.ref a) d ∧ d.showable = true ∧ d.hasDict = false ∧ d.depth ≤ 64 ∧ d.shown.length ≤ sizeLine ∧ Q (.str d.shown) H) ∨
  ((∃ i, xs = [.int i] ∧ i.natAbs.log2 < 1920 ∧ Q (.str (toString i)) H) ∨ ((∃ y : Str, xs = [.str y] ∧ (reprText y).length ≤ sizeLine ∧ Q (.str (reprText y)) H) ∨ (∃ b, xs = [.bl b] ∧ Q (.str (if b then "True" else "False")) H) ∨ (xs = [.non] ∧ Q (.str "None") H)))
theorem call_reprU (hg : X.A.guards = some []) (hu : X.A.units + 66 < cLine) : CallR X (.builtin "repr") (rReprU X.K) := .or (call_reprD hg hu) (.or SkE.call_repr_int call_reprF)
theorem cg_repr : CaG G W (rReprU G.K) gRepr := by
  intro ρ h H xs xs' Q s rx g
  unfold gRepr at g
  rcases xs with _ | ⟨x, _ | ⟨_, _⟩⟩
  · exact g.elim
  · obtain ⟨v, rfl, r⟩ := rep1 rx
    simp only at g
    cases e : toD h 60 x with
    | none => rw [e] at g; exact g.elim
    | some d =>
      rw [e] at g
      simp only at g
      by_cases c : (d.showable && (!d.hasDict && (decide (d.depth ≤ 64) && decide (d.shown.length ≤ sizeLine)))) = true
      · rw [if_pos c] at g
        have c' := c
        simp only [Bool.and_eq_true, decide_eq_true_eq, Bool.not_eq_true'] at c'
        obtain ⟨c1, c2, c3, c4⟩ := c'
        have dp := toD_ok s 60 _ _ _ r e
        have fin : Q (.str d.shown) H := g.here s _ (.str _)
        cases r with
        | non => simp [toD] at e; subst e; exact .inr (.inr (.inr (.inr ⟨rfl, fin⟩)))
        | bl b => simp [toD] at e; subst e; exact .inr (.inr (.inr (.inl ⟨b, rfl, fin⟩)))
        | int i => simp [toD] at e; subst e; exact .inr (.inl ⟨i, rfl, of_decide_eq_true c1, fin⟩)
        | str l => simp [toD] at e; subst e; exact .inr (.inr (.inl ⟨_, rfl, c4, fin⟩))
        | tup sq rl => exact .inl ⟨_, d, rfl, dp, c1, c2, c3, c4, fin⟩
        | tp sq rl => exact .inl ⟨_, d, rfl, dp, c1, c2, c3, c4, fin⟩
        | loc hp => exact .inl ⟨_, d, rfl, dp, c1, c2, c3, c4, fin⟩
        | fn _ => simp [toD] at e
        | fl _ _ => simp [toD] at e
        | ls _ _ _ => exact .inl ⟨_, d, rfl, dp, c1, c2, c3, c4, fin⟩
        | fd _ _ _ => simp [toD] at e
        | ty _ => simp [toD] at e
      · rw [if_neg c] at g; exact g.elim
  · exact g.elim

/-! ### isinstance -/
def tyOf (h : SH) (x : SV) : Option BT := match x with
  | .non => some .none
  | .bl _ => some .bool
  | .int _ => some .int
  | .str _ => some .str
  | .tup _ => some .tuple
  | .tp _ => some .tuple
  | .ls _ => some .list
  | .fd _ => some .dict
  | .loc p => match h.get p with
    | some (.lst _) => some .list
    | some (.dic _) => some .dict
    | none => none
  | _ => none
def BT.sub : BT → BT → Bool
  | .int, .int => true
  | .bool, .bool => true
  | .bool, .int => true
  | .str, .str => true
  | .list, .list => true
  | .tuple, .tuple => true
  | .dict, .dict => true
  | .none, .none => true
  | _, _ => false
theorem sub_ok (a b : BT) (h : b ≠ .none) : kitB a.name b.name = some (a.sub b) := by
  cases b with
  | none => exact absurd rfl h
  | int => cases a <;> decide +kernel
  | bool => cases a <;> decide +kernel
  | str => cases a <;> decide +kernel
  | list => cases a <;> decide +kernel
  | tuple => cases a <;> decide +kernel
  | dict => cases a <;> decide +kernel
theorem tyOf_ok {ρ : Rho} {h : SH} {H : Hp} {x : SV} {x' : V} {t : BT} (s : Sim G ρ h H) (r : Rep G ρ H x x') (e : tyOf h x = some t) : TyX G.K H x' (.type t.name) := by
  cases r with
  | non => cases e; exact .base .non
  | bl b => cases e; exact .base (.bl b)
  | int i => cases e; exact .base (.int i)
  | str l => cases e; exact .base (.str _)
  | ls ha _ rl => cases e; exact .base (.lst ha)
  | tp sq rl => cases e; obtain ⟨o, sq, _⟩ := sq; exact .fTuple sq
  | fd ha _ rl => cases e; exact .base (.dK ha)
  | tup sq rl =>
    cases e
    rcases sq with (sq | ⟨o, sq⟩) | ⟨o, its, n, sq, c, _⟩
    · exact .base (.tup sq)
    · exact .fTuple sq
    · exact .kTuple sq c
  | loc hp =>
    rename_i p a
    unfold tyOf at e
    cases q : h.get p with
    | none => simp [q] at e
    | some o =>
      cases o with
      | lst xs =>
        simp [q] at e
        subst e
        obtain ⟨vs, h2, rl⟩ := lst_at s hp q
        exact .base (.lst h2)
      | dic xs =>
        simp [q] at e
        subst e
        obtain ⟨a', vs, h1, h2, rl⟩ := s.dic q
        rw [hp] at h1; cases h1
        exact .base (.dK h2)
  | _ => cases e
def tysOf : List SV → Option (List BT)
  | [] => some []
  | .ty .none :: _ => none
  | .ty b :: r => match tysOf r with
    | some l => some (b :: l)
    | none => none
  | _ :: _ => none
def gIsi : GL := fun xs h => match xs with
  | [x, .ty b] => match b, tyOf h x with
    | .none, _ => .bad
    | b, some t => .ok (.bl (t.sub b)) h
    | _, none => .bad
  | [x, .tup cs] => match tysOf cs, tyOf h x with
    | some bs, some t => .ok (.bl (bs.any fun b => t.sub b)) h
    | _, _ => .bad
  | _ => .bad
theorem tysOf_ok {ρ : Rho} {H : Hp} {K : PySem.W.Frag} {t : BT} : ∀ {cs : List SV} {vs : List V} {bs : List BT}, RepL G ρ H cs vs → tysOf cs = some bs → Paired ClsV vs (bs.map fun b => Value.type b.name) ∧ PySem.W.kitAny K (.type t.name) (bs.map fun b => Value.type b.name) = some (bs.any fun b => t.sub b)
  | _, _, _, .nil, e => by cases e; exact ⟨.nil, rfl⟩
  | x :: cs, v :: vs, bs, .cons r rl, e => by
    cases r with
    | ty b =>
      have key : ∀ (b : BT), b ≠ .none → (match tysOf cs with | some l => some (b :: l) | none => none) = some bs → Paired ClsV (V.ty b.name :: vs) (bs.map fun b => Value.type b.name) ∧ PySem.W.kitAny K (.type t.name) (bs.map fun b => Value.type b.name) = some (bs.any fun b => t.sub b) := fun b hb e => by
        cases q : tysOf cs with
        | none => rw [q] at e; cases e
        | some l =>
          rw [q] at e; cases e
          obtain ⟨h1, h2⟩ := tysOf_ok rl q
          refine ⟨.cons (.ty _) h1, ?_⟩
          rw [List.map_cons, List.any_cons]
          refine kitAny_cons (kit_ty (sub_ok t b hb)) (fun e => ?_) fun e => by rw [e]; rfl
          rw [e]; exact h2
      cases b with
      | none => cases e
      | int => exact key .int (fun z => nomatch z) e
      | bool => exact key .bool (fun z => nomatch z) e
      | str => exact key .str (fun z => nomatch z) e
      | list => exact key .list (fun z => nomatch z) e
      | tuple => exact key .tuple (fun z => nomatch z) e
      | dict => exact key .dict (fun z => nomatch z) e
    | _ => cases e
end
end Fv
/-! Ev5: isinstance; methods of lists; dicts with keys that are ints and texts. -/
namespace Fv
open PySem PySem.Spec PyProof.Rows L2
section
variable {X : Cx} {G : Gd} {W : XW}
def rIsiU (K : PySem.W.Frag) : List V → Hp → VK → Prop := fun xs H Q => (rIsi K xs H Q ∨ rIsiT K xs H Q)
theorem call_isiU : CallR X (.builtin "isinstance") (rIsiU X.K) := .or call_isi call_isiT
/-- a tuple that was just made: not one of the written part -/
theorem cg_isi : CaG G W (rIsi G.K) (fun xs h => match xs with | [_, .ty _] => gIsi xs h | _ => .bad) := by
  intro ρ h H xs xs' Q s rx g
  rcases xs with _ | ⟨x, _ | ⟨c, _ | ⟨_, _⟩⟩⟩
  · exact g.elim
  · exact g.elim
  · obtain ⟨v, w, rfl, r1, r2⟩ := rep2 rx
    cases r2 with
    | ty b =>
      unfold gIsi at g
      cases e : tyOf h x with
      | none => cases b <;> simp [e] at g <;> exact g.elim
      | some t =>
        have key : b ≠ .none → Good G W ρ H (.ok (.bl (t.sub b)) h) (RQ G Q) → rIsi G.K [v, .ty b.name] H Q := fun hb g =>
          ⟨v, _, .type t.name, .type b.name, t.sub b, rfl, .ty _, tyOf_ok s r1 e, kit_ty (sub_ok t b hb), g.here s _ (.bl _)⟩
        cases b with
        | none => exact g.elim
        | _ =>
          simp only [e] at g
          exact key (fun z => nomatch z) g
    | _ => exact g.elim
  · cases c <;> exact g.elim
/-! ### methods of lists -/
def gAppend : SV → List SV → SH → Out SV := fun x vs h => match x, vs with
  | .loc p, [y] => match h.get p with
    | some (.lst xs) => if xs.length < sizeLine then .ok .non (h.set p (.lst (xs ++ [y]))) else .bad
    | _ => .bad
  | _, _ => .bad
theorem repO_set {ρ : Rho} {H : Hp} {a : Addr} {p : Nat} {xs : List SV} {vs : List V} (hp : ρ p = some a) (m : Mut (H a)) (r : RepL G ρ H xs vs) : RepO G ρ (upd H a (.lst vs)) a (.lst xs) :=
  ⟨vs, upd_same, r.mono Sub.refl (frm_upd (o := .lst vs) hp m)⟩
theorem mg_append : MtG G W "list" rAppend gAppend := by
  intro ρ h H x x' vs vs' Q s rx rv g
  unfold gAppend at g
  cases rx with
  | loc hp =>
    rename_i p a
    rcases vs with _ | ⟨y, _ | ⟨_, _⟩⟩
    · exact g.elim
    · obtain ⟨v, rfl, r⟩ := rep1 rv
      simp only at g
      cases e : h.get p with
      | none => rw [e] at g; exact g.elim
      | some o =>
        rw [e] at g
        cases o with
        | dic _ => exact g.elim
        | lst xs =>
          obtain ⟨us, ha, rl⟩ := lst_at s hp e
          simp only at g
          by_cases c : xs.length < sizeLine
          · rw [if_pos c] at g
            refine ⟨a, us, v, rfl, rfl, ha, by rw [← rl.length]; exact c, ?_⟩
            exact g.write (u := .lst (us ++ [v])) (o := .lst (xs ++ [y])) s hp trivial (repO_set hp (s.mut hp) (rl.append (.cons r .nil))) _ .non
          · rw [if_neg c] at g; exact g.elim
    · exact g.elim
  | _ => exact g.elim
def gExtend : SV → List SV → SH → Out SV := fun x vs h => match x, vs with
  | .loc p, [y] => match h.get p, lstOf h y with
    | some (.lst xs), some ys => if xs.length + ys.length ≤ sizeLine then .ok .non (h.set p (.lst (xs ++ ys))) else .bad
    | _, _ => .bad
  | _, _ => .bad
theorem mg_extend : MtG G W "list" rExtend gExtend := by
  intro ρ h H x x' vs vs' Q s rx rv g
  unfold gExtend at g
  cases rx with
  | loc hp =>
    rename_i p a
    rcases vs with _ | ⟨y, _ | ⟨_, _⟩⟩
    · exact g.elim
    · obtain ⟨v, rfl, r⟩ := rep1 rv
      simp only at g
      cases e : h.get p with
      | none => simp only [e] at g; exact g.elim
      | some o =>
        cases o with
        | dic _ => simp only [e] at g; exact g.elim
        | lst xs =>
          cases e2 : lstOf h y with
          | none => simp only [e, e2] at g; exact g.elim
          | some ys =>
            simp only [e, e2] at g
            obtain ⟨us, ha, rl⟩ := lst_at s hp e
            obtain ⟨b, ws, rfl, hb, rl2⟩ := lstOf_ok s r e2
            by_cases c : xs.length + ys.length ≤ sizeLine
            · rw [if_pos c] at g
              refine ⟨a, b, us, ws, rfl, rfl, ha, hb, by rw [← rl.length, ← rl2.length]; exact c, ?_⟩
              exact g.write (u := .lst (us ++ ws)) (o := .lst (xs ++ ys)) s hp trivial (repO_set hp (s.mut hp) (rl.append rl2)) _ .non
            · rw [if_neg c] at g; exact g.elim
    · exact g.elim
  | _ => exact g.elim
theorem RepL.dropLast : ∀ {ρ : Rho} {H : Hp} {xs : List SV} {vs : List V}, RepL G ρ H xs vs → RepL G ρ H xs.dropLast vs.dropLast
  | _, _, _, _, .nil => .nil
  | _, _, _, _, .cons r .nil => .nil
  | _, _, _, _, .cons r (.cons r2 t) => .cons r (RepL.dropLast (.cons r2 t))
theorem RepL.eraseIdx : ∀ {ρ : Rho} {H : Hp} {xs : List SV} {vs : List V} (i : Nat), RepL G ρ H xs vs → RepL G ρ H (xs.eraseIdx i) (vs.eraseIdx i)
  | _, _, _, _, _, .nil => .nil
  | _, _, _, _, 0, .cons _ t => t
  | _, _, _, _, i + 1, .cons r t => .cons r (RepL.eraseIdx i t)
def gPop : SV → List SV → SH → Out SV := fun x vs h => match x, vs with
  | .loc p, [] => match h.get p with
    | some (.lst xs) => match xs[xs.length - 1]? with
      | some y => .ok y (h.set p (.lst xs.dropLast))
      | none => .bad
    | _ => .bad
  | .loc p, [.int i] => match h.get p with
    | some (.lst xs) => match ixN xs.length i with
      | some k => match xs[k]? with
        | some y => if (decide (-(2 ^ 63) ≤ i) && decide (i < 2 ^ 63)) = true then .ok y (h.set p (.lst (xs.eraseIdx k))) else .bad
        | none => .bad
      | none => .bad
    | _ => .bad
  | _, _ => .bad
theorem mg_pop : MtG G W "list" (fun x vs H Q => rPop x vs H Q ∨ rPopAt x vs H Q) gPop := by
  intro ρ h H x x' vs vs' Q s rx rv g
  unfold gPop at g
  cases rx with
  | loc hp =>
    rename_i p a
    rcases vs with _ | ⟨y, _ | ⟨_, _⟩⟩
    · cases rv
      simp only at g
      cases e : h.get p with
      | none => rw [e] at g; exact g.elim
      | some o =>
        rw [e] at g
        cases o with
        | dic _ => exact g.elim
        | lst xs =>
          obtain ⟨us, ha, rl⟩ := lst_at s hp e
          simp only at g
          cases q : xs[xs.length - 1]? with
          | none => rw [q] at g; exact g.elim
          | some y =>
            rw [q] at g
            obtain ⟨y', h1, r⟩ := rl.get q
            refine .inl ⟨a, us, y', rfl, rfl, ha, by rw [← rl.length]; exact h1, ?_⟩
            exact g.write (u := .lst us.dropLast) (o := .lst xs.dropLast) s hp trivial (repO_set hp (s.mut hp) rl.dropLast) _ (r.mono Sub.refl (frm_upd (o := .lst us) hp (s.mut hp)))
    · obtain ⟨v, rfl, r⟩ := rep1 rv
      cases r with
      | int i =>
        simp only at g
        cases e : h.get p with
        | none => rw [e] at g; exact g.elim
        | some o =>
          rw [e] at g
          cases o with
          | dic _ => exact g.elim
          | lst xs =>
            obtain ⟨us, ha, rl⟩ := lst_at s hp e
            simp only at g
            cases q0 : ixN xs.length i with
            | none => rw [q0] at g; exact g.elim
            | some k =>
              rw [q0] at g
              simp only at g
              cases q : xs[k]? with
              | none => rw [q] at g; exact g.elim
              | some y =>
                rw [q] at g
                simp only at g
                by_cases c : (decide (-(2 ^ 63) ≤ i) && decide (i < 2 ^ 63)) = true
                · rw [if_pos c] at g
                  obtain ⟨y', h1, r⟩ := rl.get q
                  have c' := c
                  simp only [Bool.and_eq_true, decide_eq_true_eq] at c'
                  refine .inr ⟨a, us, i, k, y', rfl, rfl, ha, c'.1, c'.2, ?_, h1, ?_⟩
                  · rw [← rl.length]
                    exact (ixN_seq q0).1
                  · exact g.write (u := .lst (us.eraseIdx k)) (o := .lst (xs.eraseIdx k)) s hp trivial (repO_set hp (s.mut hp) (rl.eraseIdx k)) _ (r.mono Sub.refl (frm_upd (o := .lst us) hp (s.mut hp)))
                · rw [if_neg c] at g; exact g.elim
      | _ => exact g.elim
    · cases y <;> exact g.elim
  | _ => exact g.elim
/-- the first place of a flat item -/
def findF (y : SV) : List SV → Nat → Option Nat
  | [], _ => none
  | x :: r, j => if eqF x y = true then some j else findF y r (j + 1)
theorem findF_ok {y : SV} : ∀ {xs : List SV} {j k : Nat}, findF y xs j = some k → j ≤ k ∧ (∃ z, xs[k - j]? = some z ∧ eqF z y = true) ∧ ∀ m z, m < k - j → xs[m]? = some z → eqF z y = false
  | [], _, _, e => by cases e
  | x :: r, j, k, e => by
    unfold findF at e
    by_cases c : eqF x y = true
    · rw [if_pos c] at e
      cases e
      refine ⟨Nat.le_refl _, ⟨x, by simp, c⟩, fun m z hm _ => by omega⟩
    · rw [if_neg c] at e
      obtain ⟨h1, ⟨z, h2, h3⟩, h4⟩ := findF_ok e
      refine ⟨by omega, ⟨z, ?_, h3⟩, fun m w hm hw => ?_⟩
      · rw [show k - j = (k - (j + 1)) + 1 by omega, List.getElem?_cons_succ]; exact h2
      · cases m with
        | zero => simp at hw; subst hw; simpa using c
        | succ m => exact h4 m w (by omega) (by simpa using hw)
def gIndex : SV → List SV → SH → Out SV := fun x vs h => match vs with
  | [y] => match lstOf h x with
    | some xs => if (flatS y && xs.all flatS) = true then (match findF y xs 0 with | some j => .ok (.int (j : Nat)) h | none => .bad) else .bad
    | none => .bad
  | _ => .bad
theorem mg_index : MtG G W "list" (rIndex G.K) gIndex := by
  intro ρ h H x x' vs vs' Q s rx rv g
  unfold gIndex at g
  rcases vs with _ | ⟨y, _ | ⟨_, _⟩⟩
  · exact g.elim
  · obtain ⟨v, rfl, r⟩ := rep1 rv
    simp only at g
    cases e : lstOf h x with
    | none => rw [e] at g; exact g.elim
    | some xs =>
      rw [e] at g
      obtain ⟨a, us, rfl, ha, rl⟩ := lstOf_ok s rx e
      simp only at g
      by_cases c : (flatS y && xs.all flatS) = true
      · rw [if_pos c] at g
        obtain ⟨c1, c2⟩ := Bool.and_eq_true_iff.mp c
        cases q : findF y xs 0 with
        | none => rw [q] at g; exact g.elim
        | some j =>
          rw [q] at g
          obtain ⟨_, ⟨z, h2, h3⟩, h4⟩ := findF_ok q
          obtain ⟨z', h5, rz⟩ := rl.get (i := j) h2
          have fz : ∀ {i : Nat} {w : SV}, xs[i]? = some w → flatS w = true := fun {i w} hw => List.all_eq_true.mp c2 w (List.mem_of_getElem? hw)
          refine ⟨a, us, v, j, z', rfl, rfl, .inl (.inl ha), by rw [flatS_ok r]; exact c1, by rw [flatL_ok rl]; exact c2, h5, by rw [eqF_ok rz r (fz h2) c1]; exact h3, fun m w hm hw => ?_, g.here s _ (.int _)⟩
          have hml : m < xs.length := by
            have := (List.getElem?_eq_some_iff.mp hw).1
            rw [rl.length]; exact this
          obtain ⟨w', h6, rw'⟩ := rl.get (List.getElem?_eq_getElem hml)
          rw [hw] at h6; cases h6
          rw [eqF_ok rw' r (fz (List.getElem?_eq_getElem hml)) c1]
          exact h4 m _ (by omega) (List.getElem?_eq_getElem hml)
      · rw [if_neg c] at g; exact g.elim
  · exact g.elim
/-- xs.count(y), items flat -/
def rCountF (K : PySem.W.Frag) : V → List V → Hp → VK → Prop := fun x xs H Q => ∃ (p : Addr) (ys : List V) (y : V), x = .ref p ∧ xs = [y] ∧ SqL K H p ys ∧ flatV y = true ∧ ys.all flatV = true ∧ Q (.int (ys.countP fun z => eqV z y : Nat)) H
theorem count_eqU {x : V} : ∀ {xs : List V} {us : List Value}, Vals xs us → xs.all flatV = true → us.countP (eqU x) = xs.countP fun y => eqV y x
  | _, _, .nil, _ => rfl
  | y :: xs, u :: us, .cons r t, f => by
    rw [List.all_cons, Bool.and_eq_true] at f
    rw [List.countP_cons, List.countP_cons, eqU_of r f.1, count_eqU t f.2]
theorem mt_countF : MtR X "list.count" (rCountF X.K) := by
  intro pins s σ H x xs v us Q I rx rxs h
  obtain ⟨p, ys, y, rfl, rfl, hs, fy, fys, q⟩ := h
  cases rx
  obtain ⟨u, rfl, ru⟩ := rxs.one
  obtain ⟨its, rv, ⟨⟨cls, dd, data, sl⟩, n, ho, hc, hdn, hd⟩, hlen⟩ := I.list hs
  simp only at hc hd
  subst hc hd
  refine call_meets PySem.F.slot_list_count ⟨_, ho, rfl⟩ PySem.F.entry_list_count (PySem.F.args_list_count_2 _ _)
    (SeqAt.list_countAt p its.toArray n dd sl u (eqU y)) ⟨ho, fun w hw => mem_eqAt ru fy rv fys w (by simpa using hw), ?_⟩
  refine ⟨.int (ys.countP fun z => eqV z y : Nat), H, I.tok _, ⟨s.toks, ?_⟩, q⟩
  rw [← count_eqU rv fys]
def gCount : SV → List SV → SH → Out SV := fun x vs h => match vs with
  | [y] => match lstOf h x with
    | some xs => if (flatS y && xs.all flatS) = true then .ok (.int (xs.countP fun z => eqF z y : Nat)) h else .bad
    | none => .bad
  | _ => .bad
theorem countF_ok {ρ : Rho} {H : Hp} {x : SV} {x' : V} (rx : Rep G ρ H x x') (fx : flatS x = true) : ∀ {xs : List SV} {vs : List V}, RepL G ρ H xs vs → xs.all flatS = true → (vs.countP fun z => eqV z x') = xs.countP fun z => eqF z x
  | _, _, .nil, _ => rfl
  | y :: xs, v :: vs, .cons r t, h => by
    rw [List.all_cons, Bool.and_eq_true] at h
    rw [List.countP_cons, List.countP_cons, eqF_ok r rx h.1 fx, countF_ok rx fx t h.2]
theorem mg_count : MtG G W "list" (rCountF G.K) gCount := by
  intro ρ h H x x' vs vs' Q s rx rv g
  unfold gCount at g
  rcases vs with _ | ⟨y, _ | ⟨_, _⟩⟩
  · exact g.elim
  · obtain ⟨v, rfl, r⟩ := rep1 rv
    simp only at g
    cases e : lstOf h x with
    | none => rw [e] at g; exact g.elim
    | some xs =>
      rw [e] at g
      obtain ⟨a, us, rfl, ha, rl⟩ := lstOf_ok s rx e
      simp only at g
      by_cases c : (flatS y && xs.all flatS) = true
      · rw [if_pos c] at g
        obtain ⟨c1, c2⟩ := Bool.and_eq_true_iff.mp c
        refine ⟨a, us, v, rfl, rfl, .inl (.inl ha), by rw [flatS_ok r]; exact c1, by rw [flatL_ok rl]; exact c2, ?_⟩
        rw [countF_ok r c1 rl c2]
        exact g.here s _ (.int _)
      · rw [if_neg c] at g; exact g.elim
  · exact g.elim

/-! ### dicts -/
def eqKS : SV → SV → Bool
  | .int i, .int j => decide (i = j)
  | .str a, .str b => decide (a = b)
  | _, _ => false
def isKS : SV → Bool
  | .int _ => true
  | .str _ => true
  | _ => false
def getS : List (SV × SV) → SV → Option SV
  | [], _ => none
  | (k, v) :: r, x => if eqKS k x = true then some v else getS r x
theorem key_of {ρ : Rho} {H : Hp} {x : SV} {x' : V} (r : Rep G ρ H x x') (c : isKS x = true) : ∃ k : Key, x' = kV k := by
  cases r with
  | int i => exact ⟨.inl i, rfl⟩
  | str l => exact ⟨.inr _, rfl⟩
  | _ => cases c
theorem eqKS_ok {ρ : Rho} {H : Hp} {x y : SV} {a b : Key} (rx : Rep G ρ H x (kV a)) (ry : Rep G ρ H y (kV b)) : eqKS x y = decide (a = b) := by
  cases a with
  | inl i =>
    cases rx
    cases b with
    | inl j => cases ry; show decide (i = j) = _; by_cases c : i = j <;> simp [c]
    | inr z => cases ry; rfl
  | inr w =>
    generalize hw : kV (Sum.inr w) = v at rx
    cases rx with
    | str l =>
      cases hw
      generalize hz : kV b = u at ry
      cases ry with
      | str m =>
        cases b with
        | inl j => cases hz
        | inr z =>
          cases hz
          show decide (l = m) = _
          by_cases c : l = m
          · simp [c]
          · simp [c]
      | int j => cases b with
        | inl j => cases hz; rfl
        | inr z => cases hz
      | _ => cases b <;> cases hz
    | _ => cases hw
theorem getS_ok {ρ : Rho} {H : Hp} {x : SV} {k : Key} (rx : Rep G ρ H x (kV k)) : ∀ {kvs : List (SV × SV)} {ks : List (Key × V)}, RepP G ρ H kvs ks →
    (∀ v, getS kvs x = some v → ∃ v', valV ks k = some v' ∧ Rep G ρ H v v') ∧ (getS kvs x = none → valV ks k = none)
  | [], [], _ => ⟨fun v e => (by cases e), fun _ => rfl⟩
  | (k1, v1) :: r, (k2, v2) :: r', ⟨a, b, c⟩ => by
    have q := eqKS_ok a rx
    by_cases z : k2 = k
    · rw [decide_eq_true z] at q
      unfold getS
      rw [if_pos q]
      refine ⟨fun v e => ?_, fun e => by cases e⟩
      cases e
      exact ⟨v2, valV_pos z, b⟩
    · rw [decide_eq_false z] at q
      unfold getS
      rw [if_neg (by rw [q]; exact Bool.false_ne_true)]
      have ih := getS_ok rx c
      rw [valV_neg (p := (k2, v2)) z]
      exact ih
/-- d.get(k), d.get(k, x) -/
def fGet1 (o k : F) : F := fun η h => (o η h).bind fun x h => if isTy "dict" x h = true then (k η h).bind fun y h => match dicOf h x with
    | some kvs => if isKS y = true then .ok ((getS kvs y).getD .non) h else .bad
    | none => .bad
  else .bad
def fGet2 (o k d : F) : F := fun η h => (o η h).bind fun x h => if isTy "dict" x h = true then (k η h).bind fun y h => (d η h).bind fun z h => match dicOf h x with
    | some kvs => if isKS y = true then .ok ((getS kvs y).getD z) h else .bad
    | none => .bad
  else .bad
theorem isD_ok {ρ : Rho} {h : SH} {H : Hp} {x : SV} {x' : V} (s : Sim G ρ h H) (r : Rep G ρ H x x') (e : isTy "dict" x h = true) : ∃ a, x' = .ref a ∧ IsD H a := by
  cases r with
  | str l => exact absurd e (by simp [isTy])
  | int i => exact absurd e (by simp [isTy])
  | loc hp =>
    rename_i p a
    unfold isTy at e
    cases q : h.get p with
    | none => simp [q] at e
    | some o =>
      cases o with
      | lst xs => simp [q] at e
      | dic xs =>
        obtain ⟨a', vs, h1, h2, rl⟩ := s.dic q
        rw [hp] at h1; cases h1
        exact ⟨a, rfl, .inl ⟨vs, .inl h2⟩⟩
  | fd hd _ _ => exact ⟨_, rfl, .inl ⟨_, .inl hd⟩⟩
  | fl _ _ => exact absurd e (by simp [isTy])
  | ls _ _ _ => exact absurd e (by simp [isTy])
  | _ => cases e
variable {o e f : Expr} {apos cpos : Pos} {fo fe ff : F}
theorem e_get1 (hu : X.A.units + 1 < cLine) (ho : PE X o (tE G W fo)) (he : PE X e (tE G W fe)) (m : M1 X o "get" apos e cpos) : PE X (.Call (.Attribute o "get" apos) [e] [] cpos) (tE G W (fGet1 fo fe)) :=
  (pe_dget1 hu ho he m).impX fun σ H Q ⟨ρ, η, h, r, s, g⟩ => by
    refine ⟨ρ, η, h, r, s, g.bind fun x h1 ρ1 H1 e1 s1 f1 g1 x' rx => ?_⟩
    by_cases c : isTy "dict" x h1 = true
    · rw [if_pos c] at g1
      obtain ⟨a, rfl, d⟩ := isD_ok s1 rx c
      refine ⟨a, rfl, d, ρ1, η, h1, r.mono e1 f1, s1, g1.bind fun y h2 ρ2 H2 e2 s2 f2 g2 y' ry => ?_⟩
      have rx2 := rx.mono e2.sub f2
      cases q : dicOf h2 x with
      | none => rw [q] at g2; exact g2.elim
      | some kvs =>
        rw [q] at g2
        simp only at g2
        by_cases ck : isKS y = true
        · rw [if_pos ck] at g2
          obtain ⟨a', vs, k1, k2, rl⟩ := dicOf_ok s2 rx2 q
          cases k1
          obtain ⟨k, rfl⟩ := key_of ry ck
          obtain ⟨j1, j2⟩ := getS_ok ry rl
          refine ⟨valV vs k, .k k2, ?_⟩
          cases z : getS kvs y with
          | none => rw [j2 z]; rw [z] at g2; exact g2.here s2 _ .non
          | some v =>
            obtain ⟨v', j3, rv⟩ := j1 v z
            rw [j3]; rw [z] at g2
            exact g2.here s2 _ rv
        · rw [if_neg ck] at g2; exact g2.elim
    · rw [if_neg c] at g1; exact g1.elim
theorem e_get2 (hu : X.A.units + 1 < cLine) (ho : PE X o (tE G W fo)) (he : PE X e (tE G W fe)) (hf : PE X f (tE G W ff)) (m : M2 X o "get" apos e f cpos) : PE X (.Call (.Attribute o "get" apos) [e, f] [] cpos) (tE G W (fGet2 fo fe ff)) :=
  (pe_dget2 hu ho he hf m).impX fun σ H Q ⟨ρ, η, h, r, s, g⟩ => by
    refine ⟨ρ, η, h, r, s, g.bind fun x h1 ρ1 H1 e1 s1 f1 g1 x' rx => ?_⟩
    by_cases c : isTy "dict" x h1 = true
    · rw [if_pos c] at g1
      obtain ⟨a, rfl, d⟩ := isD_ok s1 rx c
      refine ⟨a, rfl, d, ρ1, η, h1, r.mono e1 f1, s1, g1.bind fun y h2 ρ2 H2 e2 s2 f2 g2 y' ry => ?_⟩
      refine ⟨ρ2, η, h2, (r.mono e1 f1).mono e2 f2, s2, g2.bind fun w h3 ρ3 H3 e3 s3 f3 g3 w' rw' => ?_⟩
      have rx3 := (rx.mono e2.sub f2).mono e3.sub f3
      have ry3 := ry.mono e3.sub f3
      cases q : dicOf h3 x with
      | none => rw [q] at g3; exact g3.elim
      | some kvs =>
        rw [q] at g3
        simp only at g3
        by_cases ck : isKS y = true
        · rw [if_pos ck] at g3
          obtain ⟨a', vs, k1, k2, rl⟩ := dicOf_ok s3 rx3 q
          cases k1
          obtain ⟨k, rfl⟩ := key_of ry3 ck
          obtain ⟨j1, j2⟩ := getS_ok ry3 rl
          refine ⟨valV vs k, .k k2, ?_⟩
          cases z : getS kvs y with
          | none => rw [j2 z]; rw [z] at g3; exact g3.here s3 _ rw'
          | some v =>
            obtain ⟨v', j3, rv⟩ := j1 v z
            rw [j3]; rw [z] at g3
            exact g3.here s3 _ rv
        · rw [if_neg ck] at g3; exact g3.elim
    · rw [if_neg c] at g1; exact g1.elim
end
end Fv
/-! EvZ: zip of lists, tuples and texts, mixed. -/
namespace Fv
open PySem PySem.Spec PyProof.Rows L2
/-- one side of a zip: what it walks, its iterator -/
structure ZS (P : Program) (w : World) where
  L : Option Addr
  T : Heap → Prop
  S : Heap → Addr → Nat → Prop
  it : Nat → Value → Prop
  fin : Nat → Prop
structure ZS.Ok {P : Program} {w : World} (Z : ZS P w) : Prop where
  keepT : ∀ {h h' : Heap}, Z.T h → (∀ l, Z.L = some l → ∀ o, h.get? l = some o → h'.get? l = some o) → Z.T h'
  keepS : ∀ {h h' : Heap} {a : Addr} {i : Nat}, Z.S h a i → (∀ o, h.get? a = some o → h'.get? a = some o) → Z.S h' a i
  obj : ∀ {h : Heap} {a : Addr} {i : Nat}, Z.S h a i → ∃ o, h.get? a = some o ∧ ∃ vs, o.data = .fields vs
  go : ∀ {A : Around} {E : Value → Shared → Prop} {s : Shared} {a : Addr} {i : Nat} {Q : Value → Shared → Prop}, Z.S s.heap a i → Z.T s.heap → (∃ x, Z.it i x) →
    (∀ x h' tk, Z.it i x → Z.S h' a (i + 1) → Heap.SameBut a s.heap h' → Q x { s with heap := h', toks := tk }) → wpAny (model P w) A (Builtin.SmallTypes.nextOf (.ref a)) Q E s
  stop : ∀ {A : Around} {E : Value → Shared → Prop} {s : Shared} {a : Addr} {i : Nat} {Q : Value → Shared → Prop}, A.handled = none → Z.S s.heap a i → Z.T s.heap → Z.fin i →
    (∀ h' e, Heap.ExtBut a s.heap h' → (∃ o, h'.get? e = some o ∧ o.cls = .type "StopIteration") → E (.ref e) { s with heap := h' }) → wpAny (model P w) A (Builtin.SmallTypes.nextOf (.ref a)) Q E s
structure ZAp (z TI TO i1 i2 : Addr) : Prop where
  TIz : TI ≠ z
  TOz : TO ≠ z
  i1z : i1 ≠ z
  i2z : i2 ≠ z
  TITO : TI ≠ TO
  TIi1 : TI ≠ i1
  TIi2 : TI ≠ i2
  TOi1 : TO ≠ i1
  TOi2 : TO ≠ i2
  i12 : i1 ≠ i2
def ZAw (L : Option Addr) (z TO i1 i2 : Addr) : Prop := ∀ l, L = some l → l ≠ z ∧ l ≠ TO ∧ l ≠ i1 ∧ l ≠ i2
section
variable {P : Program} {w : World} {A : Around} {E : Value → Shared → Prop} {s : Shared} {Z1 Z2 : ZS P w}
theorem ZS.Ok.S_but {Z : ZS P w} (O : Z.Ok) {h h' : Heap} {a b : Addr} {i : Nat} (x : Z.S h a i) (k : Heap.ExtBut b h h') (n : a ≠ b) : Z.S h' a i := O.keepS x fun o e => k _ _ n e
theorem ZS.Ok.T_but {Z : ZS P w} (O : Z.Ok) {h h' : Heap} {b : Addr} (x : Z.T h) (k : Heap.ExtBut b h h') (n : ∀ l, Z.L = some l → l ≠ b) : Z.T h' := O.keepT x fun l hl o e => k _ _ (n l hl) e
theorem zipG_item {z TI TO i1 i2 : Addr} {k1 k2 : Nat} {a b : Value} {Q : Value → Shared → Prop} (O1 : Z1.Ok) (O2 : Z2.Ok) (D : ZAp z TI TO i1 i2) (D1 : ZAw Z1.L z TO i1 i2) (D2 : ZAw Z2.L z TO i1 i2)
    (hz : IsZip s.heap z TI TO .none) (hTI : IsPair s.heap TI (.ref i1) (.ref i2)) (hTO : IsPair s.heap TO a b)
    (h1 : Z1.S s.heap i1 k1) (h2 : Z2.S s.heap i2 k2) (hl1 : Z1.T s.heap) (hl2 : Z2.T s.heap) (hx : ∃ x, Z1.it k1 x) (hy : ∃ y, Z2.it k2 y)
    (hQ : ∀ h' tk x y, Z1.it k1 x → Z2.it k2 y → IsZip h' z TI TO (rawInt s.heap.objs.size) → IsPair h' TO x y → Z1.S h' i1 (k1 + 1) → Z2.S h' i2 (k2 + 1) → IsPair h' s.heap.objs.size x y → h'.objs.size = s.heap.objs.size + 1 →
      (∀ c o, c ≠ z → c ≠ TO → c ≠ i1 → c ≠ i2 → s.heap.get? c = some o → h'.get? c = some o) → Q (.ref s.heap.objs.size) { s with heap := h', toks := tk }) :
    wpAny (model P w) A (Builtin.«zip.__next__» ⟨[.ref z], []⟩) (fun fin s' => ∃ v, fin = .done (.ret v) ∧ Q v s') E s := by
  show wpAny _ _ (field (.ref z) 2 >>= _) _ _ _
  refine wpAny_bind (wpAny_field hz rfl (x := .bool false) rfl ?_)
  show wpAny _ _ (field (.ref z) 3 >>= _) _ _ _
  refine wpAny_bind (wpAny_field hz rfl (x := .ref TI) rfl ?_)
  refine wpAny_bind (wpAny_seqItems hTI rfl ?_)
  show wpAny _ _ (Builtin.SmallTypes.ownedTupleIsFree (.ref z) >>= _) _ _ _
  refine wpAny_bind ?_
  unfold Builtin.SmallTypes.ownedTupleIsFree
  refine wpAny_bind (wpAny_field hz rfl (x := .none) rfl (wpAny_pure ?_))
  simp only [if_true]
  refine wpAny_bind (wpAny_rule ?_)
  refine wpAny_bind (wpAny_field hz rfl (x := .ref TO) rfl ?_)
  refine wpAny_bind (wpAny_setField_rec hz (by simp) fun h₁ hz₁ hs₁ => ?_)
  replace hz₁ : IsZip h₁ z TI TO .ellipsis := hz₁
  refine wpAny_bind ?_
  simp only [List.zipIdx_cons, List.zipIdx_nil, List.forIn_cons, List.forIn_nil]
  refine wpAny_bind (wpAny_bind (wpAny_onRaise ?_))
  show wpAny _ _ (Builtin.SmallTypes.nextOf (.ref i1) >>= _) _ _ _
  refine wpAny_bind (O1.go (O1.S_but h1 hs₁.extBut D.i1z) (O1.T_but hl1 hs₁.extBut fun l q => (D1 l q).1) hx fun x h₂ tk₂ hx h1₂ hs₂ => wpAny_pure ?_)
  have hTO₂ : IsPair h₂ TO a b := hs₂.extBut _ _ D.TOi1 (hs₁.extBut _ _ D.TOz hTO)
  refine wpAny_bind (wpAny_seqItems hTO₂ rfl ?_)
  refine wpAny_bind (wpAny_updateSeq_pair hTO₂ fun h₃ hTO₃ hs₃ => ?_)
  replace hTO₃ : IsPair h₃ TO x b := hTO₃
  refine wpAny_bind (wpAny_letGo (wpAny_pure ?_))
  refine wpAny_bind (wpAny_bind (wpAny_onRaise ?_))
  show wpAny _ _ (Builtin.SmallTypes.nextOf (.ref i2) >>= _) _ _ _
  refine wpAny_bind (O2.go (O2.S_but (O2.S_but (O2.S_but h2 hs₁.extBut D.i2z) hs₂.extBut D.i12.symm) hs₃.extBut D.TOi2.symm)
    (O2.T_but (O2.T_but (O2.T_but hl2 hs₁.extBut fun l q => (D2 l q).1) hs₂.extBut fun l q => (D2 l q).2.2.1) hs₃.extBut fun l q => (D2 l q).2.1) hy fun y h₄ tk₄ hy h2₄ hs₄ => wpAny_pure ?_)
  have hTO₄ : IsPair h₄ TO x b := hs₄.extBut _ _ D.TOi2 hTO₃
  refine wpAny_bind (wpAny_seqItems hTO₄ rfl ?_)
  refine wpAny_bind (wpAny_updateSeq_pair hTO₄ fun h₅ hTO₅ hs₅ => ?_)
  replace hTO₅ : IsPair h₅ TO x y := hTO₅
  refine wpAny_bind (wpAny_letGo (wpAny_pure (wpAny_pure ?_)))
  refine wpAny_bind (wpAny_seqItems hTO₅ rfl ?_)
  refine wpAny_bind (wpAny_newTuple ?_)
  have hsz : h₅.objs.size = s.heap.objs.size := by rw [hs₅.1, hs₄.1, hs₃.1, hs₂.1, hs₁.1]
  have hz₅ : IsZip h₅ z TI TO .ellipsis := hs₅.extBut _ _ D.TOz.symm (hs₄.extBut _ _ D.i2z.symm (hs₃.extBut _ _ D.TOz.symm (hs₂.extBut _ _ D.i1z.symm hz₁)))
  have hk₅ : ∀ c o, c ≠ z → c ≠ TO → c ≠ i1 → c ≠ i2 → s.heap.get? c = some o → h₅.get? c = some o := fun c o c1 c2 c3 c4 e =>
    hs₅.extBut _ _ c2 (hs₄.extBut _ _ c4 (hs₃.extBut _ _ c2 (hs₂.extBut _ _ c3 (hs₁.extBut _ _ c1 e))))
  have h1₅ : Z1.S h₅ i1 (k1 + 1) := O1.S_but (O1.S_but (O1.S_but h1₂ hs₃.extBut D.TOi1.symm) hs₄.extBut D.i12) hs₅.extBut D.TOi1.symm
  have h2₅ : Z2.S h₅ i2 (k2 + 1) := O2.S_but h2₄ hs₅.extBut D.TOi2.symm
  have hzlt : z < h₅.objs.size := Heap.lt_size hz₅
  show wpAny _ _ (Builtin.SmallTypes.ownedTupleHandOut (.ref z) (.ref h₅.objs.size) >>= _) _ _ _
  refine wpAny_bind ?_
  unfold Builtin.SmallTypes.ownedTupleHandOut
  have hz₆ : IsZip (h₅.push { cls := .type "tuple", data := .seq #[x, y] }) z TI TO .ellipsis := Heap.get?_push_of_some _ hz₅
  refine wpAny_bind (wpAny_setField_rec hz₆ (by simp) fun h₇ hz₇ hs₇ => ?_)
  replace hz₇ : IsZip h₇ z TI TO (rawInt h₅.objs.size) := hz₇
  refine wpAny_setField_rec hz₇ (by simp) fun h₈ hz₈ hs₈ => ?_
  replace hz₈ : IsZip h₈ z TI TO (rawInt h₅.objs.size) := hz₈
  have up : ∀ c o, c ≠ z → h₅.get? c = some o → h₈.get? c = some o := fun c o c1 e => hs₈.extBut _ _ c1 (hs₇.extBut _ _ c1 (Heap.get?_push_of_some _ e))
  have hT₈ : IsPair h₈ h₅.objs.size x y := hs₈.extBut _ _ (Nat.ne_of_gt hzlt) (hs₇.extBut _ _ (Nat.ne_of_gt hzlt) (Heap.get?_push_size _ rfl))
  have hz8 : h₈.objs.size = h₅.objs.size + 1 := by rw [hs₈.1, hs₇.1, Heap.size_push]
  rw [hsz] at hz₈ hT₈ hz8
  refine wpAny_pure ⟨_, rfl, ?_⟩
  show Q (.ref h₅.objs.size) _
  rw [hsz]
  exact hQ h₈ _ x y hx hy hz₈ (up _ _ D.TOz hTO₅) (O1.keepS h1₅ fun o e => up _ o D.i1z e) (O2.keepS h2₅ fun o e => up _ o D.i2z e) hT₈ hz8 fun c o c1 c2 c3 c4 e => up c o c1 (hk₅ c o c1 c2 c3 c4 e)
theorem zipG_end {z TI TO i1 i2 : Addr} {k1 k2 : Nat} {a b : Value} {Q : Fin → Shared → Prop} (hh : A.handled = none) (O1 : Z1.Ok) (O2 : Z2.Ok) (D : ZAp z TI TO i1 i2) (D1 : ZAw Z1.L z TO i1 i2) (D2 : ZAw Z2.L z TO i1 i2)
    (hz : IsZip s.heap z TI TO .none) (hTI : IsPair s.heap TI (.ref i1) (.ref i2)) (hTO : IsPair s.heap TO a b)
    (h1 : Z1.S s.heap i1 k1) (h2 : Z2.S s.heap i2 k2) (hl1 : Z1.T s.heap) (hl2 : Z2.T s.heap) (hend : Z1.fin k1 ∨ ((∃ x, Z1.it k1 x) ∧ Z2.fin k2))
    (hE : ∀ h' e tk, (∀ c o, c ≠ z → c ≠ TO → c ≠ i1 → c ≠ i2 → s.heap.get? c = some o → h'.get? c = some o) → (∃ o, h'.get? e = some o ∧ o.cls = .type "StopIteration") → E (.ref e) { s with heap := h', toks := tk }) :
    wpAny (model P w) A (Builtin.«zip.__next__» ⟨[.ref z], []⟩) Q E s := by
  show wpAny _ _ (field (.ref z) 2 >>= _) _ _ _
  refine wpAny_bind (wpAny_field hz rfl (x := .bool false) rfl ?_)
  show wpAny _ _ (field (.ref z) 3 >>= _) _ _ _
  refine wpAny_bind (wpAny_field hz rfl (x := .ref TI) rfl ?_)
  refine wpAny_bind (wpAny_seqItems hTI rfl ?_)
  show wpAny _ _ (Builtin.SmallTypes.ownedTupleIsFree (.ref z) >>= _) _ _ _
  refine wpAny_bind ?_
  unfold Builtin.SmallTypes.ownedTupleIsFree
  refine wpAny_bind (wpAny_field hz rfl (x := .none) rfl (wpAny_pure ?_))
  simp only [if_true]
  refine wpAny_bind (wpAny_rule ?_)
  refine wpAny_bind (wpAny_field hz rfl (x := .ref TO) rfl ?_)
  refine wpAny_bind (wpAny_setField_rec hz (by simp) fun h₁ hz₁ hs₁ => ?_)
  replace hz₁ : IsZip h₁ z TI TO .ellipsis := hz₁
  refine wpAny_bind ?_
  simp only [List.zipIdx_cons, List.zipIdx_nil, List.forIn_cons, List.forIn_nil]
  refine wpAny_bind (wpAny_bind (wpAny_onRaise ?_))
  show wpAny _ _ (Builtin.SmallTypes.nextOf (.ref i1) >>= _) _ _ _
  rcases hend with hx | ⟨hx, hy⟩
  · refine wpAny_bind (O1.stop hh (O1.S_but h1 hs₁.extBut D.i1z) (O1.T_but hl1 hs₁.extBut fun l q => (D1 l q).1) hx fun h₂ e hs₂ he => ?_)
    obtain ⟨oe, hoe, hce⟩ := he
    have hz₂ : IsZip h₂ z TI TO .ellipsis := hs₂ _ _ D.i1z.symm hz₁
    have hez : e ≠ z := fun x => by subst x; rw [hz₂] at hoe; cases hoe; simp at hce
    refine wpAny_setField_rec hz₂ (by simp) fun h₃ _ hs₃ => hE h₃ e _ (fun c o c1 _ c3 _ x => hs₃.extBut _ _ c1 (hs₂ _ _ c3 (hs₁.extBut _ _ c1 x))) ⟨oe, hs₃.extBut _ _ hez hoe, hce⟩
  · refine wpAny_bind (O1.go (O1.S_but h1 hs₁.extBut D.i1z) (O1.T_but hl1 hs₁.extBut fun l q => (D1 l q).1) hx fun x h₂ tk₂ hx h1₂ hs₂ => wpAny_pure ?_)
    have hTO₂ : IsPair h₂ TO a b := hs₂.extBut _ _ D.TOi1 (hs₁.extBut _ _ D.TOz hTO)
    refine wpAny_bind (wpAny_seqItems hTO₂ rfl ?_)
    refine wpAny_bind (wpAny_updateSeq_pair hTO₂ fun h₃ hTO₃ hs₃ => ?_)
    refine wpAny_bind (wpAny_letGo (wpAny_pure ?_))
    refine wpAny_bind (wpAny_bind (wpAny_onRaise ?_))
    show wpAny _ _ (Builtin.SmallTypes.nextOf (.ref i2) >>= _) _ _ _
    refine wpAny_bind (O2.stop hh (O2.S_but (O2.S_but (O2.S_but h2 hs₁.extBut D.i2z) hs₂.extBut D.i12.symm) hs₃.extBut D.TOi2.symm)
      (O2.T_but (O2.T_but (O2.T_but hl2 hs₁.extBut fun l q => (D2 l q).1) hs₂.extBut fun l q => (D2 l q).2.2.1) hs₃.extBut fun l q => (D2 l q).2.1) hy fun h₄ e hs₄ he => ?_)
    obtain ⟨oe, hoe, hce⟩ := he
    have hz₄ : IsZip h₄ z TI TO .ellipsis := hs₄ _ _ D.i2z.symm (hs₃.extBut _ _ D.TOz.symm (hs₂.extBut _ _ D.i1z.symm hz₁))
    have hez : e ≠ z := fun x => by subst x; rw [hz₄] at hoe; cases hoe; simp at hce
    refine wpAny_setField_rec hz₄ (by simp) fun h₅ _ hs₅ => hE h₅ e _ (fun c o c1 c2 c3 c4 x => hs₅.extBut _ _ c1 (hs₄ _ _ c4 (hs₃.extBut _ _ c2 (hs₂.extBut _ _ c3 (hs₁.extBut _ _ c1 x))))) ⟨oe, hs₅.extBut _ _ hez hoe, hce⟩
theorem pyNext_zipG {z TI TO i1 i2 : Addr} {k1 k2 : Nat} {a b : Value} {Q : Option Value → Shared → Prop} (O1 : Z1.Ok) (O2 : Z2.Ok) (D : ZAp z TI TO i1 i2) (D1 : ZAw Z1.L z TO i1 i2) (D2 : ZAw Z2.L z TO i1 i2)
    (hz : IsZip s.heap z TI TO .none) (hTI : IsPair s.heap TI (.ref i1) (.ref i2)) (hTO : IsPair s.heap TO a b)
    (h1 : Z1.S s.heap i1 k1) (h2 : Z2.S s.heap i2 k2) (hl1 : Z1.T s.heap) (hl2 : Z2.T s.heap) (hx : ∃ x, Z1.it k1 x) (hy : ∃ y, Z2.it k2 y)
    (hQ : ∀ h' tk x y, Z1.it k1 x → Z2.it k2 y → IsZip h' z TI TO (rawInt s.heap.objs.size) → IsPair h' TO x y → Z1.S h' i1 (k1 + 1) → Z2.S h' i2 (k2 + 1) → IsPair h' s.heap.objs.size x y → h'.objs.size = s.heap.objs.size + 1 →
      (∀ c o, c ≠ z → c ≠ TO → c ≠ i1 → c ≠ i2 → s.heap.get? c = some o → h'.get? c = some o) → Q (some (.ref s.heap.objs.size)) { s with heap := h', toks := tk }) :
    wpAny (model P w) A (pyNext (.ref z)) Q E s := by
  have hT : s.TypeIs (.ref z) "zip" := ⟨_, hz, rfl⟩
  unfold pyNext
  exact wpAny_bind (wpAny_attempt (wpAny_callSpecial?_slot (name := Str.ofString "__next__") hT F.slot_zip_next
    (wpAny_call_entry F.slot_zip_next hT F.entry_zip_next
      (zipG_item O1 O2 D D1 D2 hz hTI hTO h1 h2 hl1 hl2 hx hy fun h' tk x y a0 b0 a1 a2 a3 a4 a5 a6 a7 => wpAny_pure (hQ h' tk x y a0 b0 a1 a2 a3 a4 a5 a6 a7)) (F.args_zip_next_1 _))))
theorem pyNext_zipG_end {z TI TO i1 i2 : Addr} {k1 k2 : Nat} {a b : Value} {Q : Option Value → Shared → Prop} (hh : A.handled = none) (O1 : Z1.Ok) (O2 : Z2.Ok) (D : ZAp z TI TO i1 i2) (D1 : ZAw Z1.L z TO i1 i2) (D2 : ZAw Z2.L z TO i1 i2)
    (hz : IsZip s.heap z TI TO .none) (hTI : IsPair s.heap TI (.ref i1) (.ref i2)) (hTO : IsPair s.heap TO a b)
    (h1 : Z1.S s.heap i1 k1) (h2 : Z2.S s.heap i2 k2) (hl1 : Z1.T s.heap) (hl2 : Z2.T s.heap) (hend : Z1.fin k1 ∨ ((∃ x, Z1.it k1 x) ∧ Z2.fin k2))
    (hQ : ∀ h' tk, (∀ c o, c ≠ z → c ≠ TO → c ≠ i1 → c ≠ i2 → s.heap.get? c = some o → h'.get? c = some o) → Q none { s with heap := h', toks := tk }) : wpAny (model P w) A (pyNext (.ref z)) Q E s := by
  have hT : s.TypeIs (.ref z) "zip" := ⟨_, hz, rfl⟩
  unfold pyNext
  refine wpAny_bind (wpAny_attempt (wpAny_callSpecial?_slot (name := Str.ofString "__next__") hT F.slot_zip_next
    (wpAny_call_entry F.slot_zip_next hT F.entry_zip_next (zipG_end hh O1 O2 D D1 D2 hz hTI hTO h1 h2 hl1 hl2 hend fun h' e tk hk he => ?_) (F.args_zip_next_1 _))))
  obtain ⟨o, ho, hc⟩ := he
  refine wpAny_bind (wpAny_isInstance (T := "StopIteration") (b := true) ⟨o, ho, hc⟩ isSubtype_stop ?_)
  exact wpAny_pure (hQ _ _ hk)
end
/-! ### lists, tuples, texts -/
inductive ZK where
  | lst (a : Addr) | tup (a : Addr) | str (x : Str) (t : Tok)
def ZK.L : ZK → Option Addr
  | .lst a => some a
  | .tup a => some a
  | .str _ _ => none
def zty (x : Str) : String := if x.cps.all (· < 128) = true then "str_ascii_iterator" else "str_iterator"
def ZK.S : ZK → Heap → Addr → Nat → Prop
  | .lst a => fun h i n => h.IsListIter i a n
  | .tup a => fun h i n => h.IsTupleIter i a n
  | .str x t => fun h i n => h.IsStrIter i (zty x) x t n
def ZK.go (K : PySem.W.Frag) (H : Hp) (i : Nat) : ZK → Prop
  | .lst a => ∃ xs x, SqL K H a xs ∧ xs[i]? = some x
  | .tup a => ∃ xs x, SqT K H a xs ∧ xs[i]? = some x
  | .str x _ => i < x.cps.size
def ZK.yl (K : PySem.W.Frag) (H : Hp) (i : Nat) (v : V) : ZK → Prop
  | .lst a => ∀ xs, SqL K H a xs → xs[i]? = some v
  | .tup a => ∀ xs, SqT K H a xs → xs[i]? = some v
  | .str x _ => ∃ c, x.cps[i]? = some c ∧ v = .str ⟨#[c]⟩
def ZK.st (K : PySem.W.Frag) (H : Hp) (i : Nat) : ZK → Prop
  | .lst a => ∃ xs, SqL K H a xs ∧ xs.length ≤ i
  | .tup a => ∃ xs, SqT K H a xs ∧ xs.length ≤ i
  | .str x _ => x.cps.size ≤ i
section
variable {P : Program} {w : World}
def zsL (l : Addr) (items : Array Value) : ZS P w := ⟨some l, fun h => h.IsList l items, fun h i n => h.IsListIter i l n, fun i x => items[i]? = some x, fun i => items[i]? = none⟩
def zsT (l : Addr) (items : Array Value) : ZS P w := ⟨some l, fun h => h.IsTuple l items, fun h i n => h.IsTupleIter i l n, fun i x => items[i]? = some x, fun i => items[i]? = none⟩
def zsS (x : Str) (t : Tok) : ZS P w := ⟨none, fun _ => True, fun h i n => h.IsStrIter i (zty x) x t n, fun i v => SignAt x i v, fun i => x.cps.size ≤ i⟩
theorem zsL_ok (l : Addr) (items : Array Value) : (zsL l items : ZS P w).Ok where
  keepT := fun x k => Heap.IsList.at x fun o e => k l rfl o e
  keepS := fun x k => Heap.IsListIter.at x k
  obj := fun ⟨o, e, _, d⟩ => ⟨o, e, _, d⟩
  go := fun h1 h2 ⟨x, hx⟩ h => wpAny_nextOf_list_item h1 h2 hx fun h' a b => h x h' _ hx a b
  stop := fun hh h1 h2 hx h => wpAny_nextOf_list_end hh h1 h2 hx h
theorem zsT_ok (l : Addr) (items : Array Value) : (zsT l items : ZS P w).Ok where
  keepT := fun x k => Heap.IsTuple.at x fun o e => k l rfl o e
  keepS := fun x k => Heap.IsTupleIter.at x k
  obj := fun ⟨o, e, _, d⟩ => ⟨o, e, _, d⟩
  go := fun h1 h2 ⟨x, hx⟩ h => RZ.nextOf_tuple_item h1 h2 hx fun h' a b => h x h' _ hx a b
  stop := fun hh h1 h2 hx h => RZ.nextOf_tuple_end hh h1 h2 hx h
theorem zsS_ok (x : Str) (t : Tok) : (zsS x t : ZS P w).Ok where
  keepT := fun _ _ => trivial
  keepS := fun ⟨o, ho, r⟩ k => ⟨o, k o ho, r⟩
  obj := fun ⟨o, e, _, d⟩ => ⟨o, e, _, d⟩
  go := by
    intro A E s a i Q h1 _ hx h
    obtain ⟨_, c, u, hc, _⟩ := hx
    have h1 : s.heap.IsStrIter a (zty x) x t i := h1
    have h : ∀ v h' tk, SignAt x i v → h'.IsStrIter a (zty x) x t (i + 1) → Heap.SameBut a s.heap h' → Q v { s with heap := h', toks := tk } := h
    unfold zty at h1 h
    split at h1
    · rename_i ha
      simp only [if_pos ha] at h
      exact wpAny_nextOf_ascii_item h1 hc fun h' p q => h _ h' _ ⟨c, _, hc, rfl⟩ p q
    · rename_i ha
      simp only [if_neg ha] at h
      exact wpAny_nextOf_wide_item h1 hc fun h' p q => h _ h' _ ⟨c, _, hc, rfl⟩ p q
  stop := by
    intro A E s a i Q hh h1 _ hx h
    have h1 : s.heap.IsStrIter a (zty x) x t i := h1
    have hx : x.cps.size ≤ i := hx
    have e : x.cps[i]? = none := Array.getElem?_eq_none hx
    unfold zty at h1
    split at h1
    · exact wpAny_nextOf_ascii_end hh h1 e h
    · exact wpAny_nextOf_wide_end hh h1 e h
end
section
variable {X : Cx} {pins : List (Addr × Obj)} {σ : L2.St} {H : Hp} {s : Shared}
/-- this turn's side -/
structure ZNow (X : Cx) (H : Hp) (s : Shared) (i : Nat) (k : ZK) (Z : ZS X.prog X.w) : Prop where
  ok : Z.Ok
  L : Z.L = k.L
  S : Z.S = k.S
  T : Z.T s.heap
  yl : ∀ u, Z.it i u → ∃ x, k.yl X.K H i x ∧ L2.RelV x u
theorem ZK.now_go (I : Inv X pins σ H s) {k : ZK} {i : Nat} (g : k.go X.K H i) : ∃ Z, ZNow X H s i k Z ∧ ∃ u, Z.it i u := by
  cases k with
  | lst a =>
    obtain ⟨xs, x, hq, hx⟩ := g
    obtain ⟨its, rv, p, _⟩ := I.list hq
    obtain ⟨u, hu, ru⟩ := rv.get hx
    have hu' : its.toArray[i]? = some u := by simpa using hu
    refine ⟨zsL a its.toArray, ⟨zsL_ok _ _, rfl, rfl, p.isList, fun v hv => ?_⟩, u, hu'⟩
    have hv : its.toArray[i]? = some v := hv
    rw [hu'] at hv; cases hv
    exact ⟨x, fun ys hy => by rw [I.list_inj hy hq]; exact hx, ru⟩
  | tup a =>
    obtain ⟨xs, x, hq, hx⟩ := g
    obtain ⟨its, rv, p, _⟩ := I.tuple hq
    obtain ⟨u, hu, ru⟩ := rv.get hx
    have hu' : its.toArray[i]? = some u := by simpa using hu
    refine ⟨zsT a its.toArray, ⟨zsT_ok _ _, rfl, rfl, p, fun v hv => ?_⟩, u, hu'⟩
    have hv : its.toArray[i]? = some v := hv
    rw [hu'] at hv; cases hv
    exact ⟨x, fun ys hy => by rw [I.tuple_inj hy hq]; exact hx, ru⟩
  | str y t =>
    have g : i < y.cps.size := g
    have hc : y.cps[i]? = some y.cps[i] := by simp [g]
    refine ⟨zsS y t, ⟨zsS_ok _ _, rfl, rfl, trivial, fun v hv => ?_⟩, .str ⟨#[y.cps[i]]⟩ 0, ⟨_, _, hc, rfl⟩⟩
    obtain ⟨c, u, hc', rfl⟩ := hv
    exact ⟨.str ⟨#[c]⟩, ⟨c, hc', rfl⟩, ⟨u, rfl⟩⟩
theorem ZK.now_st (I : Inv X pins σ H s) {k : ZK} {i : Nat} (g : k.st X.K H i) : ∃ Z, ZNow X H s i k Z ∧ Z.fin i := by
  cases k with
  | lst a =>
    obtain ⟨xs, hq, hl⟩ := g
    obtain ⟨its, rv, p, _⟩ := I.list hq
    have hl2 := rv.length
    have hu' : its.toArray[i]? = none := by simp; omega
    refine ⟨zsL a its.toArray, ⟨zsL_ok _ _, rfl, rfl, p.isList, fun v hv => ?_⟩, hu'⟩
    have hv : its.toArray[i]? = some v := hv
    rw [hu'] at hv; cases hv
  | tup a =>
    obtain ⟨xs, hq, hl⟩ := g
    obtain ⟨its, rv, p, _⟩ := I.tuple hq
    have hl2 := rv.length
    have hu' : its.toArray[i]? = none := by simp; omega
    refine ⟨zsT a its.toArray, ⟨zsT_ok _ _, rfl, rfl, p, fun v hv => ?_⟩, hu'⟩
    have hv : its.toArray[i]? = some v := hv
    rw [hu'] at hv; cases hv
  | str y t =>
    have g : y.cps.size ≤ i := g
    refine ⟨zsS y t, ⟨zsS_ok _ _, rfl, rfl, trivial, fun v hv => ?_⟩, g⟩
    obtain ⟨c, u, hc', rfl⟩ := hv
    exact ⟨.str ⟨#[c]⟩, ⟨c, hc', rfl⟩, ⟨u, rfl⟩⟩
end
def ItzG (K : PySem.W.Frag) (a b : ZK) : It :=
  ⟨fun i H => a.go K H i ∧ b.go K H i, fun i H v H' => ∃ T x y, v = .ref T ∧ H T = none ∧ H' = upd H T (.tup [x, y]) ∧ a.yl K H i x ∧ b.yl K H i y,
    fun i H => (a.st K H i ∧ (b.go K H i ∨ b.st K H i)) ∨ (a.go K H i ∧ b.st K H i)⟩
theorem turn_zipG {P : Program} {w : World} {K : PySem.W.Frag} {elts : List Expr} {kk : Nat} {tpos : Pos} {a b : ZK} {z TI TO i1 i2 : Addr} (D : ZAp z TI TO i1 i2) (D1 : ZAw a.L z TO i1 i2) (D2 : ZAw b.L z TO i1 i2) :
    Turn P w K (.Tuple elts kk tpos) (ItzG K a b) [z, TI, TO, i1, i2] z (fun i h => IsZip h z TI TO .none ∧ IsPair h TI (.ref i1) (.ref i2) ∧ (∃ x y, IsPair h TO x y) ∧ a.S h i1 i ∧ b.S h i2 i) where
  mem := by simp
  obj := fun i h st c hc => by
    obtain ⟨hz, hTI, ⟨x, y, hTO⟩, h1, h2⟩ := st
    have o1 : ∃ o, h.get? i1 = some o ∧ ∃ vs, o.data = .fields vs := by
      cases a with
      | lst a => obtain ⟨o, e, _, d⟩ := h1; exact ⟨o, e, _, d⟩
      | tup a => obtain ⟨o, e, _, d⟩ := h1; exact ⟨o, e, _, d⟩
      | str x t => obtain ⟨o, e, _, d⟩ := h1; exact ⟨o, e, _, d⟩
    have o2 : ∃ o, h.get? i2 = some o ∧ ∃ vs, o.data = .fields vs := by
      cases b with
      | lst a => obtain ⟨o, e, _, d⟩ := h2; exact ⟨o, e, _, d⟩
      | tup a => obtain ⟨o, e, _, d⟩ := h2; exact ⟨o, e, _, d⟩
      | str x t => obtain ⟨o, e, _, d⟩ := h2; exact ⟨o, e, _, d⟩
    obtain ⟨o1, e1, _, d1⟩ := o1
    obtain ⟨o2, e2, _, d2⟩ := o2
    have e' : c = z ∨ c = TI ∨ c = TO ∨ c = i1 ∨ c = i2 := by simpa using hc
    rcases e' with q | q | q | q | q
    · rw [q]; exact ⟨_, hz, fun v q => nomatch q⟩
    · rw [q]; exact ⟨_, hTI, fun v q => nomatch q⟩
    · rw [q]; exact ⟨_, hTO, fun v q => nomatch q⟩
    · rw [q]; exact ⟨o1, e1, fun v q => by rw [d1] at q; cases q⟩
    · rw [q]; exact ⟨o2, e2, fun v q => by rw [d2] at q; cases q⟩
  keep := fun i h h' st k => by
    obtain ⟨hz, hTI, ⟨x, y, hTO⟩, h1, h2⟩ := st
    refine ⟨k z (by simp) _ hz, k TI (by simp) _ hTI, ⟨x, y, k TO (by simp) _ hTO⟩, ?_, ?_⟩
    · cases a with
      | lst a => exact (zsL_ok (P := P) (w := w) a #[]).keepS h1 fun o q => k i1 (by simp) o q
      | tup a => exact (zsT_ok (P := P) (w := w) a #[]).keepS h1 fun o q => k i1 (by simp) o q
      | str x t => exact (zsS_ok (P := P) (w := w) x t).keepS h1 fun o q => k i1 (by simp) o q
    · cases b with
      | lst a => exact (zsL_ok (P := P) (w := w) a #[]).keepS h2 fun o q => k i2 (by simp) o q
      | tup a => exact (zsT_ok (P := P) (w := w) a #[]).keepS h2 fun o q => k i2 (by simp) o q
      | str x t => exact (zsS_ok (P := P) (w := w) x t).keepS h2 fun o q => k i2 (by simp) o q
  item := by
    intro X hP hw hK hc i pins s σ H E I hf st hg
    subst hP hw hK
    obtain ⟨hz, hTI, ⟨x0, y0, hTO⟩, h1, h2⟩ := st
    obtain ⟨Z1, N1, g1⟩ := ZK.now_go I hg.1
    obtain ⟨Z2, N2, g2⟩ := ZK.now_go I hg.2
    have hzl : z < s.heap.objs.size := Heap.lt_size hz
    rw [← N1.S] at h1
    rw [← N2.S] at h2
    refine pyNext_zipG N1.ok N2.ok D (by rw [N1.L]; exact D1) (by rw [N2.L]; exact D2) hz hTI hTO h1 h2 N1.T N2.T g1 g2 fun h' tk u u2 hu hu2 z' TO' h1' h2' hT hsz hk => ?_
    obtain ⟨x, yx, ru⟩ := N1.yl u hu
    obtain ⟨y, yy, ru2⟩ := N2.yl u2 hu2
    refine ⟨_, rfl, wpAny_letOwnedTupleGo_zip (s := { s with heap := h', toks := tk }) z' fun h'' z'' sb => ?_⟩
    have hT2 : h''.get? s.heap.objs.size = some { cls := .type "tuple", data := .seq #[u, u2] } := (sb.2 _ (Nat.ne_of_gt hzl)).trans hT
    have new : ObjOk X.prog X.w (upd H s.heap.objs.size (.tup [x, y])) h'' s.heap.objs.size (.tup [x, y]) :=
      ⟨by show 2 ≤ sizeLine; decide, [u, u2], .cons ru (.cons ru2 .nil), ⟨_, hT2, rfl, _, rfl⟩⟩
    have I1 : Inv X pins σ (upd H s.heap.objs.size (.tup [x, y])) { s with heap := h'', toks := tk } :=
      I.turnedNew (t' := tk) (ch := [z, TI, TO, i1, i2]) (fun c o hb q => (sb.2 c (fun q' => hb (by simp [q']))).trans (hk c o (fun q' => hb (by simp [q'])) (fun q' => hb (by simp [q'])) (fun q' => hb (by simp [q'])) (fun q' => hb (by simp [q'])) q)) hf (Nat.le_refl _) new
    refine ⟨.ref s.heap.objs.size, _, I1, rfl, ⟨_, x, y, rfl, I.hok.fresh (Nat.le_refl _), rfl, yx, yy⟩, ⟨z'', ?_, ⟨u, u2, ?_⟩, ?_, ?_⟩, fun c hcm => ?_⟩
    · exact (sb.2 _ D.TIz).trans (hk _ _ D.TIz D.TITO D.TIi1 D.TIi2 hTI)
    · exact (sb.2 _ D.TOz).trans TO'
    · rw [← N1.S]; exact N1.ok.keepS h1' fun o q => (sb.2 _ D.i1z).trans q
    · rw [← N2.S]; exact N2.ok.keepS h2' fun o q => (sb.2 _ D.i2z).trans q
    · have hlt : c < s.heap.objs.size := by
        have e' : c = z ∨ c = TI ∨ c = TO ∨ c = i1 ∨ c = i2 := by simpa using hcm
        rcases e' with q | q | q | q | q
        · rw [q]; exact hzl
        · rw [q]; exact Heap.lt_size hTI
        · rw [q]; exact Heap.lt_size hTO
        · rw [q]; obtain ⟨_, e1, _⟩ := N1.ok.obj h1; exact Heap.lt_size e1
        · rw [q]; obtain ⟨_, e1, _⟩ := N2.ok.obj h2; exact Heap.lt_size e1
      rw [upd_ne (Nat.ne_of_lt hlt)]
      exact (hf c hcm).1
  done := by
    intro X hP hw hK hc i pins s σ H E I hf st hg
    subst hP hw hK
    obtain ⟨hz, hTI, ⟨x0, y0, hTO⟩, h1, h2⟩ := st
    have fin : ∀ h' tk, (∀ c o, c ≠ z → c ≠ TO → c ≠ i1 → c ≠ i2 → s.heap.get? c = some o → h'.get? c = some o) → (none : Option Value) = none ∧ Inv X pins σ H { s with heap := h', toks := tk } := fun h' tk hk =>
      ⟨rfl, I.turnedL (t' := tk) (ch := [z, TI, TO, i1, i2]) (fun c o hb q =>
        hk c o (fun q' => hb (by simp [q'])) (fun q' => hb (by simp [q'])) (fun q' => hb (by simp [q'])) (fun q' => hb (by simp [q'])) q) hf⟩
    rcases hg with ⟨ga, gb⟩ | ⟨ga, gb⟩
    · obtain ⟨Z1, N1, f1⟩ := ZK.now_st I ga
      have q2 : ∃ Z, ZNow X H s i b Z := by
        rcases gb with gb | gb
        · obtain ⟨Z, n, _⟩ := ZK.now_go I gb; exact ⟨Z, n⟩
        · obtain ⟨Z, n, _⟩ := ZK.now_st I gb; exact ⟨Z, n⟩
      obtain ⟨Z2, N2⟩ := q2
      rw [← N1.S] at h1
      rw [← N2.S] at h2
      exact pyNext_zipG_end (I.ok.hd hc) N1.ok N2.ok D (by rw [N1.L]; exact D1) (by rw [N2.L]; exact D2) hz hTI hTO h1 h2 N1.T N2.T (.inl f1) fin
    · obtain ⟨Z1, N1, f1⟩ := ZK.now_go I ga
      obtain ⟨Z2, N2, f2⟩ := ZK.now_st I gb
      rw [← N1.S] at h1
      rw [← N2.S] at h2
      exact pyNext_zipG_end (I.ok.hd hc) N1.ok N2.ok D (by rw [N1.L]; exact D1) (by rw [N2.L]; exact D2) hz hTI hTO h1 h2 N1.T N2.T (.inr ⟨f1, f2⟩) fin
  self := fun A i s Q E st h => wpAny_pyIter_zip st.1 h
/-! ### zip(x, y) -/
def ZK.val : ZK → Value → Prop
  | .lst a, v => v = .ref a
  | .tup a, v => v = .ref a
  | .str x t, v => v = .str x t
def ZK.iob : ZK → Obj
  | .lst a => { cls := .type "list_iterator", data := .fields #[.ref a, .int 0 0] }
  | .tup a => { cls := .type "tuple_iterator", data := .fields #[.ref a, .int 0 0] }
  | .str x t => { cls := .type (zty x), data := .fields #[.str x t, .int 0 0] }
/-- what it stands on -/
def ZK.on : ZK → Heap → Prop
  | .lst a, h => ∃ its, h.IsList a its
  | .tup a, h => ∃ its, h.IsTuple a its
  | .str _ _, _ => True
theorem ZK.on_push {k : ZK} {h : Heap} (o : Obj) (x : k.on h) : k.on (h.push o) := by
  cases k with
  | lst a => obtain ⟨its, q⟩ := x; exact ⟨its, q.push _⟩
  | tup a => obtain ⟨its, q⟩ := x; exact ⟨its, q.push _⟩
  | str y t => trivial
theorem ZK.iter {prog : Program} {w : World} {A : Around} {E : Value → Shared → Prop} {s : Shared} {k : ZK} {v : Value} {Q : Value → Shared → Prop} (hv : k.val v) (h : k.on s.heap) (q : Q (.ref s.heap.objs.size) { s with heap := s.heap.push k.iob }) :
    wpAny (model prog w) A (pyIter v) Q E s := by
  cases k with
  | lst a =>
    obtain ⟨its, hl⟩ := h
    obtain rfl : v = .ref a := hv
    exact wpAny_pyIter_list hl q
  | tup a =>
    obtain ⟨its, hl⟩ := h
    obtain rfl : v = .ref a := hv
    exact wpAny_pyIter_tuple hl q
  | str y t =>
    obtain rfl : v = .str y t := hv
    cases ha : y.cps.all (· < 128)
    · refine wpAny_pyIter_wide ha ?_
      have e : (ZK.str y t).iob = { cls := .type "str_iterator", data := .fields #[.str y t, .int 0 0] } := by
        show ({ cls := .type (zty y), data := _ } : Obj) = _
        unfold zty; rw [ha]; rfl
      rw [e] at q; exact q
    · refine wpAny_pyIter_ascii ha ?_
      have e : (ZK.str y t).iob = { cls := .type "str_ascii_iterator", data := .fields #[.str y t, .int 0 0] } := by
        show ({ cls := .type (zty y), data := _ } : Obj) = _
        unfold zty; rw [ha]; rfl
      rw [e] at q; exact q
theorem ZK.S0 {k : ZK} {h : Heap} {i : Addr} (e : h.get? i = some k.iob) : k.S h i 0 := by
  cases k with
  | lst a => exact ⟨_, e, rfl, rfl⟩
  | tup a => exact ⟨_, e, rfl, rfl⟩
  | str y t => exact ⟨_, e, rfl, rfl⟩
theorem ZK.iob_free (k : ZK) : k.iob.isFreed = false := by cases k <;> rfl
abbrev zgH1 (h : Heap) (a b : ZK) : Heap := h.push a.iob
abbrev zgH2 (h : Heap) (a b : ZK) : Heap := (zgH1 h a b).push b.iob
abbrev zgH3 (h : Heap) (a b : ZK) : Heap := (zgH2 h a b).push { cls := .type "tuple", data := .seq #[.ref h.objs.size, .ref (zgH1 h a b).objs.size] }
abbrev zgH4 (h : Heap) (a b : ZK) : Heap := (zgH3 h a b).push { cls := .type "tuple", data := .seq #[.none, .none] }
abbrev zgH5 (h : Heap) (a b : ZK) : Heap := (zgH4 h a b).push { cls := .type "zip", data := .fields #[.none, .bool false, .bool false, .ref (zgH2 h a b).objs.size, .ref (zgH3 h a b).objs.size] }
theorem meets_zipG_new (a b : ZK) (u v : Value) (hu : a.val u) (hv : b.val v) :
    Meets (Builtin.«zip.__new__» ⟨[.type "zip", u, v], []⟩) (fun _ R s => a.on s.heap ∧ b.on s.heap ∧
      R (.ok (.ret (.ref (zgH4 s.heap a b).objs.size))) { s with heap := zgH5 s.heap a b }) :=
  .of_wp fun prog w A R s h => by
    obtain ⟨hp, g, d, tk, os⟩ := s; obtain ⟨hl1, hl2, h⟩ := h
    have hsub := sub_zip
    have hL1 : a.on (Shared.heap ⟨hp, g, d, tk, os⟩) := hl1
    have hL2 : b.on (Shared.heap ⟨hp.push a.iob, g, d, tk, os⟩) := ZK.on_push _ hl2
    wp_walk using ZK.iter hu hL1, ZK.iter hv hL2
    exact ⟨_, rfl, h⟩
section
variable {prog : Program} {w : World} {A : Around} {E : Value → Shared → Prop} {s : Shared}
theorem call_zipG {a b : ZK} {u v : Value} {Q : Value → Shared → Prop} (hu : a.val u) (hv : b.val v) (hl1 : a.on s.heap) (hl2 : b.on s.heap)
    (h : ∀ h', IsZip h' (s.heap.objs.size + 4) (s.heap.objs.size + 2) (s.heap.objs.size + 3) .none → IsPair h' (s.heap.objs.size + 2) (.ref s.heap.objs.size) (.ref (s.heap.objs.size + 1)) →
      IsPair h' (s.heap.objs.size + 3) .none .none → a.S h' s.heap.objs.size 0 → b.S h' (s.heap.objs.size + 1) 0 → h'.objs.size = s.heap.objs.size + 5 →
      (∀ c o, s.heap.get? c = some o → h'.get? c = some o) → Q (.ref (s.heap.objs.size + 4)) { s with heap := h' }) :
    wpAny (model prog w) A (call (.type "zip") [u, v]) Q E s := by
  refine callType_new F.called_zip (by decide) (F.typeCall_zip_2 _ _) (F.newCall_zip_2 _ _) (fun obj => F.args_object_init_3 obj _ _) F.entry_zip_new
    (meets_zipG_new a b u v hu hv) ⟨hl1, hl2, ?_⟩
  have z1 : (zgH1 s.heap a b).objs.size = s.heap.objs.size + 1 := Heap.size_push ..
  have z2 : (zgH2 s.heap a b).objs.size = s.heap.objs.size + 2 := by rw [Heap.size_push, z1]
  have z3 : (zgH3 s.heap a b).objs.size = s.heap.objs.size + 3 := by rw [Heap.size_push, z2]
  have z4 : (zgH4 s.heap a b).objs.size = s.heap.objs.size + 4 := by rw [Heap.size_push, z3]
  have z5 : (zgH5 s.heap a b).objs.size = s.heap.objs.size + 5 := by rw [Heap.size_push, z4]
  have g5 : (zgH5 s.heap a b).get? (zgH4 s.heap a b).objs.size = some _ := Heap.get?_push_size _ rfl
  have g4 : (zgH5 s.heap a b).get? (zgH3 s.heap a b).objs.size = some _ := Heap.get?_push_of_some _ (Heap.get?_push_size _ rfl)
  have g3 : (zgH5 s.heap a b).get? (zgH2 s.heap a b).objs.size = some _ := Heap.get?_push_of_some _ (Heap.get?_push_of_some _ (Heap.get?_push_size _ rfl))
  have g2 : (zgH5 s.heap a b).get? (zgH1 s.heap a b).objs.size = some b.iob := Heap.get?_push_of_some _ (Heap.get?_push_of_some _ (Heap.get?_push_of_some _ (Heap.get?_push_size _ b.iob_free)))
  have g1 : (zgH5 s.heap a b).get? s.heap.objs.size = some a.iob := Heap.get?_push_of_some _ (Heap.get?_push_of_some _ (Heap.get?_push_of_some _ (Heap.get?_push_of_some _ (Heap.get?_push_size _ a.iob_free))))
  show _ ∧ _
  rw [z2, z3, z4] at g5
  rw [z1, z2] at g3
  rw [z3] at g4
  rw [z1] at g2
  rw [z4]
  exact ⟨⟨_, g5, rfl⟩, h _ g5 g3 g4 (ZK.S0 g1) (ZK.S0 g2) z5 fun c o x =>
    Heap.get?_push_of_some _ (Heap.get?_push_of_some _ (Heap.get?_push_of_some _ (Heap.get?_push_of_some _ (Heap.get?_push_of_some _ x))))⟩
end
theorem zap (n : Nat) : ZAp (n + 4) (n + 2) (n + 3) n (n + 1) :=
  ⟨(by show (n + 2 : Nat) ≠ (n + 4 : Nat); omega), (by show (n + 3 : Nat) ≠ (n + 4 : Nat); omega), (by show (n : Nat) ≠ (n + 4 : Nat); omega), (by show (n + 1 : Nat) ≠ (n + 4 : Nat); omega), (by show (n + 2 : Nat) ≠ (n + 3 : Nat); omega), (by show (n + 2 : Nat) ≠ (n : Nat); omega), (by show (n + 2 : Nat) ≠ (n + 1 : Nat); omega), (by show (n + 3 : Nat) ≠ (n : Nat); omega), (by show (n + 3 : Nat) ≠ (n + 1 : Nat); omega), (by show (n : Nat) ≠ (n + 1 : Nat); omega)⟩
theorem zaw {L : Option Addr} {n : Nat} (h : ∀ l : Nat, L = some l → l < n) : ZAw L (n + 4) (n + 3) n (n + 1) := fun l e => by
  have q : (l : Nat) < n := h l e
  exact ⟨Nat.ne_of_lt (Nat.lt_of_lt_of_le q (Nat.le_add_right _ _)), Nat.ne_of_lt (Nat.lt_of_lt_of_le q (Nat.le_add_right _ _)), Nat.ne_of_lt q, Nat.ne_of_lt (Nat.lt_of_lt_of_le q (Nat.le_add_right _ _))⟩
/-- a side as a value of ours -/
inductive ZV (K : PySem.W.Frag) (H : Hp) : V → (Tok → ZK) → Prop
  | lst {a : Addr} {xs : List V} : SqL K H a xs → ZV K H (.ref a) (fun _ => .lst a)
  | tup {a : Addr} {xs : List V} : SqT K H a xs → ZV K H (.ref a) (fun _ => .tup a)
  | str (x : Str) : ZV K H (.str x) (fun t => .str x t)
theorem ZV.at {X : Cx} {pins : List (Addr × Obj)} {σ : L2.St} {H : Hp} {s : Shared} {v : V} {f : Tok → ZK} {u : Value} (I : Inv X pins σ H s) (z : ZV X.K H v f) (r : L2.RelV v u) : ∃ t, (f t).val u ∧ (f t).on s.heap ∧ ∀ l, (f t).L = some l → l < s.heap.objs.size := by
  cases z with
  | lst hq =>
    cases r
    obtain ⟨its, rv, p, _⟩ := I.list hq
    exact ⟨0, rfl, ⟨_, p.isList⟩, fun l e => by cases e; exact p.lt⟩
  | tup hq =>
    cases r
    obtain ⟨its, rv, p, _⟩ := I.tuple hq
    obtain ⟨o1, ho1, _⟩ := id p
    exact ⟨0, rfl, ⟨_, p⟩, fun l e => by cases e; exact Heap.lt_size ho1⟩
  | str x =>
    obtain ⟨t, rfl⟩ := r
    exact ⟨t, rfl, trivial, fun l e => by cases e⟩
def iZipG (K : PySem.W.Frag) (ta : TA) : TI := fun σ H R => ta σ H fun vs H1 => ∃ a b fa fb, vs = [a, b] ∧ ZV K H1 a fa ∧ ZV K H1 b fb ∧ ∀ t u, R (ItzG K (fa t) (fb u)) H1
theorem pi_zipG {X : Cx} {e e2 : Expr} {ta : TA} {p pos tpos : Pos} {elts : List Expr} {kk : Nat} (hg : Gl X "zip") (hm : X.mg "zip" = none) (ha : PA X [e, e2] ta)
    (hs : starEach [e, e2] X.env = (false, eval e X.env) :: starEach [e2] X.env := by rfl) (hpl : (backTo pos (starEach [e2] X.env)).any (·.1) = false := by rfl) :
    PI X (.Tuple elts kk tpos) (.Call (.Name "zip" p) [e, e2] [] pos) (iZipG X.K ta) := by
  refine ⟨fun pins s σ H R I h => ?_⟩
  refine Call_ (ld_blt I hg hm PyProof.Rows.boot_zip (PyProof.Rows.callWith_type1 (thn (ha.run pos pins s σ H _ I h) fun us s1 ⟨vs, H1, I1, r1, q1⟩ => ?_) hs hpl))
  obtain ⟨a, b, fa, fb, ex, za, zb, q⟩ := q1
  subst ex
  cases r1 with
  | cons r rr =>
    cases rr with
    | cons r' rr =>
      cases rr
      obtain ⟨t, v1, on1, lt1⟩ := za.at I1 r
      obtain ⟨u, v2, on2, lt2⟩ := zb.at I1 r'
      have fresh5 : ∀ c, c ∈ [s1.heap.objs.size + 4, s1.heap.objs.size + 2, s1.heap.objs.size + 3, s1.heap.objs.size, s1.heap.objs.size + 1] → FpOk X pins H1 c := fun c hcm => by
        have e' : c = s1.heap.objs.size + 4 ∨ c = s1.heap.objs.size + 2 ∨ c = s1.heap.objs.size + 3 ∨ c = s1.heap.objs.size ∨ c = s1.heap.objs.size + 1 := by simpa using hcm
        have hle : s1.heap.objs.size ≤ c := by
          rcases e' with z | z | z | z | z
          · rw [z]; exact Nat.le_add_right _ _
          · rw [z]; exact Nat.le_add_right _ _
          · rw [z]; exact Nat.le_add_right _ _
          · rw [z]; exact Nat.le_refl _
          · rw [z]; exact Nat.le_add_right _ _
        exact I1.fpOk hle (I1.hok.fresh hle)
      refine call_zipG v1 v2 on1 on2 fun h' hz hTI hTO h1 h2 hsz hk => wpAny_pyIter_zip hz ?_
      have I2 : Inv X pins σ H1 { s1 with heap := h' } := I1.kept (t' := s1.toks) hk
      refine ⟨s1.heap.objs.size + 4, [s1.heap.objs.size + 4, s1.heap.objs.size + 2, s1.heap.objs.size + 3, s1.heap.objs.size, s1.heap.objs.size + 1], _, _, H1, rfl, I2,
        turn_zipG (zap s1.heap.objs.size) (zaw lt1) (zaw lt2), ⟨hz, hTI, ⟨_, _, hTO⟩, h1, h2⟩, fresh5, q t u⟩
end Fv
/-! Ev6: targets, statements, loops, comprehensions, displays of dicts. -/
namespace Fv
open PySem PySem.Spec PyProof.Rows L2

inductive Fl where
  | nx (η : Sl) | rt (v : SV) | bk (η : Sl) | ct (η : Sl)
abbrev FS := Sl → SH → Out Fl
def FQ (G : Gd) (D : Ends) : Fl → Rho → Hp → Prop
  | .nx η, ρ, H => ∀ σ, EnvR G ρ H η σ → D.nx σ H
  | .rt v, ρ, H => ∀ v', Rep G ρ H v v' → D.rt v' H
  | .bk η, ρ, H => ∀ σ, EnvR G ρ H η σ → D.bk σ H
  | .ct η, ρ, H => ∀ σ, EnvR G ρ H η σ → D.ct σ H
def tS (G : Gd) (W : XW) (f : FS) : TS := fun D σ H => ∃ ρ η h, EnvR G ρ H η σ ∧ Sim G ρ h H ∧ Good G W ρ H (f η h) (FQ G D)
/-! ### what a store leaves alone -/
def Same (is : List Nat) (σ σ' : L2.St) : Prop := σ'.length = σ.length ∧ ∀ j, j ∉ is → σ'[j]? = σ[j]?
theorem Same.refl (σ : L2.St) : Same [] σ σ := ⟨rfl, fun _ _ => rfl⟩
theorem Same.one (i : Nat) (v : Option V) (σ : L2.St) : Same [i] σ (σ.set i v) := ⟨by simp, fun j hj => by
  rw [List.getElem?_set_ne]
  intro e; exact hj (by simp [e])⟩
theorem Same.app {a b : List Nat} {σ σ1 σ2 : L2.St} (h : Same a σ σ1) (k : Same b σ1 σ2) : Same (a ++ b) σ σ2 :=
  ⟨k.1.trans h.1, fun j hj => by
    rw [k.2 j (fun z => hj (List.mem_append_right _ z)), h.2 j (fun z => hj (List.mem_append_left _ z))]⟩
abbrev GT := SV → Sl → SH → Out Sl
abbrev GTs := List SV → Sl → SH → Out Sl
def tG (G : Gd) (W : XW) (is : List Nat) (g : GT) : TG := fun v σ H Q => ∃ ρ η h x, Rep G ρ H x v ∧ EnvR G ρ H η σ ∧ Sim G ρ h H ∧ Good G W ρ H (g x η h) (fun η' ρ' H' => ∀ σ', EnvR G ρ' H' η' σ' → Same is σ σ' → Q σ' H')
def tGs (G : Gd) (W : XW) (is : List Nat) (g : GTs) : TGs := fun vs σ H Q => ∃ ρ η h xs, RepL G ρ H xs vs ∧ EnvR G ρ H η σ ∧ Sim G ρ h H ∧ Good G W ρ H (g xs η h) (fun η' ρ' H' => ∀ σ', EnvR G ρ' H' η' σ' → Same is σ σ' → Q σ' H')
theorem _root_.L2.PG.impX {X : Cx} {e : Expr} {t t' : TG} (p : PG X e t) (i : ∀ v σ H Q, t' v σ H Q → t v σ H Q) : PG X e t' := ⟨fun pins s σ H v u Q I r q => p.run pins s σ H v u Q I r (i v σ H Q q)⟩
theorem _root_.L2.PGs.impX {X : Cx} {e : List Expr} {t t' : TGs} (p : PGs X e t) (i : ∀ v σ H Q, t' v σ H Q → t v σ H Q) : PGs X e t' := ⟨fun pins s σ H v u Q I r q => p.run pins s σ H v u Q I r (i v σ H Q q)⟩
theorem _root_.L2.PG.orX {X : Cx} {e : Expr} {t t' : TG} (p : PG X e t) (p' : PG X e t') : PG X e (fun v σ H Q => t v σ H Q ∨ t' v σ H Q) := ⟨fun pins s σ H v u Q I r q => q.elim (p.run pins s σ H v u Q I r) (p'.run pins s σ H v u Q I r)⟩
theorem _root_.L2.PS.impX {X : Cx} {e : Stmt} {t t' : TS} (p : PS X e t) (i : ∀ D σ H, t' D σ H → t D σ H) : PS X e t' := ⟨fun pins s σ H D I q => p.run pins s σ H D I (i D σ H q)⟩
theorem _root_.L2.PSs.impX {X : Cx} {e : List Stmt} {t t' : TS} (p : PSs X e t) (i : ∀ D σ H, t' D σ H → t D σ H) : PSs X e t' := ⟨fun pins s σ H D I q => p.run pins s σ H D I (i D σ H q)⟩
theorem _root_.L2.PI.impX {X : Cx} {tg e : Expr} {t t' : TI} (p : PI X tg e t) (i : ∀ σ H R, t' σ H R → t σ H R) : PI X tg e t' := ⟨fun pins s σ H R I q => p.run pins s σ H R I (i σ H R q)⟩
section
variable {X : Cx} {G : Gd} {W : XW} {pos : Pos}
def gtName (i : Nat) : GT := fun v η h => .ok (η.set i (some v)) h
theorem t_name {i : Nat} {e : Expr} (p : PG X e (gName i)) : PG X e (tG G W [i] (gtName i)) := p.impX fun v σ H Q ⟨ρ, η, h, x, rx, r, s, g⟩ =>
  g.here s _ (r.set i rx) (Same.one i _ σ)
def gtNil : GTs := fun vs η h => match vs with
  | [] => .ok η h
  | _ => .bad
def gtCons (a : GT) (r : GTs) : GTs := fun vs η h => match vs with
  | v :: vs => (a v η h).bind fun η h => r vs η h
  | [] => .bad
theorem ts_nil : PGs X [] (tGs G W [] gtNil) := pgs_nil.impX fun v σ H Q ⟨ρ, η, h, xs, rx, r, s, g⟩ => by
  cases rx with
  | nil => exact ⟨rfl, g.here s _ r (Same.refl σ)⟩
  | cons _ _ => exact g.elim
theorem ts_cons {e : Expr} {es : List Expr} {a b : List Nat} {fa : GT} {fr : GTs} (ha : PG X e (tG G W a fa)) (hr : PGs X es (tGs G W b fr))
    (hs : (assignEach (e :: es) X.env).map (·.2) = assign e X.env :: (assignEach es X.env).map (·.2) := by rfl) : PGs X (e :: es) (tGs G W (a ++ b) (gtCons fa fr)) :=
  (pgs_cons ha hr hs).impX fun v σ H Q ⟨ρ, η, h, xs, rx, r, s, g⟩ => by
    cases rx with
    | nil => exact g.elim
    | @cons x v xs vs r1 rl =>
      refine ⟨v, vs, rfl, ρ, η, h, x, r1, r, s, g.bind fun η1 h1 ρ1 H1 e1 s1 f1 g1 σ1 r2 sm => ?_⟩
      exact ⟨ρ1, η1, h1, xs, rl.mono e1.sub f1, r2, s1, g1.imp fun η2 ρ2 H2 k σ2 r3 sm2 => k σ2 r3 (sm.app sm2)⟩
def gtTup (n : Nat) (a : GTs) : GT := fun v η h => match v with
  | .tup xs => if xs.length = n then a xs η h else .bad
  | .tp xs => if xs.length = n then a xs η h else .bad
  | .ls xs => if xs.length = n then a xs η h else .bad
  | .loc p => match h.get p with
    | some (.lst xs) => if xs.length = n then a xs η h else .bad
    | _ => .bad
  | _ => .bad
theorem t_tup {es : List Expr} {k : Nat} {is : List Nat} {fr : GTs} {n : Nat} (hK : X.K = G.K) (hc : X.calm = true) (h : PGs X es (tGs G W is fr))
    (hn : (assignEach es X.env).length = n := by rfl) (hst : (assignEach es X.env).findIdx? (·.1) = none := by rfl) : PG X (.Tuple es k pos) (tG G W is (gtTup n fr)) :=
  ((pg_tup hc h hn hst).orX (pg_unl hc h hn hst)).impX fun v σ H Q ⟨ρ, η, h, x, rx, r, s, g⟩ => by
    cases rx with
    | @tup xs a vs sq rl =>
      unfold gtTup at g
      simp only at g
      by_cases c : xs.length = n
      · rw [if_pos c] at g
        exact .inl ⟨a, vs, rfl, by rw [hK]; exact sq, rl.length.symm.trans c, ρ, η, h, xs, rl, r, s, g⟩
      · rw [if_neg c] at g; exact g.elim
    | @tp xs a vs sq rl =>
      unfold gtTup at g
      simp only at g
      by_cases c : xs.length = n
      · rw [if_pos c] at g
        exact .inl ⟨a, vs, rfl, sq.t, rl.length.symm.trans c, ρ, η, h, xs, rl, r, s, g⟩
      · rw [if_neg c] at g; exact g.elim
    | @ls xs a vs ha _ rl =>
      unfold gtTup at g
      simp only at g
      by_cases c : xs.length = n
      · rw [if_pos c] at g
        exact .inr ⟨a, vs, rfl, .inl (.inl ha), rl.length.symm.trans c, ρ, η, h, xs, rl, r, s, g⟩
      · rw [if_neg c] at g; exact g.elim
    | @loc p a hp =>
      unfold gtTup at g
      simp only at g
      cases q : h.get p with
      | none => rw [q] at g; exact g.elim
      | some o =>
        rw [q] at g
        cases o with
        | dic _ => exact g.elim
        | lst xs =>
          simp only at g
          obtain ⟨a', vs, h1, h2, rl⟩ := s.lst q
          rw [hp] at h1; cases h1
          by_cases c : xs.length = n
          · rw [if_pos c] at g
            exact .inr ⟨a, vs, rfl, .inl (.inl h2), rl.length.symm.trans c, ρ, η, h, xs, rl, r, s, g⟩
          · rw [if_neg c] at g; exact g.elim
    | _ => exact g.elim
/-! o[i] = v -/
abbrev G3 := SV → SV → SV → SH → Out Unit
def SetG (G : Gd) (W : XW) (t : TSet) (g : G3) : Prop := ∀ ρ h H o i v o' i' v' Q, Sim G ρ h H → Rep G ρ H o o' → Rep G ρ H i i' → Rep G ρ H v v' → Good G W ρ H (g o i v h) (fun _ _ H' => Q H') → t o' i' v' H Q
def gtSub (g : G3) (fo fi : F) : GT := fun v η h => (fo η h).bind fun o h => (fi η h).bind fun i h => (g o i v h).bind fun _ h => .ok η h
theorem Same.any (σ : L2.St) (is : List Nat) : Same is σ σ := ⟨rfl, fun _ _ => rfl⟩
theorem t_sub {o i : Expr} {fo fi : F} {t : TSet} {g : G3} (sg : SetG G W t g) (ho : PE X o (tE G W fo)) (hi : PE X i (tE G W fi)) (hs : PSet X t)
    (ha : ∀ v, assign (.Subscript o i pos) X.env v = (do
      let ov ← holding [v] (eval o X.env)
      let iv ← holding [v, ov] (eval i X.env)
      standAt pos
      holding [v, ov, iv] (setItem ov iv v)
      release [v, ov, iv] []) := by intro _; rfl) : PG X (.Subscript o i pos) (tG G W [] (gtSub g fo fi)) :=
  (pg_sub ho hi hs ha).impX fun v σ H Q ⟨ρ, η, h, x, rx, r, s, g⟩ => by
    refine ⟨ρ, η, h, r, s, g.bind fun o1 h1 ρ1 H1 e1 s1 f1 g1 o1' ro => ?_⟩
    refine ⟨ρ1, η, h1, r.mono e1 f1, s1, g1.bind fun i1 h2 ρ2 H2 e2 s2 f2 g2 i1' ri => ?_⟩
    refine sg ρ2 h2 H2 o1 i1 x _ _ _ _ s2 (ro.mono e2.sub f2) ri ((rx.mono e1.sub f1).mono e2.sub f2) (g2.bind fun _ h3 ρ3 H3 e3 s3 f3 g3 => ?_)
    exact g3.here s3 _ (((r.mono e1 f1).mono e2 f2).mono e3 f3) (Same.any _ _)
def gSetL : G3 := fun o i v h => match o, i with
  | .loc p, .int k => match h.get p with
    | some (.lst xs) => match ixN xs.length k with
      | some j => .ok () (h.set p (.lst (xs.set j v)))
      | none => .bad
    | _ => .bad
  | _, _ => .bad
theorem sg_list : SetG G W rSetL gSetL := by
  intro ρ h H o i v o' i' v' Q s ro ri rv g
  cases ro with
  | loc hp =>
    rename_i p a
    cases ri with
    | int k =>
      unfold gSetL at g
      simp only at g
      cases q : h.get p with
      | none => rw [q] at g; exact g.elim
      | some o =>
        rw [q] at g
        cases o with
        | dic _ => exact g.elim
        | lst xs =>
          simp only at g
          obtain ⟨a', vs, h1, h2, rl⟩ := s.lst q
          rw [hp] at h1; cases h1
          cases e : ixN xs.length k with
          | none => rw [e] at g; exact g.elim
          | some j =>
            rw [e] at g
            refine ⟨a, vs, k, j, rfl, rfl, h2, by rw [← rl.length]; exact e, ?_⟩
            exact g.write s hp trivial (repO_set hp (s.mut hp) (rl.set rv j))
    | _ => exact g.elim
  | _ => exact g.elim
/-! ### suites -/
def fNx : FS := fun η h => .ok (.nx η) h
def fSeq (a b : FS) : FS := fun η h => (a η h).bind fun fl h => match fl with
  | .nx η => b η h
  | .rt v => .ok (.rt v) h
  | .bk η => .ok (.bk η) h
  | .ct η => .ok (.ct η) h
theorem s_nil : PSs X [] (tS G W fNx) := pss_nil.impX fun D σ H ⟨ρ, η, h, r, s, g⟩ => g.here s _ r
theorem s_one {st : Stmt} {fa : FS} (h : PS X st (tS G W fa)) : PSs X [st] (tS G W fa) := pss_one h
theorem s_cons {st : Stmt} {rest : List Stmt} {fa fb : FS} (h1 : PS X st (tS G W fa)) (h2 : PSs X rest (tS G W fb)) : PSs X (st :: rest) (tS G W (fSeq fa fb)) :=
  (pss_cons h1 h2).impX fun D σ H ⟨ρ, η, h, r, s, g⟩ => by
    refine ⟨ρ, η, h, r, s, g.bind fun fl h1 ρ1 H1 e1 s1 f1 g1 => ?_⟩
    cases fl with
    | nx η1 => exact fun σ1 r1 => ⟨ρ1, η1, h1, r1, s1, g1⟩
    | rt v => exact Good.here (W := W) s1 g1
    | bk v => exact Good.here (W := W) s1 g1
    | ct v => exact Good.here (W := W) s1 g1
theorem s_pass : PS X (.Pass pos) (tS G W fNx) := ps_pass.impX fun D σ H ⟨ρ, η, h, r, s, g⟩ => g.here s _ r
def fBk : FS := fun η h => .ok (.bk η) h
def fCt : FS := fun η h => .ok (.ct η) h
theorem s_break : PS X (.Break pos) (tS G W fBk) := ps_break.impX fun D σ H ⟨ρ, η, h, r, s, g⟩ => g.here s _ r
theorem s_continue : PS X (.Continue pos) (tS G W fCt) := ps_continue.impX fun D σ H ⟨ρ, η, h, r, s, g⟩ => g.here s _ r
theorem s_doc {x j pos'} : PS X (.Expr (.Constant (.str x) j pos) pos') (tS G W fNx) := ps_doc.impX fun D σ H ⟨ρ, η, h, r, s, g⟩ => g.here s _ r
def fDrop (a : F) : FS := fun η h => (a η h).bind fun _ h => .ok (.nx η) h
theorem s_expr {e : Expr} {fa : F} (he : PE X e (tE G W fa)) (hs : swapsWith e none pos.line X.env = pure false := by rfl) : PS X (.Expr e pos) (tS G W (fDrop fa)) :=
  (ps_expr he hs).impX fun D σ H ⟨ρ, η, h, r, s, g⟩ => by
    refine ⟨ρ, η, h, r, s, g.bind fun x h1 ρ1 H1 e1 s1 f1 g1 x' rx => ?_⟩
    exact g1.here s1 _ (r.mono e1 f1)
def fRet (a : F) : FS := fun η h => (a η h).bind fun x h => .ok (.rt x) h
theorem s_ret {e : Expr} {fa : F} (he : PE X e (tE G W fa)) : PS X (.Return (some e) pos) (tS G W (fRet fa)) :=
  (ps_ret he).impX fun D σ H ⟨ρ, η, h, r, s, g⟩ => ⟨ρ, η, h, r, s, g.bind fun x h1 ρ1 H1 e1 s1 f1 g1 x' rx => g1.here s1 _ rx⟩
def fRetN : FS := fun _ h => .ok (.rt .non) h
theorem s_retN : PS X (.Return none pos) (tS G W fRetN) := ps_retN.impX fun D σ H ⟨ρ, η, h, r, s, g⟩ => g.here s _ .non
def fIfS (c : FT) (a b : FS) : FS := fun η h => (c η h).bind fun x h => if x = true then a η h else b η h
theorem s_if {c : Expr} {a b : List Stmt} {tc : FT} {fa fb : FS} (hc : PT X c (tT G W tc)) (ha : PSs X a (tS G W fa)) (hb : PSs X b (tS G W fb)) : PS X (.If c a b pos) (tS G W (fIfS tc fa fb)) :=
  (ps_if hc ha hb).impX fun D σ H ⟨ρ, η, h, r, s, g⟩ => by
    refine ⟨ρ, η, h, r, s, g.bind fun x h1 ρ1 H1 e1 s1 f1 g1 => ?_⟩
    cases x with
    | true => exact ⟨ρ1, η, h1, r.mono e1 f1, s1, g1⟩
    | false => exact ⟨ρ1, η, h1, r.mono e1 f1, s1, g1⟩
def fNever : FS := fun _ _ => .bad
theorem s_never {st : Stmt} : PS X st (tS G W fNever) := ps_never.impX fun D σ H ⟨ρ, η, h, r, s, g⟩ => g
theorem ss_never {st : List Stmt} : PSs X st (tS G W fNever) := pss_never.impX fun D σ H ⟨ρ, η, h, r, s, g⟩ => g
/-! ### assignments -/
def fSet (i : Nat) (a : F) : FS := fun η h => (a η h).bind fun x h => .ok (.nx (η.set i (some x))) h
theorem s_setG {i : Nat} {st : Stmt} {fa : F} (p : PS X st (tAsg (tE G W fa) (gName i))) : PS X st (tS G W (fSet i fa)) := p.impX fun D σ H ⟨ρ, η, h, r, s, g⟩ =>
  ⟨ρ, η, h, r, s, g.bind fun x h1 ρ1 H1 e1 s1 f1 g1 x' rx => g1.here s1 _ ((r.mono e1 f1).set i rx)⟩
def fAsg (a : F) (t : GT) : FS := fun η h => (a η h).bind fun x h => (t x η h).bind fun η h => .ok (.nx η) h
theorem s_asg {tg e : Expr} {fa : F} {is : List Nat} {t : GT} (he : PE X e (tE G W fa)) (hg : PG X tg (tG G W is t)) (hs : swapsWithSole [tg] e pos.line X.env = pure false := by rfl) (hw : swappedStores [tg] e X.env = pure none := by rfl)
    (h1 : (assignEach [tg] X.env).map (·.2) = [assign tg X.env] := by rfl) : PS X (.Assign [tg] e pos) (tS G W (fAsg fa t)) :=
  (ps_asg he hg hs hw h1).impX fun D σ H ⟨ρ, η, h, r, s, g⟩ => by
    refine ⟨ρ, η, h, r, s, g.bind fun x h1 ρ1 H1 e1 s1 f1 g1 x' rx => ?_⟩
    refine ⟨ρ1, η, h1, x, rx, r.mono e1 f1, s1, g1.bind fun η2 h2 ρ2 H2 e2 s2 f2 g2 σ2 r2 _ => ?_⟩
    exact g2.here s2 _ r2
def fPar (i j : Nat) (a : FA) : FS := fun η h => (a η h).bind fun xs h => match xs with
  | [x, y] => .ok (.nx ((η.set i (some x)).set j (some y))) h
  | _ => .bad
def fPar3 (i j l : Nat) (a : FA) : FS := fun η h => (a η h).bind fun xs h => match xs with
  | [x, y, z] => .ok (.nx (((η.set i (some x)).set j (some y)).set l (some z))) h
  | _ => .bad
theorem s_parG {i j : Nat} {st : Stmt} {fa : FA} (p : PS X st (tPar i j (tA G W fa))) : PS X st (tS G W (fPar i j fa)) := p.impX fun D σ H ⟨ρ, η, h, r, s, g⟩ => by
  refine ⟨ρ, η, h, r, s, g.bind fun xs h1 ρ1 H1 e1 s1 f1 g1 xs' rx => ?_⟩
  rcases xs with _ | ⟨x, _ | ⟨y, _ | ⟨_, _⟩⟩⟩
  · exact g1.elim
  · exact g1.elim
  · cases rx with
    | cons r1 rl => cases rl with
      | cons r2 rl2 => cases rl2; exact ⟨_, _, rfl, g1.here s1 _ (((r.mono e1 f1).set i r1).set j r2)⟩
  · exact g1.elim
theorem s_par3G {i j l : Nat} {st : Stmt} {fa : FA} (p : PS X st (tPar3 i j l (tA G W fa))) : PS X st (tS G W (fPar3 i j l fa)) := p.impX fun D σ H ⟨ρ, η, h, r, s, g⟩ => by
  refine ⟨ρ, η, h, r, s, g.bind fun xs h1 ρ1 H1 e1 s1 f1 g1 xs' rx => ?_⟩
  rcases xs with _ | ⟨x, _ | ⟨y, _ | ⟨z, _ | ⟨_, _⟩⟩⟩⟩
  · exact g1.elim
  · exact g1.elim
  · exact g1.elim
  · cases rx with
    | cons r1 rl => cases rl with
      | cons r2 rl2 => cases rl2 with
        | cons r3 rl3 => cases rl3; exact ⟨_, _, _, rfl, g1.here s1 _ ((((r.mono e1 f1).set i r1).set j r2).set l r3)⟩
  · exact g1.elim
/-- name op= e -/
def fAug (i : Nat) (g : G2) (a : F) : FS := fun η h => match slot η i with
  | some x => (a η h).bind fun y h => (g x y h).bind fun z h => .ok (.nx (η.set i (some z))) h
  | none => .bad
theorem s_aug {i : Nat} {x : Str} {e : Expr} {fa : F} {op : Operator} {r : R2} {g : G2} {pos' : Pos} (hN : X.N.Nodup) (hi : X.N[i]? = some x) (hx : Loc X.env.scope x) (ho : OpR X (inplaceOp op) r) (og : OpG G W r g) (he : PE X e (tE G W fa)) (hf : X.fn x = true ∨ X.env.scope.names.lookup x = some .local := by first | exact .inl rfl | exact .inr rfl | assumption) :
    PS X (.AugAssign (.Name x pos') op e pos) (tS G W (fAug i g fa)) :=
  (ps_aug hN hi hx he (ti := r) ho hf).impX fun D σ H ⟨ρ, η, h, rr, s, g⟩ => by
    unfold fAug at g
    cases q : slot η i with
    | none => rw [q] at g; exact g.elim
    | some x =>
      rw [q] at g
      obtain ⟨x', q1, rx⟩ := rr.at_ i x (slot_eq η i q)
      refine ⟨x', q1, ρ, η, h, rr, s, g.bind fun y h1 ρ1 H1 e1 s1 f1 g1 y' ry => ?_⟩
      refine og ρ1 h1 H1 x y x' y' _ s1 (rx.mono e1.sub f1) ry (g1.bind fun z h2 ρ2 H2 e2 s2 f2 g2 z' rz => ?_)
      exact g2.here s2 _ (((rr.mono e1 f1).mono e2 f2).set i rz)
/-- o[i] op= e, o a list -/
def fAugS (gi : G2) (g : G2) (gs : G3) (fo fi fe : F) : FS := fun η h => (fo η h).bind fun o h => (fi η h).bind fun i h => (gi o i h).bind fun x h => (fe η h).bind fun y h => (g x y h).bind fun z h => (gs o i z h).bind fun _ h => .ok (.nx η) h
theorem s_augS {o i e : Expr} {fo fi fe : F} {rg : V → V → Hp → VK → Prop} {gi : G2} {r : R2} {g : G2} {rs : TSet} {gs : G3} {op : Operator} {tpos : Pos} (hg : PGet X rg) (ig : OpG G W rg gi) (hp : OpR X (inplaceOp op) r) (og : OpG G W r g) (hs : PSet X rs) (sg : SetG G W rs gs)
    (ho : PE X o (tE G W fo)) (hi : PE X i (tE G W fi)) (he : PE X e (tE G W fe))
    (ha : ∀ ov iv new, augStore i ov iv new = (do holding [new, ov, iv] (setItem ov iv new); release [new, ov, iv] []; pure .next) := by intros; rfl) : PS X (.AugAssign (.Subscript o i tpos) op e pos) (tS G W (fAugS gi g gs fo fi fe)) :=
  (ps_augS ho hi hg he (tip := r) hp hs ha).impX fun D σ H ⟨ρ, η, h, rr, s, g⟩ => by
    refine ⟨ρ, η, h, rr, s, g.bind fun o1 h1 ρ1 H1 e1 s1 f1 g1 o1' ro => ?_⟩
    refine ⟨ρ1, η, h1, rr.mono e1 f1, s1, g1.bind fun i1 h2 ρ2 H2 e2 s2 f2 g2 i1' ri => ?_⟩
    refine ig ρ2 h2 H2 o1 i1 _ _ _ s2 (ro.mono e2.sub f2) ri (g2.bind fun x h3 ρ3 H3 e3 s3 f3 g3 x' rx => ?_)
    refine ⟨ρ3, η, h3, ((rr.mono e1 f1).mono e2 f2).mono e3 f3, s3, g3.bind fun y h4 ρ4 H4 e4 s4 f4 g4 y' ry => ?_⟩
    refine og ρ4 h4 H4 x y x' y' _ s4 (rx.mono e4.sub f4) ry (g4.bind fun z h5 ρ5 H5 e5 s5 f5 g5 z' rz => ?_)
    refine sg ρ5 h5 H5 o1 i1 z _ _ _ _ s5 ((((ro.mono e2.sub f2).mono e3.sub f3).mono e4.sub f4).mono e5.sub f5) (((ri.mono e3.sub f3).mono e4.sub f4).mono e5.sub f5) rz (g5.bind fun _ h6 ρ6 H6 e6 s6 f6 g6 => ?_)
    exact g6.here s6 _ ((((((rr.mono e1 f1).mono e2 f2).mono e3 f3).mono e4 f4).mono e5 f5).mono e6 f6)
/-! ### what a loop walks -/
/-- a side of a zip -/
inductive SZ where
  | lst (p : Nat) | tup (xs : List SV) | fl (xs : List SV) | str (l : List Nat)
inductive ZR (G : Gd) (ρ : Rho) (H : Hp) : SZ → ZK → Prop
  | lst {p : Nat} {a : Addr} : ρ p = some a → ZR G ρ H (.lst p) (.lst a)
  | tup {xs : List SV} {a : Addr} {vs : List V} : SqT G.K H a vs → RepL G ρ H xs vs → ZR G ρ H (.tup xs) (.tup a)
  | fl {xs : List SV} {a : Addr} {vs : List V} : SqI ρ G.K H a vs → RepL G ρ H xs vs → ZR G ρ H (.fl xs) (.lst a)
  | str (l : List Nat) (t : Tok) : ZR G ρ H (.str l) (.str ⟨⟨l⟩⟩ t)
theorem ZR.mono {ρ ρ1 : Rho} {H H1 : Hp} {z : SZ} {k : ZK} (e : Ext ρ ρ1 H) (f : Frm ρ H H1) (r : ZR G ρ H z k) : ZR G ρ1 H1 z k := by
  cases r with
  | lst hp => exact .lst (e.sub _ _ hp)
  | tup sq rl => exact .tup (sqt_mono f sq) (rl.mono e.sub f)
  | fl sq rl => exact .fl (sqi_mono e.sub f sq) (rl.mono e.sub f)
  | str l t => exact .str l t
def SZ.at (z : SZ) (i : Nat) (h : SH) : Option (Option SV) := match z with
  | .lst p => match h.get p with
    | some (.lst xs) => some xs[i]?
    | _ => none
  | .tup xs => some xs[i]?
  | .fl xs => some xs[i]?
  | .str l => some (l[i]?.map fun c => .str [c])
def SZ.size (z : SZ) (h : SH) : Nat := match z with
  | .lst p => match h.get p with
    | some (.lst xs) => xs.length
    | _ => 0
  | .tup xs => xs.length
  | .fl xs => xs.length
  | .str l => l.length
theorem SZ.stop {ρ : Rho} {h : SH} {H : Hp} {z : SZ} {k : ZK} {i : Nat} (s : Sim G ρ h H) (r : ZR G ρ H z k) (e : z.at i h = some none) : k.st G.K H i := by
  cases r with
  | lst hp =>
    rename_i p a
    unfold SZ.at at e
    cases q : h.get p with
    | none => simp [q] at e
    | some o =>
      cases o with
      | dic _ => simp [q] at e
      | lst xs =>
        obtain ⟨a', vs, h1, h2, rl⟩ := s.lst q
        rw [hp] at h1; cases h1
        simp [q] at e
        exact ⟨vs, .inl (.inl h2), by rw [← rl.length]; exact e⟩
  | tup sq rl =>
    unfold SZ.at at e
    simp at e
    exact ⟨_, sq, by rw [← rl.length]; exact e⟩
  | fl sq rl =>
    unfold SZ.at at e
    simp at e
    exact ⟨_, sq.l, by rw [← rl.length]; exact e⟩
  | str l t =>
    unfold SZ.at at e
    simp at e
    show l.toArray.size ≤ i
    simpa using e
theorem SZ.go {ρ : Rho} {h : SH} {H : Hp} {z : SZ} {k : ZK} {i : Nat} {x : SV} (s : Sim G ρ h H) (r : ZR G ρ H z k) (e : z.at i h = some (some x)) : k.go G.K H i ∧ ∀ v, k.yl G.K H i v → Rep G ρ H x v := by
  cases r with
  | lst hp =>
    rename_i p a
    unfold SZ.at at e
    cases q : h.get p with
    | none => simp [q] at e
    | some o =>
      cases o with
      | dic _ => simp [q] at e
      | lst xs =>
        obtain ⟨a', vs, h1, h2, rl⟩ := s.lst q
        rw [hp] at h1; cases h1
        simp [q] at e
        obtain ⟨v, hv, rv⟩ := rl.get e
        refine ⟨⟨vs, v, .inl (.inl h2), hv⟩, fun w hw => ?_⟩
        have := hw vs (.inl (.inl h2))
        rw [hv] at this; cases this
        exact rv
  | tup sq rl =>
    unfold SZ.at at e
    simp at e
    obtain ⟨v, hv, rv⟩ := rl.get e
    refine ⟨⟨_, v, sq, hv⟩, fun w hw => ?_⟩
    have := hw _ sq
    rw [hv] at this; cases this
    exact rv
  | fl sq rl =>
    unfold SZ.at at e
    simp at e
    obtain ⟨v, hv, rv⟩ := rl.get e
    refine ⟨⟨_, v, sq.l, hv⟩, fun w hw => ?_⟩
    have := hw _ sq.l
    rw [hv] at this; cases this
    exact rv
  | str l t =>
    unfold SZ.at at e
    simp at e
    obtain ⟨c, hc, ec⟩ := e
    subst ec
    have hi : i < l.length := (List.getElem?_eq_some_iff.mp hc).1
    refine ⟨(by show i < l.toArray.size; simpa using hi), fun v hv => ?_⟩
    obtain ⟨c2, hc2, rfl⟩ := hv
    have hc2 : l.toArray[i]? = some c2 := hc2
    rw [List.getElem?_toArray, hc] at hc2
    cases hc2
    exact .str [c]
inductive SIt where
  | lst (p : Nat) | tup (xs : List SV) | rng (lo : Int) (n : Nat) | enm (p : Nat) | str (l : List Nat) | fl (xs : List SV) | zip (a b : SZ) | enF (xs : List SV)
abbrev FI := Sl → SH → Out SIt
inductive ItR (G : Gd) (ρ : Rho) (H : Hp) : SIt → It → Prop
  | lst {p : Nat} {a : Addr} : ρ p = some a → ItR G ρ H (.lst p) (Itl G.K a)
  | tup {xs : List SV} {a : Addr} {vs : List V} : SqT G.K H a vs → RepL G ρ H xs vs → ItR G ρ H (.tup xs) (Itt G.K a)
  | fl {xs : List SV} {a : Addr} {vs : List V} : SqI ρ G.K H a vs → RepL G ρ H xs vs → ItR G ρ H (.fl xs) (Itl G.K a)
  | rng (lo : Int) (n : Nat) : ItR G ρ H (.rng lo n) (Itr lo n)
  | str (l : List Nat) : ItR G ρ H (.str l) (Its ⟨⟨l⟩⟩)
  | enm {p : Nat} {a : Addr} : ρ p = some a → ItR G ρ H (.enm p) (Ite G.K a)
  | enF {xs : List SV} {a : Addr} {vs : List V} : SqI ρ G.K H a vs → RepL G ρ H xs vs → ItR G ρ H (.enF xs) (Ite G.K a)
  | zip {a b : SZ} {k l : ZK} : ZR G ρ H a k → ZR G ρ H b l → ItR G ρ H (.zip a b) (ItzG G.K k l)
theorem ItR.mono {ρ ρ1 : Rho} {H H1 : Hp} {it : SIt} {J : It} (e : Ext ρ ρ1 H) (f : Frm ρ H H1) (r : ItR G ρ H it J) : ItR G ρ1 H1 it J := by
  cases r with
  | lst hp => exact .lst (e.sub _ _ hp)
  | tup sq rl => exact .tup (sqt_mono f sq) (rl.mono e.sub f)
  | fl sq rl => exact .fl (sqi_mono e.sub f sq) (rl.mono e.sub f)
  | rng lo n => exact .rng lo n
  | str l => exact .str l
  | enm hp => exact .enm (e.sub _ _ hp)
  | enF sq rl => exact .enF (sqi_mono e.sub f sq) (rl.mono e.sub f)
  | zip r1 r2 => exact .zip (r1.mono e f) (r2.mono e f)
def tI (G : Gd) (W : XW) (f : FI) : TI := fun σ H R => ∃ ρ η h, EnvR G ρ H η σ ∧ Sim G ρ h H ∧ Good G W ρ H (f η h) (fun it ρ' H' => ∀ J, ItR G ρ' H' it J → R J H')
def SIt.at (it : SIt) (i : Nat) (h : SH) : Option (Option SV) := match it with
  | .lst p => match h.get p with
    | some (.lst xs) => some xs[i]?
    | _ => none
  | .tup xs => some xs[i]?
  | .fl xs => some xs[i]?
  | .rng lo n => if i < n then some (some (.int (lo + i))) else some none
  | .enm p => match h.get p with
    | some (.lst xs) => some (xs[i]?.map fun x => .tup [.int (i : Nat), x])
    | _ => none
  | .enF xs => some (xs[i]?.map fun x => .tup [.int (i : Nat), x])
  | .str l => some (l[i]?.map fun c => .str [c])
  | .zip a b => match a.at i h, b.at i h with
    | some (some x), some (some y) => some (some (.tup [x, y]))
    | some (some _), some none => some none
    | some none, some _ => some none
    | _, _ => none
def SIt.size (it : SIt) (h : SH) : Nat := match it with
  | .lst p => match h.get p with
    | some (.lst xs) => xs.length
    | _ => 0
  | .tup xs => xs.length
  | .fl xs => xs.length
  | .rng lo n => n
  | .enm p => match h.get p with
    | some (.lst xs) => xs.length
    | _ => 0
  | .enF xs => xs.length
  | .str l => l.length
  | .zip a b => a.size h
theorem SIt.stop {ρ : Rho} {h : SH} {H : Hp} {it : SIt} {J : It} {i : Nat} (s : Sim G ρ h H) (r : ItR G ρ H it J) (e : it.at i h = some none) : J.stop i H := by
  cases r with
  | lst hp =>
    rename_i p a
    unfold SIt.at at e
    cases q : h.get p with
    | none => simp [q] at e
    | some o =>
      cases o with
      | dic _ => simp [q] at e
      | lst xs =>
        obtain ⟨a', vs, h1, h2, rl⟩ := s.lst q
        rw [hp] at h1; cases h1
        simp [q] at e
        exact ⟨vs, .inl (.inl h2), by rw [← rl.length]; exact e⟩
  | tup sq rl =>
    unfold SIt.at at e
    simp at e
    exact ⟨_, sq, by rw [← rl.length]; exact e⟩
  | fl sq rl =>
    unfold SIt.at at e
    simp at e
    exact ⟨_, sq.l, by rw [← rl.length]; exact e⟩
  | rng lo n =>
    unfold SIt.at at e
    simp only at e
    by_cases c : i < n
    · rw [if_pos c] at e; cases e
    · exact Nat.le_of_not_lt c
  | str l =>
    unfold SIt.at at e
    simp at e
    show l.toArray.size ≤ i
    simpa using e
  | enm hp =>
    rename_i p a
    unfold SIt.at at e
    cases q : h.get p with
    | none => simp [q] at e
    | some o =>
      cases o with
      | dic _ => simp [q] at e
      | lst xs =>
        obtain ⟨a', vs, h1, h2, rl⟩ := s.lst q
        rw [hp] at h1; cases h1
        simp [q] at e
        exact ⟨vs, .inl (.inl h2), by rw [← rl.length]; exact e⟩
  | enF sq rl =>
    unfold SIt.at at e
    simp at e
    exact ⟨_, sq.l, by rw [← rl.length]; exact e⟩
  | zip r1 r2 =>
    rename_i a b k l
    unfold SIt.at at e
    simp only at e
    cases q1 : a.at i h with
    | none => simp [q1] at e
    | some x =>
      cases q2 : b.at i h with
      | none => cases x <;> simp [q1, q2] at e
      | some y =>
        cases x with
        | none =>
          refine .inl ⟨SZ.stop s r1 q1, ?_⟩
          cases y with
          | none => exact .inr (SZ.stop s r2 q2)
          | some y => exact .inl (SZ.go s r2 q2).1
        | some x =>
          cases y with
          | none => exact .inr ⟨(SZ.go s r1 q1).1, SZ.stop s r2 q2⟩
          | some y => simp [q1, q2] at e
theorem SIt.go {ρ : Rho} {h : SH} {H : Hp} {it : SIt} {J : It} {i : Nat} {x : SV} (s : Sim G ρ h H) (r : ItR G ρ H it J) (e : it.at i h = some (some x)) :
    J.go i H ∧ ∀ v H', J.yld i H v H' → Sim G ρ h H' ∧ Frm ρ H H' ∧ Rep G ρ H' x v := by
  cases r with
  | lst hp =>
    rename_i p a
    unfold SIt.at at e
    cases q : h.get p with
    | none => simp [q] at e
    | some o =>
      cases o with
      | dic _ => simp [q] at e
      | lst xs =>
        obtain ⟨a', vs, h1, h2, rl⟩ := s.lst q
        rw [hp] at h1; cases h1
        simp [q] at e
        obtain ⟨v, hv, rv⟩ := rl.get e
        refine ⟨⟨vs, v, .inl (.inl h2), hv⟩, fun w H' hw => ?_⟩
        obtain ⟨rfl, hw⟩ := hw
        have := hw vs (.inl (.inl h2))
        rw [hv] at this; cases this
        exact ⟨s, Frm.refl _ _, rv⟩
  | tup sq rl =>
    unfold SIt.at at e
    simp at e
    obtain ⟨v, hv, rv⟩ := rl.get e
    refine ⟨⟨_, v, sq, hv⟩, fun w H' hw => ?_⟩
    obtain ⟨rfl, hw⟩ := hw
    have := hw _ sq
    rw [hv] at this; cases this
    exact ⟨s, Frm.refl _ _, rv⟩
  | fl sq rl =>
    unfold SIt.at at e
    simp at e
    obtain ⟨v, hv, rv⟩ := rl.get e
    refine ⟨⟨_, v, sq.l, hv⟩, fun w H' hw => ?_⟩
    obtain ⟨rfl, hw⟩ := hw
    have := hw _ sq.l
    rw [hv] at this; cases this
    exact ⟨s, Frm.refl _ _, rv⟩
  | rng lo n =>
    unfold SIt.at at e
    simp only at e
    by_cases c : i < n
    · rw [if_pos c] at e; cases e
      refine ⟨c, fun v H' hv => ?_⟩
      obtain ⟨rfl, rfl⟩ := hv
      exact ⟨s, Frm.refl _ _, .int _⟩
    · rw [if_neg c] at e; cases e
  | str l =>
    unfold SIt.at at e
    simp at e
    obtain ⟨c, hc, ec⟩ := e
    subst ec
    have hi : i < l.length := (List.getElem?_eq_some_iff.mp hc).1
    refine ⟨(by show i < l.toArray.size; simpa using hi), fun v H' hv => ?_⟩
    obtain ⟨rfl, c2, hc2, rfl⟩ := hv
    have hc2 : l.toArray[i]? = some c2 := hc2
    rw [List.getElem?_toArray, hc] at hc2
    cases hc2
    exact ⟨s, Frm.refl _ _, .str [c]⟩
  | enm hp =>
    rename_i p a
    unfold SIt.at at e
    cases q : h.get p with
    | none => simp [q] at e
    | some o =>
      cases o with
      | dic _ => simp [q] at e
      | lst xs =>
        obtain ⟨a', vs, h1, h2, rl⟩ := s.lst q
        rw [hp] at h1; cases h1
        simp [q] at e
        obtain ⟨y, e1, e2⟩ := e
        subst e2
        obtain ⟨v, hv, rv⟩ := rl.get e1
        refine ⟨⟨vs, v, .inl (.inl h2), hv⟩, fun w H' hw => ?_⟩
        obtain ⟨T, z, rfl, hT, rfl, hw⟩ := hw
        have := hw vs (.inl (.inl h2))
        rw [hv] at this; cases this
        exact ⟨s.newT hT, frm_new hT, .tup (.inl (.inl upd_same)) (.cons (.int _) (.cons (rv.mono Sub.refl (frm_new hT)) .nil))⟩
  | enF sq rl =>
    unfold SIt.at at e
    simp at e
    obtain ⟨y, e1, e2⟩ := e
    subst e2
    obtain ⟨v, hv, rv⟩ := rl.get e1
    refine ⟨⟨_, v, sq.l, hv⟩, fun w H' hw => ?_⟩
    obtain ⟨T, z, rfl, hT, rfl, hw⟩ := hw
    have := hw _ sq.l
    rw [hv] at this; cases this
    exact ⟨s.newT hT, frm_new hT, .tup (.inl (.inl upd_same)) (.cons (.int _) (.cons (rv.mono Sub.refl (frm_new hT)) .nil))⟩
  | zip r1 r2 =>
    rename_i a b k l
    unfold SIt.at at e
    simp only at e
    cases q1 : a.at i h with
    | none => simp [q1] at e
    | some x1 =>
      cases q2 : b.at i h with
      | none => cases x1 <;> simp [q1, q2] at e
      | some y1 =>
        cases x1 with
        | none => simp [q1, q2] at e
        | some x1 =>
          cases y1 with
          | none => simp [q1, q2] at e
          | some y1 =>
            simp [q1, q2] at e
            subst e
            obtain ⟨g1, w1⟩ := SZ.go s r1 q1
            obtain ⟨g2, w2⟩ := SZ.go s r2 q2
            refine ⟨⟨g1, g2⟩, fun v H' hw => ?_⟩
            obtain ⟨T, x', y', rfl, hT, rfl, hx, hy⟩ := hw
            have f := frm_new (ρ := ρ) (o := .tup [x', y']) hT
            exact ⟨s.newT hT, f, .tup (.inl (.inl upd_same)) (.cons ((w1 x' hx).mono Sub.refl f) (.cons ((w2 y' hy).mono Sub.refl f) .nil))⟩
/-! iterables -/
def fiAny (a : F) : FI := fun η h => (a η h).bind fun x h => match x with
  | .loc p => match h.get p with
    | some (.lst _) => .ok (.lst p) h
    | _ => .bad
  | .tup xs => .ok (.tup xs) h
  | .fl xs => .ok (.fl xs) h
  | .ls xs => .ok (.fl xs) h
  | .tp xs => .ok (.tup xs) h
  | .str l => .ok (.str l) h
  | _ => .bad
end
end Fv
/-! Ev7: for, list comprehensions, displays of dicts, isinstance with several classes. -/
namespace Fv
open PySem PySem.Spec PyProof.Rows L2
theorem _root_.L2.PI.orX {X : Cx} {tg e : Expr} {t t' : TI} (p : PI X tg e t) (p' : PI X tg e t') : PI X tg e (fun σ H R => t σ H R ∨ t' σ H R) := ⟨fun pins s σ H R I q => q.elim (p.run pins s σ H R I) (p'.run pins s σ H R I)⟩
section
variable {X : Cx} {G : Gd} {W : XW} {pos : Pos} {tg : Expr}
theorem i_any {e : Expr} {fa : F} (hK : X.K = G.K) (he : PE X e (tE G W fa)) : PI X tg e (tI G W (fiAny fa)) :=
  (((pi_list he).orX (pi_tup he)).orX (pi_str he)).impX fun σ H R ⟨ρ, η, h, r, s, g⟩ => by
    unfold fiAny at g
    cases q : fa η h with
    | bad => rw [q] at g; exact g.elim
    | exc x h1 => rw [q] at g; exact .inl (.inl ⟨ρ, η, h, r, s, by rw [q]; exact g⟩)
    | ok x h1 =>
      rw [q] at g
      have g : Good G W ρ H (match x with
        | .loc p => match h1.get p with
          | some (.lst _) => .ok (.lst p) h1
          | _ => .bad
        | .tup xs => .ok (.tup xs) h1
        | .fl xs => .ok (.fl xs) h1
        | .ls xs => .ok (.fl xs) h1
        | .tp xs => .ok (.tup xs) h1
        | .str l => .ok (.str l) h1
        | _ => .bad) (fun it ρ' H' => ∀ J, ItR G ρ' H' it J → R J H') := g
      cases x with
      | loc p =>
        refine .inl (.inl ⟨ρ, η, h, r, s, ?_⟩)
        rw [q]
        intro ρ1 H1 e1 s1 f1 x' rx
        have g1 := Good.step e1 f1 g
        cases rx with
        | loc hp =>
          simp only at g1
          cases w : h1.get p with
          | none => rw [w] at g1; exact g1.elim
          | some o =>
            rw [w] at g1
            cases o with
            | dic _ => exact g1.elim
            | lst xs =>
              obtain ⟨a', vs, k1, k2, rl⟩ := s1.lst w
              rw [hp] at k1; cases k1
              refine ⟨_, rfl, ⟨vs, .inl (.inl k2)⟩, ?_⟩
              rw [hK]
              exact g1.here s1 _ (.lst hp)
      | tup xs =>
        refine .inl (.inr ⟨ρ, η, h, r, s, ?_⟩)
        rw [q]
        intro ρ1 H1 e1 s1 f1 x' rx
        have g1 := Good.step e1 f1 g
        cases rx with
        | tup sq rl =>
          refine ⟨_, rfl, ⟨_, by rw [hK]; exact sq⟩, ?_⟩
          rw [hK]
          exact g1.here s1 _ (.tup sq rl)
      | fl xs =>
        refine .inl (.inl ⟨ρ, η, h, r, s, ?_⟩)
        rw [q]
        intro ρ1 H1 e1 s1 f1 x' rx
        have g1 := Good.step e1 f1 g
        cases rx with
        | fl sq rl =>
          refine ⟨_, rfl, ⟨_, by rw [hK]; exact sq.l⟩, ?_⟩
          rw [hK]
          exact g1.here s1 _ (.fl (.inl sq) rl)
      | ls xs =>
        refine .inl (.inl ⟨ρ, η, h, r, s, ?_⟩)
        rw [q]
        intro ρ1 H1 e1 s1 f1 x' rx
        have g1 := Good.step e1 f1 g
        cases rx with
        | ls ha hn rl =>
          refine ⟨_, rfl, ⟨_, .inl (.inl ha)⟩, ?_⟩
          rw [hK]
          exact g1.here s1 _ (.fl (.inr ⟨ha, hn⟩) rl)
      | tp xs =>
        refine .inl (.inr ⟨ρ, η, h, r, s, ?_⟩)
        rw [q]
        intro ρ1 H1 e1 s1 f1 x' rx
        have g1 := Good.step e1 f1 g
        cases rx with
        | tp sq rl =>
          refine ⟨_, rfl, ⟨_, sq.t⟩, ?_⟩
          rw [hK]
          exact g1.here s1 _ (.tup sq.t rl)
      | str l =>
        refine .inr ⟨ρ, η, h, r, s, ?_⟩
        rw [q]
        intro ρ1 H1 e1 s1 f1 x' rx
        have g1 := Good.step e1 f1 g
        cases rx with
        | str _ => exact ⟨_, rfl, g1.here s1 _ (.str l)⟩
      | _ => exact g.elim
def small62 (j : Int) : Bool := decide (-4611686018427387904 ≤ j) && decide (j < 4611686018427387904)
theorem small62_ok {j : Int} (h : small62 j = true) : -(2 ^ 62) ≤ j ∧ j < 2 ^ 62 := by
  unfold small62 at h
  rw [Bool.and_eq_true, decide_eq_true_eq, decide_eq_true_eq] at h
  omega
def fiRng1 (a : FA) : FI := fun η h => (a η h).bind fun xs h => match xs with
  | [.int j] => if small62 j = true then .ok (.rng 0 j.toNat) h else .bad
  | _ => .bad
theorem i_rng1 {a : Expr} {fa : FA} {p : Pos} (hg : Gl X "range") (hm : X.mg "range" = none) (ha : PA X [a] (tA G W fa)) (hs : starEach [a] X.env = [(false, eval a X.env)] := by rfl) : PI X tg (.Call (.Name "range" p) [a] [] pos) (tI G W (fiRng1 fa)) :=
  (pi_range1 hg hm ha hs).impX fun σ H R ⟨ρ, η, h, r, s, g⟩ => by
    refine ⟨ρ, η, h, r, s, g.bind fun xs h1 ρ1 H1 e1 s1 f1 g1 xs' rx => ?_⟩
    rcases xs with _ | ⟨x, _ | ⟨y, z⟩⟩
    · exact g1.elim
    · cases rx with
      | cons r1 rl => cases rl; cases r1 with
        | int j =>
          by_cases c : small62 j = true
          · simp only [c, if_true] at g1
            exact ⟨j, rfl, (small62_ok c).1, (small62_ok c).2, g1.here s1 _ (.rng _ _)⟩
          · exfalso; simp only [c, if_false] at g1; exact g1.elim
        | _ => exact g1.elim
    · cases x <;> exact g1.elim
def fiRng2 (a : FA) : FI := fun η h => (a η h).bind fun xs h => match xs with
  | [.int i, .int j] => if (small62 i && small62 j) = true then .ok (.rng i (j - i).toNat) h else .bad
  | _ => .bad
theorem i_rng2 {a b : Expr} {fa : FA} {p : Pos} (hg : Gl X "range") (hm : X.mg "range" = none) (ha : PA X [a, b] (tA G W fa)) (hs : starEach [a, b] X.env = [(false, eval a X.env), (false, eval b X.env)] := by rfl) (hs2 : starEach [b] X.env = [(false, eval b X.env)] := by rfl) :
    PI X tg (.Call (.Name "range" p) [a, b] [] pos) (tI G W (fiRng2 fa)) :=
  (pi_range2 hg hm ha hs hs2).impX fun σ H R ⟨ρ, η, h, r, s, g⟩ => by
    refine ⟨ρ, η, h, r, s, g.bind fun xs h1 ρ1 H1 e1 s1 f1 g1 xs' rx => ?_⟩
    rcases xs with _ | ⟨x, _ | ⟨y, _ | ⟨z, z'⟩⟩⟩
    · exact g1.elim
    · cases x <;> exact g1.elim
    · cases rx with
      | cons r1 rl => cases rl with
        | cons r2 rl2 =>
          cases rl2
          cases r1 with
          | int i => cases r2 with
            | int j =>
              by_cases c : (small62 i && small62 j) = true
              · simp only [c, if_true] at g1
                obtain ⟨c1, c2⟩ := Bool.and_eq_true_iff.mp c
                exact ⟨i, j, rfl, ⟨(small62_ok c1).1, (small62_ok c1).2, (small62_ok c2).1, (small62_ok c2).2⟩, g1.here s1 _ (.rng _ _)⟩
              · exfalso; simp only [c, if_false] at g1; exact g1.elim
            | _ => exact g1.elim
          | _ => exact g1.elim
    · cases x <;> cases y <;> exact g1.elim
def fiEnum (a : FA) : FI := fun η h => (a η h).bind fun xs h => match xs with
  | [.loc p] => match h.get p with
    | some (.lst _) => .ok (.enm p) h
    | _ => .bad
  | [.ls xs] => .ok (.enF xs) h
  | [.fl xs] => .ok (.enF xs) h
  | _ => .bad
theorem i_enum {e : Expr} {fa : FA} {p tpos : Pos} {elts : List Expr} {kk : Nat} (hK : X.K = G.K) (hg : Gl X "enumerate") (hm : X.mg "enumerate" = none) (ha : PA X [e] (tA G W fa)) (hs : starEach [e] X.env = [(false, eval e X.env)] := by rfl) :
    PI X (.Tuple elts kk tpos) (.Call (.Name "enumerate" p) [e] [] pos) (tI G W (fiEnum fa)) :=
  (pi_enum hg hm ha hs).impX fun σ H R ⟨ρ, η, h, r, s, g⟩ => by
    refine ⟨ρ, η, h, r, s, g.bind fun xs h1 ρ1 H1 e1 s1 f1 g1 xs' rx => ?_⟩
    rcases xs with _ | ⟨x, _ | ⟨y, z⟩⟩
    · exact g1.elim
    · cases rx with
      | cons r1 rl => cases rl; cases r1 with
        | @loc q a hp =>
          simp only at g1
          cases w : h1.get q with
          | none => rw [w] at g1; exact g1.elim
          | some o =>
            rw [w] at g1
            cases o with
            | dic _ => exact g1.elim
            | lst xs =>
              obtain ⟨a', vs, k1, k2, rl⟩ := s1.lst w
              rw [hp] at k1; cases k1
              refine ⟨_, vs, rfl, .inl (.inl k2), ?_⟩
              rw [hK]
              exact g1.here s1 _ (.enm hp)
        | ls ha hn rl =>
          refine ⟨_, _, rfl, .inl (.inl ha), ?_⟩
          rw [hK]
          exact g1.here s1 _ (.enF (.inr ⟨ha, hn⟩) rl)
        | fl sq rl =>
          refine ⟨_, _, rfl, by rw [hK]; exact sq.l, ?_⟩
          rw [hK]
          exact g1.here s1 _ (.enF (.inl sq) rl)
        | _ => exact g1.elim
    · cases x <;> exact g1.elim
def szOf (x : SV) (h : SH) : Option SZ := match x with
  | .loc p => match h.get p with
    | some (.lst _) => some (.lst p)
    | _ => none
  | .tup xs => some (.tup xs)
  | .tp xs => some (.tup xs)
  | .fl xs => some (.fl xs)
  | .ls xs => some (.fl xs)
  | .str l => some (.str l)
  | _ => none
theorem szOf_ok {ρ : Rho} {h : SH} {H : Hp} {x : SV} {v : V} {z : SZ} (s : Sim G ρ h H) (r : Rep G ρ H x v) (e : szOf x h = some z) : ∃ f, ZV G.K H v f ∧ ∀ t, ZR G ρ H z (f t) := by
  cases r with
  | @loc q a hp =>
    unfold szOf at e
    simp only at e
    cases w : h.get q with
    | none => rw [w] at e; cases e
    | some o =>
      rw [w] at e
      cases o with
      | dic _ => cases e
      | lst xs =>
        cases e
        obtain ⟨a', vs, k1, k2, rl⟩ := s.lst w
        rw [hp] at k1; cases k1
        exact ⟨_, .lst (.inl (.inl k2)), fun t => .lst hp⟩
  | tup sq rl => cases e; exact ⟨_, .tup sq, fun t => .tup sq rl⟩
  | tp sq rl => cases e; exact ⟨_, .tup sq.t, fun t => .tup sq.t rl⟩
  | ls ha hn rl => cases e; exact ⟨_, .lst (.inl (.inl ha)), fun t => .fl (.inr ⟨ha, hn⟩) rl⟩
  | fl sq rl => cases e; exact ⟨_, .lst sq.l, fun t => .fl (.inl sq) rl⟩
  | str l => cases e; exact ⟨_, .str _, fun t => .str l t⟩
  | _ => cases e
def fiZip (a : FA) : FI := fun η h => (a η h).bind fun xs h => match xs with
  | [x, y] => match szOf x h, szOf y h with
    | some a, some b => .ok (.zip a b) h
    | _, _ => .bad
  | _ => .bad
theorem i_zip {e e2 : Expr} {fa : FA} {p pos tpos : Pos} {elts : List Expr} {kk : Nat} (hK : X.K = G.K) (hg : Gl X "zip") (hm : X.mg "zip" = none) (ha : PA X [e, e2] (tA G W fa))
    (hs : starEach [e, e2] X.env = (false, eval e X.env) :: starEach [e2] X.env := by rfl) (hpl : (backTo pos (starEach [e2] X.env)).any (·.1) = false := by rfl) :
    PI X (.Tuple elts kk tpos) (.Call (.Name "zip" p) [e, e2] [] pos) (tI G W (fiZip fa)) :=
  (pi_zipG hg hm ha hs hpl).impX fun σ H R ⟨ρ, η, h, r, s, g⟩ => by
    refine ⟨ρ, η, h, r, s, g.bind fun xs h1 ρ1 H1 e1 s1 f1 g1 xs' rx => ?_⟩
    rcases xs with _ | ⟨x, _ | ⟨y, _ | ⟨w, z⟩⟩⟩
    · exact g1.elim
    · exact g1.elim
    · cases rx with
      | cons r1 rl => cases rl with
        | cons r2 rl =>
          cases rl
          simp only at g1
          cases q1 : szOf x h1 with
          | none => rw [q1] at g1; exact g1.elim
          | some a =>
            cases q2 : szOf y h1 with
            | none => rw [q1, q2] at g1; exact g1.elim
            | some b =>
              rw [q1, q2] at g1
              obtain ⟨fa, za, ka⟩ := szOf_ok s1 r1 q1
              obtain ⟨fb, zb, kb⟩ := szOf_ok s1 r2 q2
              rw [hK]
              exact ⟨_, _, fa, fb, rfl, za, zb, fun t u => g1.here s1 _ (.zip (ka t) (kb u))⟩
    · exact g1.elim
/-! ### for -/
def loop (it : SIt) (t : GT) (b : FS) : Nat → Nat → FS
  | 0, _ => fun _ _ => .bad
  | f + 1, i => fun η h => match it.at i h with
    | none => .bad
    | some none => .ok (.nx η) h
    | some (some x) => (t x η h).bind fun η h => (b η h).bind fun fl h => match fl with
      | .nx η => loop it t b f (i + 1) η h
      | .ct η => loop it t b f (i + 1) η h
      | .bk η => .ok (.nx η) h
      | .rt v => .ok (.rt v) h
def fFor (i : FI) (t : GT) (b : FS) : FS := fun η h => (i η h).bind fun it h => loop it t b (it.size h + 100000) 0 η h
theorem s_for {iter : Expr} {body : List Stmt} {fi : FI} {is : List Nat} {t : GT} {fb : FS} (hp : PassesOwn (model X.prog X.w) X.A X.env X.xe) (hc : X.calm = true) (hi : PI X tg iter (tI G W fi)) (hg : PG X tg (tG G W is t)) (hb : PSs X body (tS G W fb))
    (hs : ∀ x, foldedSetIterable iter X.env x = pure x := by intro _; rfl) : PS X (.For tg iter body [] pos) (tS G W (fFor fi t fb)) :=
  (ps_for hp hc hi hg hb hs).impX fun D σ H ⟨ρ, η, h, r, s, g⟩ => by
    refine ⟨ρ, η, h, r, s, g.bind fun it h1 ρ1 H1 e1 s1 f1 g1 J rJ => ?_⟩
    refine ⟨fun i m σ H => ∃ ρ η h, EnvR G ρ H η σ ∧ Sim G ρ h H ∧ ItR G ρ H it J ∧ Good G W ρ H (loop it t fb m i η h) (FQ G D), ⟨_, ρ1, η, h1, r.mono e1 f1, s1, rJ, g1⟩, ?_⟩
    rintro i m σ2 H2 ⟨ρ2, η2, h2, r2, s2, rJ2, g2⟩
    cases m with
    | zero => exact g2.elim
    | succ m =>
      unfold loop at g2
      cases q : it.at i h2 with
      | none => rw [q] at g2; exact g2.elim
      | some o =>
        cases o with
        | none => rw [q] at g2; exact .inl ⟨SIt.stop s2 rJ2 q, g2.here s2 _ r2⟩
        | some x =>
          rw [q] at g2
          obtain ⟨go, yl⟩ := SIt.go s2 rJ2 q
          refine .inr ⟨go, fun σ' H' => ∃ ρ η h, EnvR G ρ H' η σ' ∧ Sim G ρ h H' ∧ ItR G ρ H' it J ∧ Good G W ρ H' (loop it t fb m (i + 1) η h) (FQ G D), fun σ' H' z => ⟨m, Nat.lt_succ_self _, z⟩, fun v H3 y => ?_⟩
          obtain ⟨s3, f3, rv⟩ := yl v H3 y
          have e3 := Ext.refl s2
          have r3 := r2.mono e3 f3
          have rJ3 := rJ2.mono e3 f3
          have g3 := Good.step e3 f3 g2
          refine ⟨ρ2, η2, h2, x, rv, r3, s3, Good.bind g3 fun η4 h4 ρ4 H4 e4 s4 f4 g4 σ4 r4 _ => ?_⟩
          refine ⟨ρ4, η4, h4, r4, s4, Good.bind g4 fun fl h5 ρ5 H5 e5 s5 f5 g5 => ?_⟩
          have rJ5 := (rJ3.mono e4 f4).mono e5 f5
          cases fl with
          | nx η5 => exact fun σ5 r5 => ⟨ρ5, η5, h5, r5, s5, rJ5, g5⟩
          | ct η5 => exact fun σ5 r5 => ⟨ρ5, η5, h5, r5, s5, rJ5, g5⟩
          | bk η5 => exact fun σ5 r5 => Good.here (W := W) s5 g5 σ5 r5
          | rt v => exact Good.here (W := W) s5 g5
/-! ### list comprehensions -/
def wipeS (η : Sl) : List Nat → Sl
  | [] => η
  | v :: vs => (wipeS η vs).set v none
theorem wipeS_len (η : Sl) : ∀ vs : List Nat, (wipeS η vs).length = η.length
  | [] => rfl
  | v :: vs => by unfold wipeS; rw [List.length_set, wipeS_len η vs]
theorem wipeS_some {η : Sl} {i : Nat} {x : SV} : ∀ {vs : List Nat}, (wipeS η vs)[i]? = some (some x) → η[i]? = some (some x) ∧ i ∉ vs
  | [], h => ⟨h, by simp⟩
  | v :: vs, h => by
    unfold wipeS at h
    by_cases hi : v = i
    · subst hi
      by_cases hv : v < (wipeS η vs).length
      · rw [List.getElem?_set_self hv] at h; cases h
      · rw [List.getElem?_eq_none (by rw [List.length_set]; omega)] at h; cases h
    · rw [List.getElem?_set_ne hi] at h
      obtain ⟨h1, h2⟩ := wipeS_some h
      exact ⟨h1, fun z => by
        rcases List.mem_cons.mp z with z | z
        · exact hi z.symm
        · exact h2 z⟩
theorem EnvR.wipe {ρ : Rho} {H : Hp} {η : Sl} {σ : L2.St} (r : EnvR G ρ H η σ) (vs : List Nat) : EnvR G ρ H (wipeS η vs) (L2.wipe σ vs) :=
  ⟨by rw [wipeS_len, wipe_length]; exact r.len, fun i v q => by
    obtain ⟨q1, q2⟩ := wipeS_some q
    rw [wipe_out q2]
    exact r.at_ i v q1⟩
theorem wipe_none {σ : L2.St} {i : Nat} : ∀ {vs : List Nat}, i ∈ vs → i < σ.length → (L2.wipe σ vs)[i]? = some none
  | v :: vs, h, hl => by
    unfold L2.wipe
    by_cases hi : v = i
    · subst hi
      rw [List.getElem?_set_self (by rw [wipe_length]; exact hl)]
    · rw [List.getElem?_set_ne hi]
      exact wipe_none ((List.mem_cons.mp h).resolve_left fun z => hi z.symm) hl
theorem wipe_same {σ σ2 : L2.St} {is vs : List Nat} (h : Same is (L2.wipe σ vs) σ2) (hi : ∀ i ∈ is, i ∈ vs) : L2.wipe σ2 vs = L2.wipe σ vs := by
  have hl : σ2.length = σ.length := by rw [h.1, wipe_length]
  apply List.ext_getElem?
  intro j
  by_cases hj : j ∈ vs
  · by_cases hlt : j < σ.length
    · rw [wipe_none hj (by rw [hl]; exact hlt), wipe_none hj hlt]
    · rw [List.getElem?_eq_none (by rw [wipe_length]; omega), List.getElem?_eq_none (by rw [wipe_length]; omega)]
  · rw [wipe_out hj, h.2 j (fun z => hj (hi j z))]
def noX {α : Type} (o : Out α) : Out α := match o with
  | .exc _ _ => .bad
  | o => o
abbrev WN : XW := fun _ _ _ _ => False
def fTT (t : FT) : FT := t
/-- the loop of a comprehension: the new list stands at p -/
def lcLoop (it : SIt) (t : GT) (c : FT) (e : F) (p : Nat) (η0 : Sl) : Nat → Nat → SH → Out Unit
  | 0, _, _ => .bad
  | f + 1, i, h => match it.at i h with
    | none => .bad
    | some none => .ok () h
    | some (some x) => (t x η0 h).bind fun η h => (c η h).bind fun b h => if b = true then (e η h).bind fun y h => match h.get p with
        | some (.lst acc) => if acc.length < sizeLine then lcLoop it t c e p η0 f (i + 1) (h.set p (.lst (acc ++ [y]))) else .bad
        | _ => .bad
      else lcLoop it t c e p η0 f (i + 1) h
def fLc (i : FI) (t : GT) (c : FT) (e : F) (vs : List Nat) : F := fun η h => (i η h).bind fun it h => match lcLoop it t c e h.nx (wipeS η vs) (it.size h + 100000) 0 (h.new (.lst [])) with
  | .ok _ h' => .ok (.loc h.nx) h'
  | _ => .bad
theorem lc_imp {fi : FI} {is vs : List Nat} {t : GT} {tc : FT} {fe : F} (hv : ∀ i ∈ is, i ∈ vs) {σ : L2.St} {H : Hp} {Q : VK} (tt : tE G W (fLc fi t tc fe vs) σ H Q) :
    tLc (tI G W fi) (tG G WN is t) (tT G WN tc) (tE G WN fe) vs σ H Q := by
  obtain ⟨ρ, η, h, r, s, g⟩ := tt
  refine ⟨ρ, η, h, r, s, g.bind fun it h1 ρ1 H1 e1 s1 f1 g1 J rJ D hD => ?_⟩
  have r1 := (r.mono e1 f1).wipe vs
  generalize hz : it.size h1 + 100000 = z at g1
  cases q : lcLoop it t tc fe h1.nx (wipeS η vs) z 0 (h1.new (.lst [])) with
  | bad => rw [q] at g1; exact g1.elim
  | exc _ _ => rw [q] at g1; exact g1.elim
  | ok u h' =>
    rw [q] at g1
    have g1 : Post G ρ1 H1 h' (RQ G Q (.loc h1.nx)) := g1
    have sn := s1.new (u := .lst []) (o := .lst []) hD trivial (repO_lst s1 hD .nil)
    have en := s1.extN hD
    have fn : Frm ρ1 H1 (upd H1 D (.lst [])) := frm_new hD
    refine ⟨fun i m H => ∃ ρ h, EnvR G ρ H (wipeS η vs) (L2.wipe σ vs) ∧ Sim G ρ h H ∧ ItR G ρ H it J ∧ ρ h1.nx = some D ∧ lcLoop it t tc fe h1.nx (wipeS η vs) m i h = .ok u h' ∧ Post G ρ H h' (RQ G Q (.loc h1.nx)),
      ⟨z, _, _, r1.mono en fn, sn, rJ.mono en fn, radd_same, q, Post.step en fn g1⟩, ?_⟩
    rintro i m H2 ⟨ρ2, h2, r2, s2, rJ2, hp2, q2, g2⟩
    cases m with
    | zero => cases q2
    | succ m =>
      unfold lcLoop at q2
      cases w : it.at i h2 with
      | none => rw [w] at q2; cases q2
      | some o =>
        cases o with
        | none =>
          rw [w] at q2
          cases q2
          exact .inl ⟨SIt.stop s2 rJ2 w, g2 ρ2 H2 (Ext.refl s2) s2 (Frm.refl _ _) _ (.loc hp2)⟩
        | some x =>
          rw [w] at q2
          obtain ⟨go, yl⟩ := SIt.go s2 rJ2 w
          refine .inr ⟨go, fun H => ∃ ρ h, EnvR G ρ H (wipeS η vs) (L2.wipe σ vs) ∧ Sim G ρ h H ∧ ItR G ρ H it J ∧ ρ h1.nx = some D ∧ lcLoop it t tc fe h1.nx (wipeS η vs) m (i + 1) h = .ok u h' ∧ Post G ρ H h' (RQ G Q (.loc h1.nx)),
            fun H' z => ⟨m, Nat.lt_succ_self _, z⟩, fun v H3 y => ?_⟩
          obtain ⟨s3, f3, rv⟩ := yl v H3 y
          have e3 := Ext.refl s2
          have r3 := r2.mono e3 f3
          have rJ3 := rJ2.mono e3 f3
          have g3 := Post.step e3 f3 g2
          simp only at q2
          refine ⟨ρ2, wipeS η vs, h2, x, rv, r3, s3, ?_⟩
          cases qt : t x (wipeS η vs) h2 with
          | bad => rw [qt] at q2; cases q2
          | exc _ _ => rw [qt] at q2; cases q2
          | ok η4 h4 =>
            rw [qt] at q2
            intro ρ4 H4 e4 s4 f4 σ4 r4 sm
            refine ⟨wipe_same sm hv, ρ4, η4, h4, r4, s4, ?_⟩
            have g4 := Post.step e4 f4 g3
            have rw4 := r3.mono e4 f4
            have rJ4 := rJ3.mono e4 f4
            have hp4 := e4.sub _ _ hp2
            have q2 : (tc η4 h4).bind (fun b h => if b = true then (fe η4 h).bind fun y h => match h.get h1.nx with
                | some (.lst acc) => if acc.length < sizeLine then lcLoop it t tc fe h1.nx (wipeS η vs) m (i + 1) (h.set h1.nx (.lst (acc ++ [y]))) else .bad
                | _ => .bad
              else lcLoop it t tc fe h1.nx (wipeS η vs) m (i + 1) h) = .ok u h' := q2
            cases qc : tc η4 h4 with
            | bad => rw [qc] at q2; cases q2
            | exc _ _ => rw [qc] at q2; cases q2
            | ok b h5 =>
              rw [qc] at q2
              intro ρ5 H5 e5 s5 f5
              have g5 := Post.step e5 f5 g4
              have rw5 := rw4.mono e5 f5
              have rJ5 := rJ4.mono e5 f5
              have hp5 := e5.sub _ _ hp4
              have r5 := r4.mono e5 f5
              cases b with
              | false =>
                have q2 : lcLoop it t tc fe h1.nx (wipeS η vs) m (i + 1) h5 = .ok u h' := q2
                exact ⟨ρ5, h5, rw5, s5, rJ5, hp5, q2, g5⟩
              | true =>
                have q2 : (fe η4 h5).bind (fun y h => match h.get h1.nx with
                  | some (.lst acc) => if acc.length < sizeLine then lcLoop it t tc fe h1.nx (wipeS η vs) m (i + 1) (h.set h1.nx (.lst (acc ++ [y]))) else .bad
                  | _ => .bad) = .ok u h' := q2
                refine ⟨ρ5, η4, h5, r5, s5, ?_⟩
                cases qe : fe η4 h5 with
                | bad => rw [qe] at q2; cases q2
                | exc _ _ => rw [qe] at q2; cases q2
                | ok yv h6 =>
                  rw [qe] at q2
                  intro ρ6 H6 e6 s6 f6 y' ry
                  have q2 : (match h6.get h1.nx with
                    | some (.lst acc) => if acc.length < sizeLine then lcLoop it t tc fe h1.nx (wipeS η vs) m (i + 1) (h6.set h1.nx (.lst (acc ++ [yv]))) else .bad
                    | _ => .bad) = .ok u h' := q2
                  have hp6 := e6.sub _ _ hp5
                  cases qg : h6.get h1.nx with
                  | none => rw [qg] at q2; cases q2
                  | some o =>
                    rw [qg] at q2
                    cases o with
                    | dic _ => cases q2
                    | lst acc =>
                      simp only at q2
                      obtain ⟨a', vs', k1, k2, rl⟩ := s6.lst qg
                      rw [hp6] at k1; cases k1
                      by_cases c : acc.length < sizeLine
                      · rw [if_pos c] at q2
                        have fu : Frm ρ6 H6 (upd H6 D (.lst (vs' ++ [y']))) := frm_upd (o := .lst []) hp6 (s6.mut hp6)
                        have sw := s6.write (u := .lst (vs' ++ [y'])) (o := .lst (acc ++ [yv])) hp6 trivial (repO_set hp6 (s6.mut hp6) (rl.append (.cons ry .nil)))
                        exact ⟨vs', k2, by rw [← rl.length]; exact c, ρ6, _, (rw5.mono e6 f6).mono (Ext.refl s6) fu, sw, (rJ5.mono e6 f6).mono (Ext.refl s6) fu, hp6, q2, Post.step (Ext.refl s6) fu (Post.step e6 f6 g5)⟩
                      · rw [if_neg c] at q2; cases q2
theorem c_nil {X : Cx} : PTs X [] (tT G W fun _ h => .ok true h) := ⟨fun pins s σ H Q I ⟨ρ, η, h, r, s1, g⟩ => pts_nil.run pins s σ H Q I (g.here s1)⟩
theorem e_lc {elt iter : Expr} {ifs : List Expr} {scope : Scope} {own : List (Str × Nat)} {fi : FI} {is : List Nat} {t : GT} {tc : FT} {fe : F} (hc : X.calm = true) (hN : X.N.Nodup) (hi : PI X tg iter (tI G W fi)) (ok : BlkOk X.N X.env.scope scope own)
    (hg : ∀ (s : Shared) (H : Hp) (C : Addr) (cl : List (Str × Addr)) (fp : List Addr), PG (X.blk s H scope (compEnvC scope cl C X.env) fp) tg (tG G WN is t)) (ht : ∀ (s : Shared) (H : Hp) (C : Addr) (cl : List (Str × Addr)) (fp : List Addr), PTs (X.blk s H scope (compEnvC scope cl C X.env) fp) ifs (tT G WN tc))
    (he : ∀ (s : Shared) (H : Hp) (C : Addr) (cl : List (Str × Addr)) (fp : List Addr), PE (X.blk s H scope (compEnvC scope cl C X.env) fp) elt (tE G WN fe)) (hv : ∀ i ∈ is, i ∈ own.map (·.2)) (hs : ∀ x, foldedSetIterable iter X.env x = pure x := by intro _; rfl) :
    PE X (.ListComp elt [⟨tg, iter, ifs, 0⟩] scope pos) (tE G W (fLc fi t tc fe (own.map (·.2)))) :=
  (pe_lc hc hN hi ok hg ht he hs).impX fun σ H Q tt => lc_imp hv tt
theorem s_setLc {i : Nat} {y : Str} {py : Pos} {elt iter : Expr} {ifs : List Expr} {scope : Scope} {own : List (Str × Nat)} {spos : Pos} {fi : FI} {is : List Nat} {t : GT} {tc : FT} {fe : F} (hc : X.calm = true) (hN : X.N.Nodup) (hy : X.N[i]? = some y) (hyl : X.env.scope.names.lookup y = some .local)
    (hsw : swapsWith (.ListComp elt [⟨tg, iter, ifs, 0⟩] scope pos) (some (.Name y py)) spos.line X.env = pure true) (hi : PI X tg iter (tI G W fi)) (ok : BlkOk X.N X.env.scope scope own)
    (hg : ∀ (s : Shared) (H : Hp) (C : Addr) (cl : List (Str × Addr)) (fp : List Addr), PG (X.blk s H scope (compEnvC scope cl C X.env) fp) tg (tG G WN is t)) (ht : ∀ (s : Shared) (H : Hp) (C : Addr) (cl : List (Str × Addr)) (fp : List Addr), PTs (X.blk s H scope (compEnvC scope cl C X.env) fp) ifs (tT G WN tc))
    (he : ∀ (s : Shared) (H : Hp) (C : Addr) (cl : List (Str × Addr)) (fp : List Addr), PE (X.blk s H scope (compEnvC scope cl C X.env) fp) elt (tE G WN fe)) (hv : ∀ i ∈ is, i ∈ own.map (·.2)) (hs : ∀ x, foldedSetIterable iter X.env x = pure x := by intro _; rfl) :
    PS X (.Assign [.Name y py] (.ListComp elt [⟨tg, iter, ifs, 0⟩] scope pos) spos) (tS G W (fSet i (fLc fi t tc fe (own.map (·.2))))) :=
  (ps_setLc hc hN hy hyl hsw hi ok hg ht he hs).impX fun D σ H ⟨ρ, η, h, r, s, g⟩ =>
    lc_imp (Q := fun x H1 => gName i x σ H1 D.nx) hv ⟨ρ, η, h, r, s, g.bind fun x h1 ρ1 H1 e1 s1 f1 g1 x' rx => g1.here s1 _ ((r.mono e1 f1).set i rx)⟩
/-! ### isinstance(x, (A, B)) -/
def fIsiT (a : F) (r : FA) : F := fun η h => (a η h).bind fun x h => (r η h).bind fun cs h => if cs.length ≤ 9 then match tysOf cs, tyOf h x with
  | some bs, some t => .ok (.bl (bs.any fun b => t.sub b)) h
  | _, _ => .bad else .bad
theorem e_isiT {e : Expr} {es : List Expr} {x1} {p p2 : Pos} {fa : F} {fr : FA} (hK : X.K = G.K) (hg : Gl X "isinstance") (hm : X.mg "isinstance" = none) (ha : PE X e (tE G W fa)) (hc : PA X es (tA G W fr))
    (hs : starEach [e, .Tuple es x1 p2] X.env = (false, eval e X.env) :: starEach [.Tuple es x1 p2] X.env := by rfl) (hs2 : starEach [.Tuple es x1 p2] X.env = (false, eval (.Tuple es x1 p2) X.env) :: starEach [] X.env := by rfl)
    (hpl : (backTo pos (starEach [.Tuple es x1 p2] X.env)).any (·.1) = false := by rfl) :
    PE X (.Call (.Name "isinstance" p) [e, .Tuple es x1 p2] [] pos) (tE G W (fIsiT fa fr)) :=
  (pe_callB call_isiT hg hm (by rfl) (pa_cons ha (pa_cons (pe_tup hc) pa_nil hs2) hs) (he := hs) (hpl := hpl)).impX fun σ H Q ⟨ρ, η, h, r, s, g⟩ => by
    refine ⟨ρ, η, h, r, s, g.bind fun x h1 ρ1 H1 e1 s1 f1 g1 x' rx => ?_⟩
    refine ⟨ρ1, η, h1, r.mono e1 f1, s1, g1.bind fun cs h2 ρ2 H2 e2 s2 f2 g2 cs' rc => ?_⟩
    by_cases c9 : cs.length ≤ 9
    case neg => rw [if_neg c9] at g2; exact g2.elim
    rw [if_pos c9] at g2
    cases q1 : tysOf cs with
    | none => rw [q1] at g2; exact g2.elim
    | some bs =>
      cases q2 : tyOf h2 x with
      | none => rw [q1, q2] at g2; exact g2.elim
      | some b =>
        rw [q1, q2] at g2
        have hl : cs'.length ≤ sizeLine := by rw [← rc.length, sizeLine_eq]; omega
        refine ⟨hl, fun p hp => ?_⟩
        obtain ⟨k1, k2⟩ := tysOf_ok (K := X.K) (t := b) rc q1
        refine ⟨x', p, cs', _, _, _, rfl, upd_same, k1, ?_, k2, ?_⟩
        · rw [hK]
          exact tyOf_ok (s2.newT hp) ((rx.mono e2.sub f2).mono Sub.refl (frm_new hp)) q2
        · exact g2.newT s2 hp _ (.bl _)
end
end Fv
/-! Ev8: defs under no guard: what they promise, how they are called, the head. -/
namespace Fv
open PySem PySem.Spec PyProof.Rows L2
def NoG (A : Around) : Prop := A.guards = some []
/-- as FnOk, where nothing is being shown (repr asks that) -/
structure FnG (P : Program) (w : World) (K : PySem.W.Frag) (mg : Str → Option Value) (base : Heap) (CX : CXT) (k : Nat) (f : Addr) (fd : FuncData) (ps : List Str) (sp : Sp) : Prop where
  few : ∀ vs H Q E, sp vs H Q E → vs.length = ps.length
  go : ∀ {A : Around} {outer : List Env} {s : Shared} {H : Hp} {args : Args} {us : List Value} {vs : List V} {Q : VK} {E : XK}, NoG A → Room k A → Env0 P w K mg base A outer s H → BindsTo s fd args (ps.zip us) → Vals vs us → sp vs H Q E →
    codeAny (model P w) A (.call (.ref f) args) (CR CX outer P w H s Q E) s
section
variable {P : Program} {w : World} {K : PySem.W.Frag} {mg : Str → Option Value} {base : Heap} {CX : CXT} {k : Nat} {f : Addr}
/-- a def keeps its promise if its body does -/
theorem FunD.okG {x qual : Str} {params : Arguments} {body : List Stmt} {scope : Scope} {dvs : List V} {kws : List (Str × V)} {fd : FuncData} {N ps : List Str} {sp : Sp} (F : FunD K x qual params body scope dvs kws f fd) (S : FnScope N ps scope) (few : ∀ vs H Q E, sp vs H Q E → vs.length = ps.length)
    (body_ok : ∀ (cdv : Value) (A : Around) (outer : List Env) (s : Shared) (H : Hp) (vs : List V) (Q : VK) (E : XK), NoG (A.deeper (envOfC qual scope s.heap.objs.size f cdv)) → Room k (A.deeper (envOfC qual scope s.heap.objs.size f cdv)) → sp vs H Q E →
      ∃ t, PSs (cxOf CX P w K mg base N qual scope f cdv A outer s H E) body t ∧ t { nx := fun _ H' => Q .non H', rt := Q } (start N vs) H) : FnG P w K mg base CX (k + 1) f fd ps sp := by
  obtain ⟨oc, od, dV, kV, doc, pm, an, cdv, ct, osl, rfl, lk, hcd, _, _⟩ := F.ex
  constructor
  · exact few
  · intro A outer s H args us vs Q E hg hr e0 hb r hsp
    have kept : ∀ {b o}, base.get? b = some o → s.heap.get? b = some o := fun {b o} z => (e0.bs b o z).1
    have KX := e0.mod.kin.keeps fun b o => kept
    have hkd : ∀ y ∈ ps.zip us, scope.names.lookup y.1 = some .local ∨ (scope.names.lookup y.1 = some .cell ∧ ((cellsFrom (s.heap.objs.size + 1) scope.names []).lookup y.1).isSome = true) := by
      rintro ⟨n, v⟩ hy
      exact (S.par n (List.of_mem_zip hy).1).imp id fun q => ⟨q, PySem.W.cellsFrom_some _ _ _ (.inl q)⟩
    apply codeAny_call_function hr.depth (KX _ _ lk) rfl S.co S.gen rfl (PySem.W.codeRec_of KX hcd)
    apply hb
    apply wpAny_newFunctionEnv_cells S.kind hkd
    rintro env rfl s1 x
    refine ⟨(e0.mod.nolimit.keeps fun b o => kept).keeps x.toInCall.keep, codeAny_func ?_⟩
    obtain ⟨t, ht, hq⟩ := body_ok cdv A outer s H vs Q E hg (hr.deeper _) hsp
    refine wpAny_mono (ht.run [] s1 _ H _ (inv_start (E := E) S hr.hd e0 (few _ _ _ _ hsp) r x) hq) ?_ fun _ _ z => z
    rintro (_ | _ | _ | u) s' hs
    · obtain ⟨σ', H', J, q⟩ := hs
      exact ⟨.non, H', J.os, J.bare, J.base, J.hok, rfl, q⟩
    all_goals first
      | (obtain ⟨_, _, _, q⟩ := hs; exact q.elim)
      | (obtain ⟨v, σ', H', J, rv, q⟩ := hs; exact ⟨v, H', J.os, J.bare, J.base, J.hok, rv, q⟩)
end
section
variable {X : Cx} {CX : CXT} {k : Nat} {f : Addr} {fd : FuncData} {ps ks : List Str} {sp : Sp} {dvs : List V} {ds : List Value} {E : XK} {x : Str} {p pos : Pos} {e : Expr} {es : List Expr} {kws : List Keyword} {t tk : TA}
theorem FnG.enter {pins : List (Addr × Obj)} {σ : L2.St} {H : Hp} {s : Shared} {Q : VK} {us : List Value} {kw : List (Str × Value)} {bs : List Value} {vs : List V} (F : FnG X.prog X.w X.K X.mg X.base CX k f fd ps sp) (hg : NoG X.A) (hr : Room k X.A) (hx : Passes CX X E) (I : Inv X pins σ H s)
    (hb : BindsTo s fd ⟨us, kw⟩ (ps.zip bs)) (r : Vals vs bs) (h : sp vs H Q E) : wpAny (model X.prog X.w) X.A (call (.ref f) us kw) (EP X pins σ Q) X.xe s :=
  wpAny_call (codeAny_mono (F.go hg hr I.env0 hb r h) fun r s' hq => match r, hq with
    | .error e, hq => hx pins σ H s e s' I hq
    | .ok (.ret u), hq => I.after hq)
theorem pg_call (F : FnG X.prog X.w X.K X.mg X.base CX k f fd ps sp) (hn : NoG X.A) (hr : Room k X.A) (hg : Gl X x) (hm : X.mg x = some (.ref f)) (hk : PySem.W.keepIn X.K (.ref f) = true) (hb : Binds X.K fd ps ds) (hd : Vals dvs ds) (hx : Passes CX X E) (ha : PA X (e :: es) t)
    (hdb : (x == ("__debug__" : Str)) = false := by decide) (he : starEach (e :: es) X.env = (false, eval e X.env) :: starEach es X.env := by rfl) (hpl : (backTo pos (starEach es X.env)).any (·.1) = false := by rfl) :
    PE X (.Call (.Name x p) (e :: es) [] pos) (tCall sp dvs E t) :=
  ⟨fun pins s σ H Q I h => wpAny_Call_Name_kw (ld_glob I hg hm (PySem.W.callWith_K (h₀ := X.base) I.ok.mod.kin hk (thn (ha.run pos pins s σ H _ I h) fun us s1 ⟨vs, H1, I1, r, q⟩ => ⟨I1.kIn,
    have r2 := r.append hd
    F.enter hn hr hx I1 (hb s1 us I1.kIn (by rw [← r2.length]; exact F.few _ _ _ _ q)) r2 q⟩) he hpl) hdb)⟩
theorem pg_call0 (F : FnG X.prog X.w X.K X.mg X.base CX k f fd ps sp) (hn : NoG X.A) (hr : Room k X.A) (hg : Gl X x) (hm : X.mg x = some (.ref f)) (hk : PySem.W.keepIn X.K (.ref f) = true) (hb : Binds X.K fd ps ds) (hd : Vals dvs ds) (hx : Passes CX X E)
    (hdb : (x == ("__debug__" : Str)) = false := by decide) : PE X (.Call (.Name x p) [] [] pos) (tCall sp dvs E tNil) :=
  ⟨fun pins s σ H Q I h => wpAny_Call_Name_kw (ld_glob I hg hm (PySem.W.callWith_K0 I.kIn hk (
    have r2 : Vals ([] ++ dvs) ([] ++ ds) := (show Vals [] [] from .nil).append hd
    F.enter hn hr hx I (hb s [] I.kIn (by rw [← r2.length]; exact F.few _ _ _ _ h)) r2 h)) hdb)⟩
variable {n : Nat} {g : List Value → List Value → List Value} {gV : List V → List V → List V}
theorem pg_callK (F : FnG X.prog X.w X.K X.mg X.base CX k f fd ps sp) (hn : NoG X.A) (hr : Room k X.A) (hg : Gl X x) (hm : X.mg x = some (.ref f)) (hk : PySem.W.keepIn X.K (.ref f) = true) (hb : KBn X.K fd ps n ks g gV) (hx : Passes CX X E) (ha : PA X (e :: es) t) (hkw : PK X kws tk)
    (hall : (backToKw pos (keywordEach kws X.env)).all (·.1.isSome) = true := by rfl) (hks : (backToKw pos (keywordEach kws X.env)).filterMap (·.1) = ks := by rfl) (hdb : (x == ("__debug__" : Str)) = false := by decide)
    (he : starEach (e :: es) X.env = (false, eval e X.env) :: starEach es X.env := by rfl) (hpl : ((backTo pos (starEach (e :: es) X.env)).any (·.1) || (backToKw pos (keywordEach kws X.env)).any (·.1.isNone)) = false := by rfl) :
    PE X (.Call (.Name x p) (e :: es) kws pos) (tCallN n ks.length sp gV E t tk) :=
  ⟨fun pins s σ H Q I h => wpAny_Call_Name_kw (ld_glob I hg hm (PySem.W.callWith_KW (h₀ := X.base) I.ok.mod.kin hk hall (thn (ha.run pos pins s σ H _ I h) fun us s1 ⟨vs, H1, I1, r, q⟩ => thn (hkw.run pos pins s1 σ H1 _ I1 q) fun ws s2 ⟨zs, H2, I2, rz, l1, l2, q2⟩ =>
    ⟨I2.kIn, by rw [hks]; exact F.enter hn hr hx I2 (hb.to s2 us ws I2.kIn (r.length.symm.trans l1) (rz.length.symm.trans l2)) (hb.rel r rz) q2⟩) hpl he) hdb)⟩
theorem pg_callK0 (F : FnG X.prog X.w X.K X.mg X.base CX k f fd ps sp) (hn : NoG X.A) (hr : Room k X.A) (hg : Gl X x) (hm : X.mg x = some (.ref f)) (hk : PySem.W.keepIn X.K (.ref f) = true) (hb : KBn X.K fd ps 0 ks g gV) (hx : Passes CX X E) (hkw : PK X kws tk)
    (hall : (backToKw pos (keywordEach kws X.env)).all (·.1.isSome) = true := by rfl) (hks : (backToKw pos (keywordEach kws X.env)).filterMap (·.1) = ks := by rfl) (hdb : (x == ("__debug__" : Str)) = false := by decide)
    (hpl : ((backTo pos (starEach [] X.env)).any (·.1) || (backToKw pos (keywordEach kws X.env)).any (·.1.isNone)) = false := by rfl) :
    PE X (.Call (.Name x p) [] kws pos) (tCallN 0 ks.length sp gV E tNil tk) :=
  ⟨fun pins s σ H Q I h => wpAny_Call_Name_kw (ld_glob I hg hm (PySem.W.callWith_KW0 (h₀ := X.base) I.ok.mod.kin hk hall (thn (hkw.run pos pins s σ H _ I h) fun ws s2 ⟨zs, H2, I2, rz, l1, l2, q2⟩ =>
    ⟨I2.kIn, by rw [hks]; exact F.enter (us := []) hn hr hx I2 (hb.to s2 [] ws I2.kIn rfl (rz.length.symm.trans l2)) (hb.rel (vs := []) .nil rz) q2⟩) hpl) hdb)⟩
/-- keywords in the parameters' order, no defaults -/
theorem FunD.kbA {K : PySem.W.Frag} {x qual : Str} {params : Arguments} {body : List Stmt} {scope : Scope} {kws : List (Str × V)} {f : Addr} {fd : FuncData} {ps ks : List Str} (F : FunD K x qual params body scope [] kws f fd) (n : Nat)
    (h : ∀ (kV doc pm : Value) (an : Option Addr) (cdv ct : Value) (us ws : List Value), us.length = n → ws.length = ks.length → bindArgs (PySem.W.fnOf x qual params body scope .none kV doc pm an cdv ct) ⟨us, ks.zip ws⟩ = pure (ps.zip (us ++ ws))) :
    KBn K fd ps n ks (fun us ws => us ++ ws) (fun vs zs => vs ++ zs) := by
  obtain ⟨oc, od, dV, kV, doc, pm, an, cdv, ct, osl, rfl, lk, hcd, hD, hK⟩ := F.ex
  refine ⟨fun s us ws _ l1 l2 => ?_, fun r1 r2 => r1.append r2⟩
  rcases hD with ⟨_, rfl⟩ | ⟨e, _⟩
  · exact .of_eq (h kV doc pm an cdv ct us ws l1 l2)
  · exact absurd rfl e
end
/-! ### readings of defs -/
abbrev FF := List SV → SH → Out SV
/-- the promise: what fe says. WF: what is wanted of exceptions -/
def spF (G : Gd) (WF : XK → XW) (n : Nat) (fe : FF) : Sp := fun vs H Q E => ∃ ρ h xs, RepL G ρ H xs vs ∧ Sim G ρ h H ∧ xs.length = n ∧ Good G (WF E) ρ H (fe xs h) (RQ G Q)
def startS (n : Nat) (xs : List SV) : Sl := xs.map some ++ List.replicate (n - xs.length) none
def fBody (n : Nat) (b : FS) : FF := fun xs h => (b (startS n xs) h).bind fun fl h => match fl with
  | .rt v => .ok v h
  | .nx _ => .ok .non h
  | _ => .bad
theorem env_start {G : Gd} {ρ : Rho} {H : Hp} {N : List Str} {xs : List SV} {vs : List V} (r : RepL G ρ H xs vs) : EnvR G ρ H (startS N.length xs) (L2.start N vs) := by
  have hl := r.length
  refine ⟨by simp [startS, L2.start, hl], fun i v q => ?_⟩
  unfold startS at q
  by_cases hi : i < xs.length
  · rw [List.getElem?_append_left (by simpa using hi), List.getElem?_map] at q
    cases e : xs[i]? with
    | none => rw [e] at q; cases q
    | some a =>
      rw [e] at q; cases q
      obtain ⟨v', h1, h2⟩ := r.get e
      refine ⟨v', ?_, h2⟩
      unfold L2.start
      rw [List.getElem?_append_left (by rw [List.length_map, ← hl]; exact hi), List.getElem?_map, h1]
      rfl
  · rw [List.getElem?_append_right (by simpa using hi), List.getElem?_replicate] at q
    split at q <;> cases q
section
variable {P : Program} {w : World} {K : PySem.W.Frag} {mg : Str → Option Value} {base : Heap} {CX : CXT} {k : Nat} {f : Addr} {G : Gd} {WF : XK → XW}
theorem FunD.okE {x qual : Str} {params : Arguments} {body : List Stmt} {scope : Scope} {dvs : List V} {kws : List (Str × V)} {fd : FuncData} {N ps : List Str} {fb : FS} {m nps : Nat} (F : FunD K x qual params body scope dvs kws f fd) (S : FnScope N ps scope) (hm : N.length = m) (hps : ps.length = nps)
    (body_ok : ∀ (cdv : Value) (A : Around) (outer : List Env) (s : Shared) (H : Hp) (E : XK), NoG (A.deeper (envOfC qual scope s.heap.objs.size f cdv)) → Room k (A.deeper (envOfC qual scope s.heap.objs.size f cdv)) →
      PSs (cxOf CX P w K mg base N qual scope f cdv A outer s H E) body (tS G (WF E) fb)) : FnG P w K mg base CX (k + 1) f fd ps (spF G WF nps (fBody m fb)) := by
  subst hm hps
  refine FunD.okG F S (fun vs H Q E ⟨ρ, h, xs, r, _, l, _⟩ => r.length.symm.trans l) fun cdv A outer s H vs Q E hn hr ⟨ρ, h, xs, r, s1, l, g⟩ => ⟨_, body_ok cdv A outer s H E hn hr, ρ, startS N.length xs, h, env_start r, s1, ?_⟩
  refine g.bind fun fl h1 ρ1 H1 e1 s2 f1 g1 => ?_
  cases fl with
  | nx η => exact fun σ _ => g1.here s2 _ .non
  | rt v => exact Good.here (W := WF E) s2 g1
  | bk η => exact g1.elim
  | ct η => exact g1.elim
end
section
variable {X : Cx} {CX : CXT} {k : Nat} {f : Addr} {fd : FuncData} {ps ks : List Str} {E : XK} {x : Str} {p pos : Pos} {e : Expr} {es : List Expr} {kws : List Keyword} {G : Gd} {WF : XK → XW} {n : Nat} {fe : FF} {fa fk : FA}
def fCall (n : Nat) (fe : FF) (a : FA) : F := fun η h => (a η h).bind fun xs h => if xs.length = n then fe xs h else .bad
theorem call_imp {W : XW} (hW : WF E = W) {σ : L2.St} {H : Hp} {Q : VK} (t : tE G W (fCall n fe fa) σ H Q) : tCall (spF G WF n fe) [] E (tA G W fa) σ H Q := by
  obtain ⟨ρ, η, h, r, s, g⟩ := t
  refine ⟨ρ, η, h, r, s, g.bind fun xs h1 ρ1 H1 e1 s1 f1 g1 xs' rx => ?_⟩
  by_cases c : xs.length = n
  · rw [if_pos c] at g1
    exact ⟨ρ1, h1, xs, by rw [List.append_nil]; exact rx, s1, c, by rw [hW]; exact g1⟩
  · rw [if_neg c] at g1; exact g1.elim
theorem e_call {W : XW} (hW : WF E = W) (F : FnG X.prog X.w X.K X.mg X.base CX k f fd ps (spF G WF n fe)) (hn : NoG X.A) (hr : Room k X.A) (hg : Gl X x) (hm : X.mg x = some (.ref f)) (hk : PySem.W.keepIn X.K (.ref f) = true) (hb : Binds X.K fd ps []) (hx : Passes CX X E) (ha : PA X (e :: es) (tA G W fa))
    (hdb : (x == ("__debug__" : Str)) = false := by decide) (he : starEach (e :: es) X.env = (false, eval e X.env) :: starEach es X.env := by rfl) (hpl : (backTo pos (starEach es X.env)).any (·.1) = false := by rfl) :
    PE X (.Call (.Name x p) (e :: es) [] pos) (tE G W (fCall n fe fa)) := (pg_call F hn hr hg hm hk hb .nil hx ha hdb he hpl).impX fun _ _ _ t => call_imp hW t
theorem e_call0 {W : XW} (hW : WF E = W) (F : FnG X.prog X.w X.K X.mg X.base CX k f fd ps (spF G WF n fe)) (hn : NoG X.A) (hr : Room k X.A) (hg : Gl X x) (hm : X.mg x = some (.ref f)) (hk : PySem.W.keepIn X.K (.ref f) = true) (hb : Binds X.K fd ps []) (hx : Passes CX X E)
    (hdb : (x == ("__debug__" : Str)) = false := by decide) : PE X (.Call (.Name x p) [] [] pos) (tE G W (fCall n fe faN)) := (pg_call0 F hn hr hg hm hk hb .nil hx hdb).impX fun σ H Q t => by
  obtain ⟨ρ, η, h, r, s, g⟩ := t
  unfold fCall faN at g
  simp only [bind_ok] at g
  by_cases c : ([] : List SV).length = n
  · rw [if_pos c] at g
    exact ⟨ρ, h, [], .nil, s, c, by rw [hW]; exact g⟩
  · rw [if_neg c] at g; exact g.elim
/-- keyword values -/
def tK (G : Gd) (W : XW) (f : FA) : TA := tA G W f
theorem _root_.L2.PK.impX {X : Cx} {e : List Keyword} {t t' : TA} (p : PK X e t) (i : ∀ σ H Q, t' σ H Q → t σ H Q) : PK X e t' := ⟨fun pos pins s σ H Q I q => p.run pos pins s σ H Q I (i σ H Q q)⟩
theorem k_nil {W : XW} : PK X [] (tA G W faN) := pk_nil.impX fun σ H Q ⟨ρ, η, h, r, s, g⟩ => g.here s _ .nil
theorem k_cons {W : XW} {nm : Option Str} {kpos : Pos} {fe : F} {fr : FA} (ha : PE X e (tE G W fe)) (hr : PK X kws (tA G W fr)) : PK X (⟨nm, e, kpos⟩ :: kws) (tA G W (faC fe fr)) :=
  (pk_cons ha hr).impX fun σ H Q ⟨ρ, η, h, r, s, g⟩ => by
    refine ⟨ρ, η, h, r, s, g.bind fun x h1 ρ1 H1 e1 s1 f1 g1 x' rx => ?_⟩
    refine ⟨ρ1, η, h1, r.mono e1 f1, s1, g1.bind fun xs h2 ρ2 H2 e2 s2 f2 g2 xs' rxs => ?_⟩
    exact g2.here s2 _ (.cons (rx.mono e2.sub f2) rxs)
/-- f(a, .., x = b, ..): n1 positional, n2 keywords in the parameters' order -/
def fCallK (n1 n2 n : Nat) (fe : FF) (a b : FA) : F := fun η h => (a η h).bind fun xs h => (b η h).bind fun ys h => if xs.length = n1 ∧ ys.length = n2 ∧ (xs ++ ys).length = n then fe (xs ++ ys) h else .bad
theorem callK_imp {W : XW} (hW : WF E = W) {n1 n2 : Nat} {σ : L2.St} {H : Hp} {Q : VK} (t : tE G W (fCallK n1 n2 n fe fa fk) σ H Q) : tCallN n1 n2 (spF G WF n fe) (fun vs zs => vs ++ zs) E (tA G W fa) (tA G W fk) σ H Q := by
  obtain ⟨ρ, η, h, r, s, g⟩ := t
  refine ⟨ρ, η, h, r, s, g.bind fun xs h1 ρ1 H1 e1 s1 f1 g1 xs' rx => ?_⟩
  refine ⟨ρ1, η, h1, r.mono e1 f1, s1, g1.bind fun ys h2 ρ2 H2 e2 s2 f2 g2 ys' ry => ?_⟩
  by_cases c : xs.length = n1 ∧ ys.length = n2 ∧ (xs ++ ys).length = n
  · rw [if_pos c] at g2
    exact ⟨rx.length.symm.trans c.1, ry.length.symm.trans c.2.1, ρ2, h2, xs ++ ys, (rx.mono e2.sub f2).append ry, s2, c.2.2, by rw [hW]; exact g2⟩
  · rw [if_neg c] at g2; exact g2.elim
theorem e_callK {W : XW} (hW : WF E = W) {n1 : Nat} (F : FnG X.prog X.w X.K X.mg X.base CX k f fd ps (spF G WF n fe)) (hn : NoG X.A) (hr : Room k X.A) (hg : Gl X x) (hm : X.mg x = some (.ref f)) (hk : PySem.W.keepIn X.K (.ref f) = true) (hb : KBn X.K fd ps n1 ks (fun us ws => us ++ ws) (fun vs zs => vs ++ zs)) (hx : Passes CX X E)
    (ha : PA X (e :: es) (tA G W fa)) (hkw : PK X kws (tA G W fk))
    (hall : (backToKw pos (keywordEach kws X.env)).all (·.1.isSome) = true := by rfl) (hks : (backToKw pos (keywordEach kws X.env)).filterMap (·.1) = ks := by rfl) (hdb : (x == ("__debug__" : Str)) = false := by decide)
    (he : starEach (e :: es) X.env = (false, eval e X.env) :: starEach es X.env := by rfl) (hpl : ((backTo pos (starEach (e :: es) X.env)).any (·.1) || (backToKw pos (keywordEach kws X.env)).any (·.1.isNone)) = false := by rfl) :
    PE X (.Call (.Name x p) (e :: es) kws pos) (tE G W (fCallK n1 ks.length n fe fa fk)) := (pg_callK F hn hr hg hm hk hb hx ha hkw hall hks hdb he hpl).impX fun _ _ _ t => callK_imp hW t
theorem e_callK0 {W : XW} (hW : WF E = W) (F : FnG X.prog X.w X.K X.mg X.base CX k f fd ps (spF G WF n fe)) (hn : NoG X.A) (hr : Room k X.A) (hg : Gl X x) (hm : X.mg x = some (.ref f)) (hk : PySem.W.keepIn X.K (.ref f) = true) (hb : KBn X.K fd ps 0 ks (fun us ws => us ++ ws) (fun vs zs => vs ++ zs)) (hx : Passes CX X E)
    (hkw : PK X kws (tA G W fk))
    (hall : (backToKw pos (keywordEach kws X.env)).all (·.1.isSome) = true := by rfl) (hks : (backToKw pos (keywordEach kws X.env)).filterMap (·.1) = ks := by rfl) (hdb : (x == ("__debug__" : Str)) = false := by decide)
    (hpl : ((backTo pos (starEach [] X.env)).any (·.1) || (backToKw pos (keywordEach kws X.env)).any (·.1.isNone)) = false := by rfl) :
    PE X (.Call (.Name x p) [] kws pos) (tE G W (fCallK 0 ks.length n fe faN fk)) := (pg_callK0 F hn hr hg hm hk hb hx hkw hall hks hdb hpl).impX fun σ H Q t => by
  obtain ⟨ρ, η, h, r, s, g⟩ := t
  have g : Good G W ρ H ((fk η h).bind fun ys h => if ([] : List SV).length = 0 ∧ ys.length = ks.length ∧ ([] ++ ys).length = n then fe ([] ++ ys) h else .bad) (RQ G Q) := g
  refine ⟨ρ, η, h, r, s, g.bind fun ys h2 ρ2 H2 e2 s2 f2 g2 ys' ry => ?_⟩
  by_cases c : ([] : List SV).length = 0 ∧ ys.length = ks.length ∧ ([] ++ ys).length = n
  · rw [if_pos c] at g2
    exact ⟨rfl, ry.length.symm.trans c.2.1, ρ2, h2, ys, ry, s2, c.2.2, by rw [hW]; exact g2⟩
  · rw [if_neg c] at g2; exact g2.elim
end
/-! ### the head -/
theorem walkG {l : PySem.W.OpenLaw} {n k : Nat} {q : Program} {loose : List Str} {XP : (Str → Option Value) → Heap → Prop} {YP : World → Heap → Prop} {d : DefRec} {x : Str} (hn : l.most = some n) (hn2 : n ≤ sizeLine) (hdf : d.params.defaults = []) (hr : Room k callerA)
    (F : ∀ (w : World) (mg : Str → Option Value) (fa : Addr) (h : Heap), YP w h → h.Ns mainGlobals mg → mg d.name = some (.ref fa) → ∃ (K : PySem.W.Frag) (fd : FuncData) (sp : Sp), K.In h ∧ (∀ (s : Shared) (u : Value), BindsTo s fd ⟨[u], []⟩ [(x, u)]) ∧
      (∀ (H : Hp) (a : Addr) (ns : List Int), ns.length ≤ n → Only H → SqL K H a (ns.map V.int) → sp [.ref a] H (fun v _ => v = .bl true) fun _ _ _ => False) ∧ ∀ base : Heap, K.In base → base.Ns mainGlobals mg → FnG l.prog w K mg base CX0 k fa fd [x] sp) :
    PySem.W.WalkO q loose XP YP l.row.toRowW d [] (fun f vs => PySem.call f vs) := by
  refine Att.attach_call hn hdf fun w s₀ s₁ mg mb fa o pm cd doc a vs ns Gr Y ho hd hcd hmg hobj hints hlen hgen => ?_
  obtain ⟨K, fd, sp, KX, hb, hsp, hF⟩ := F w mg fa _ Y Gr.T.g hmg
  have rv := vals_ints hints
  have hl : ns.length ≤ sizeLine := Nat.le_trans hlen hn2
  -- the heap that is looked at: the script at most
  obtain ⟨H, hA, hO, hS, hok, hK⟩ : ∃ H : Hp, (∀ b, b ≠ a → H b = none) ∧ Only H ∧ SqL K H a (ns.map V.int) ∧ HOk l.prog w H s₁.heap ∧ ∀ b o, K.lookup b = some o → H b = none := by
    cases hk : K.lookup a with
    | some o =>
      have e := KX a o hk
      rw [hobj] at e
      cases e
      exact ⟨fun _ => none, fun _ _ => rfl, fun _ => .inl rfl, .inr ⟨_, vs.toArray, _, hk, rfl, rfl, rfl, by rw [List.size_toArray, hints.length]; exact hl, by simpa using rv⟩, fun b u z => (nomatch z), fun _ _ _ => rfl⟩
    | none =>
      have me : (if a = a then some (HO.frz { cls := .type "list", data := .seq vs.toArray } (.lst (ns.map V.int))) else none) = some (HO.frz { cls := .type "list", data := .seq vs.toArray } (.lst (ns.map V.int))) := if_pos rfl
      refine ⟨fun b => if b = a then some (.frz { cls := .type "list", data := .seq vs.toArray } (.lst (ns.map V.int))) else none, fun b hb => if_neg hb, fun b => ?_, .inl (.inr ⟨_, me⟩), fun b u z => ?_, fun b o hb => if_neg fun e => ?_⟩
      · rcases Classical.em (b = a) with e | e
        · exact .inr ⟨_, _, if_pos e⟩
        · exact .inl (if_neg e)
      · rcases Classical.em (b = a) with e | e
        · subst e
          cases me.symm.trans z
          exact ⟨hobj, by rw [List.length_map]; exact hl, vs, _, rv, hobj⟩
        · cases (if_neg e).symm.trans z
      · rw [e, hk] at hb; cases hb
  have seen : ∀ {b o}, s₁.heap.get? b = some o → H b = none → (hidT s₁.heap H).get? b = some o := fun e z => hidT_get e z
  have nsT : ∀ {b : Addr} {m : Str → Option Value}, s₁.heap.Ns b m → (hidT s₁.heap H).Ns b m := fun {b m} ⟨o, es, ep, e, d, r⟩ => ⟨o, es, ep, seen e (hA b fun z => by
    rw [z, hobj] at e
    cases e
    cases d), d, r⟩
  have KH : K.In (hidT s₁.heap H) := fun b o z => seen (KX b o z) (hK b o z)
  obtain ⟨mc, c1, c2⟩ := Gr.T.nolimit
  have e0 : Env0 l.prog w K mg (hidT s₁.heap H) callerA [] s₁ H := ⟨rfl, ⟨KH, nsT Gr.T.g, ⟨mb, nsT Gr.T.b, Gr.T.builtins⟩, mc, nsT c1, c2⟩, fun _ _ e => of_hidT e, Nat.le_of_eq (hidT_size _ _), trivial, fun _ z => (nomatch z), hok, .of_eq hgen⟩
  refine codeAny_mono ((hF _ KH (nsT Gr.T.g)).go rfl hr e0 (hb s₁ (.ref a)) (us := [.ref a]) (vs := [.ref a]) (.cons rfl .nil) (hsp H a ns hlen hO hS)) fun r s' z => ?_
  rcases r with e | fl
  · exact z.elim
  rcases fl with _ | _ | _ | u
  · exact z.elim
  · exact z.elim
  · exact z.elim
  · obtain ⟨v, H', os, bare, un, hok', rv', rfl⟩ := z
    cases (show u = Value.bool true from rv')
    refine ⟨rfl, OldK.of_keep fun b o z => ?_, os, bare⟩
    rcases hO b with q | ⟨ob, xs, q⟩
    · exact un.keep b o z q (fun y => (nomatch y)) (by simp)
    · have e1 := (hok b _ q).1
      rw [z] at e1
      cases e1
      exact (hok' b _ (un.frzs b o _ q)).1
end Fv
/-! Ev9: displays of dicts; names of the module. -/
namespace Fv
open PySem PySem.Spec PyProof.Rows L2
section
variable {X : Cx} {G : Gd} {W : XW} {pos : Pos}
def putS : List (SV × SV) → SV → SV → List (SV × SV)
  | [], k, v => [(k, v)]
  | (a, b) :: r, k, v => if eqKS a k = true then (a, v) :: r else (a, b) :: putS r k v
/-- no key stands twice -/
def KeysOk (ks : List (Key × V)) : Prop := (ks.map (·.1)).Nodup
theorem putK_cons_eq {p : Key × V} {r : List (Key × V)} {k : Key} {v : V} (n : KeysOk (p :: r)) (e : p.1 = k) : putK (p :: r) k v = (p.1, v) :: r := by
  unfold putK
  have h1 : ((p :: r).any fun kv => decide (kv.1 = k)) = true := by simp [e]
  rw [if_pos h1, List.map_cons, if_pos e]
  congr 1
  refine (List.map_congr_left fun q hq => if_neg fun z => ?_).trans (List.map_id r)
  exact (List.nodup_cons.mp n).1 (by show p.1 ∈ _; rw [e, ← z]; exact List.mem_map_of_mem hq)
theorem putK_cons_ne {p : Key × V} {r : List (Key × V)} {k : Key} {v : V} (e : p.1 ≠ k) : putK (p :: r) k v = p :: putK r k v := by
  unfold putK
  have h1 : ((p :: r).any fun kv => decide (kv.1 = k)) = (r.any fun kv => decide (kv.1 = k)) := by simp [e]
  rw [h1]
  by_cases c : (r.any fun kv => decide (kv.1 = k)) = true
  · rw [if_pos c, if_pos c, List.map_cons, if_neg e]
  · rw [if_neg c, if_neg c]; rfl
theorem putK_keys {k : Key} {v : V} : ∀ {r : List (Key × V)}, KeysOk r → KeysOk (putK r k v) ∧ ∀ q ∈ (putK r k v).map (·.1), q = k ∨ q ∈ r.map (·.1)
  | [], _ => ⟨by simp [putK, KeysOk], fun q hq => by simpa [putK] using hq⟩
  | p :: r, n => by
    have n' : KeysOk r := (List.nodup_cons.mp n).2
    by_cases e : p.1 = k
    · rw [putK_cons_eq n e]
      exact ⟨n, fun q hq => .inr hq⟩
    · rw [putK_cons_ne e]
      obtain ⟨h1, h2⟩ := putK_keys (v := v) n'
      refine ⟨List.nodup_cons.mpr ⟨fun z => ?_, h1⟩, fun q hq => ?_⟩
      · rcases h2 _ z with y | y
        · exact e y
        · exact (List.nodup_cons.mp n).1 y
      · rcases List.mem_cons.mp hq with y | y
        · exact .inr (List.mem_cons.mpr (.inl y))
        · exact (h2 q y).imp id fun z => List.mem_cons_of_mem _ z
theorem putS_ok {ρ : Rho} {H : Hp} {x y : SV} {k : Key} {v : V} (rx : Rep G ρ H x (kV k)) (ry : Rep G ρ H y v) : ∀ {kvs : List (SV × SV)} {ks : List (Key × V)}, RepP G ρ H kvs ks → KeysOk ks → RepP G ρ H (putS kvs x y) (putK ks k v)
  | [], [], _, _ => ⟨rx, ry, trivial⟩
  | (a, b) :: r, (a', b') :: r', ⟨h1, h2, h3⟩, n => by
    have q := eqKS_ok h1 rx
    unfold putS
    by_cases z : a' = k
    · rw [decide_eq_true z] at q
      rw [if_pos q, putK_cons_eq n z]
      exact ⟨h1, ry, h3⟩
    · rw [decide_eq_false z] at q
      rw [if_neg (by rw [q]; exact Bool.false_ne_true), putK_cons_ne z]
      exact ⟨h1, h2, putS_ok rx ry h3 (List.nodup_cons.mp n).2⟩
def mergeS (kvs more : List (SV × SV)) : List (SV × SV) := more.foldl (fun acc kv => putS acc kv.1 kv.2) kvs
theorem mergeS_ok {ρ : Rho} {H : Hp} : ∀ {more : List (SV × SV)} {ms : List (Key × V)} {kvs : List (SV × SV)} {ks : List (Key × V)}, RepP G ρ H more ms → RepP G ρ H kvs ks → KeysOk ks → RepP G ρ H (mergeS kvs more) (mergeK ks ms)
  | [], [], _, _, _, r, _ => r
  | (a, b) :: m, (a', b') :: m', _, _, ⟨h1, h2, h3⟩, r, n => mergeS_ok (more := m) (ms := m') h3 (putS_ok h1 h2 r n) (putK_keys n).1
abbrev FPs := Sl → SH → Out (List (SV × SV))
def fPairs : List (F × F) → FPs
  | [] => fun _ h => .ok [] h
  | (a, b) :: r => fun η h => (a η h).bind fun x h => (b η h).bind fun y h => (fPairs r η h).bind fun ps h => .ok ((x, y) :: ps) h
def trOf (G : Gd) (W : XW) (l : List (F × F)) : List (TE × TE) := l.map fun p => (tE G W p.1, tE G W p.2)
def RepVV (G : Gd) (ρ : Rho) (H : Hp) : List (SV × SV) → List (V × V) → Prop
  | [], [] => True
  | (k, x) :: r, (k', v) :: r' => Rep G ρ H k k' ∧ Rep G ρ H x v ∧ RepVV G ρ H r r'
  | _, _ => False
theorem pairs_imp : ∀ {l : List (F × F)} {ρ : Rho} {η : Sl} {h : SH} {σ : L2.St} {H : Hp} {Q : List (V × V) → Hp → Prop}, EnvR G ρ H η σ → Sim G ρ h H → Good G W ρ H (fPairs l η h) (fun ps ρ' H' => ∀ vs, RepVV G ρ' H' ps vs → Q vs H') → tPairs (trOf G W l) σ H Q
  | [], ρ, η, h, σ, H, Q, r, s, g => Good.here s g [] trivial
  | (a, b) :: l, ρ, η, h, σ, H, Q, r, s, g => by
    refine ⟨ρ, η, h, r, s, Good.bind g fun x h1 ρ1 H1 e1 s1 f1 g1 x' rx => ?_⟩
    refine ⟨ρ1, η, h1, r.mono e1 f1, s1, g1.bind fun y h2 ρ2 H2 e2 s2 f2 g2 y' ry => ?_⟩
    have r2 := (r.mono e1 f1).mono e2 f2
    refine pairs_imp (l := l) r2 s2 (g2.bind fun ps h3 ρ3 H3 e3 s3 f3 g3 vs rp => ?_)
    exact g3.here s3 ((x', y') :: vs) ⟨(rx.mono e2.sub f2).mono e3.sub f3, ry.mono e3.sub f3, rp⟩
theorem pairs_split {ρ : Rho} {H : Hp} : ∀ {ps : List (SV × SV)} {vs : List (V × V)}, RepVV G ρ H ps vs → (ps.all fun p => isKS p.1) = true → ∃ kvs : List (Key × V), vs = kvs.map (fun kv => (kV kv.1, kv.2)) ∧ RepP G ρ H ps kvs
  | [], [], _, _ => ⟨[], rfl, trivial⟩
  | (k, x) :: r, (k', v) :: r', ⟨h1, h2, h3⟩, c => by
    simp only [List.all_cons, Bool.and_eq_true] at c
    obtain ⟨kk, rfl⟩ := key_of h1 c.1
    obtain ⟨kvs, rfl, rp⟩ := pairs_split h3 c.2
    exact ⟨(kk, v) :: kvs, rfl, h1, h2, rp⟩
def fDisp (l : List (F × F)) : F := fun η h => (fPairs l η (h.new (.dic []))).bind fun ps h2 => match h2.get h.nx with
  | some (.dic []) => if ((ps.all fun p => isKS p.1) && decide (ps.length ≤ 15)) = true then .ok (.loc h.nx) (h2.set h.nx (.dic (mergeS [] ps))) else .bad
  | _ => .bad
theorem repO_dic {ρ : Rho} {H : Hp} {h : SH} {p : Addr} (s : Sim G ρ h H) (hp : H p = none) : RepO G (radd ρ h.nx p) (upd H p (.dK [])) p (.dic []) := ⟨[], upd_same, trivial⟩
theorem e_disp {keys : List (Option Expr)} {values : List Expr} {l : List (F × F)} (hp : PPs X pos keys values (trOf G W l)) (hall : keys.all (·.isSome) = true) (hl : keys.length = values.length) (h0 : keys ≠ []) (h15 : keys.length ≤ 15) : PE X (.Dict keys values pos) (tE G W (fDisp l)) :=
  (pe_disp hp hall hl h0 h15).impX fun σ H Q ⟨ρ, η, h, r, s, g⟩ p hp => by
    have sn := s.new (u := .dK []) (o := .dic []) hp trivial (repO_dic s hp)
    have en := s.extN hp
    have fn : Frm ρ H (upd H p (.dK [])) := frm_new hp
    refine pairs_imp (r.mono en fn) sn (Good.bind (Good.step en fn g) fun ps h2 ρ2 H2 e2 s2 f2 g2 vs rv => ?_)
    have hp2 : ρ2 h.nx = some p := e2.sub _ _ radd_same
    cases q : h2.get h.nx with
    | none => rw [q] at g2; exact g2.elim
    | some o =>
      rw [q] at g2
      cases o with
      | lst _ => exact g2.elim
      | dic kvs0 =>
        cases kvs0 with
        | cons _ _ => exact g2.elim
        | nil =>
          simp only at g2
          by_cases c : ((ps.all fun p => isKS p.1) && decide (ps.length ≤ 15)) = true
          · rw [if_pos c] at g2
            obtain ⟨c1, c2⟩ := Bool.and_eq_true_iff.mp c
            obtain ⟨a', vs', k1, k2, rl⟩ := s2.dic q
            rw [hp2] at k1; cases k1
            have e0 : vs' = [] := by cases vs' with
              | nil => rfl
              | cons _ _ => exact rl.elim
            subst e0
            obtain ⟨kvs, rfl, rp⟩ := pairs_split rv c1
            refine ⟨k2, kvs, rfl, by rw [← rp.length]; exact of_decide_eq_true c2, ?_⟩
            have fu : Frm ρ2 H2 (upd H2 p (.dK (mergeK [] kvs))) := frm_upd (o := .dK []) hp2 (s2.mut hp2)
            exact g2.write (u := .dK (mergeK [] kvs)) s2 hp2 trivial ⟨_, upd_same, mergeS_ok (RepP.mono Sub.refl fu rp) trivial List.nodup_nil⟩ _ (.loc hp2)
          · rw [if_neg c] at g2; exact g2.elim
theorem pp_nil : PPs X pos [] [] (trOf G W []) := pps_nil
theorem pp_cons {k v : Expr} {ks : List (Option Expr)} {vs : List Expr} {fk fv : F} {l : List (F × F)} (hk : PE X k (tE G W fk)) (hv : PE X v (tE G W fv)) (hr : PPs X pos ks vs (trOf G W l)) : PPs X pos (some k :: ks) (v :: vs) (trOf G W ((fk, fv) :: l)) := pps_cons hk hv hr
/-! names of the module -/
theorem e_gint {x : Str} {i : Int} (hg : Gl X x) (hm : ∃ t, X.mg x = some (.int i t)) (hd : (x == ("__debug__" : Str)) = false := by decide) : PE X (.Name x pos) (tE G W (fC (.int i))) := by
  obtain ⟨t, hm⟩ := hm
  exact e_c (pe_glob (v := .int i) hg hm ⟨t, rfl⟩ hd) fun _ _ => .int i
theorem e_gstr {x z : Str} (hg : Gl X x) (hm : ∃ t, X.mg x = some (.str z t)) (hd : (x == ("__debug__" : Str)) = false := by decide) : PE X (.Name x pos) (tE G W (fC (.str z.cps.toList))) := by
  obtain ⟨t, hm⟩ := hm
  exact e_c (pe_glob (v := .str z) hg hm ⟨t, rfl⟩ hd) fun _ _ => by
    obtain ⟨⟨l⟩⟩ := z
    exact .str l
theorem e_gref {x : Str} {v : SV} {a : Addr} (hg : Gl X x) (hm : X.mg x = some (.ref a)) (st : Stat G v (.ref a)) (hd : (x == ("__debug__" : Str)) = false := by decide) : PE X (.Name x pos) (tE G W (fC v)) := e_c (pe_glob (v := .ref a) hg hm rfl hd) st
theorem e_bty {x : Str} (b : BT) (hg : Gl X x) (hm : X.mg x = none) (hv : bootBuiltins x = some (.type b.name)) (hn : x ≠ "__name__" := by decide) (hd : (x == ("__debug__" : Str)) = false := by decide) : PE X (.Name x pos) (tE G W (fC (.ty b))) :=
  e_c (pe_bltn (v := .ty b.name) hg hm hv rfl hn hd) fun _ _ => .ty b
end
end Fv
/-! Ev10: the forms that a printed proof uses. -/
namespace Fv
open PySem PySem.Spec PyProof.Rows L2
section
variable {X : Cx} {G : Gd} {W : XW} {pos p apos cpos : Pos} {x : Str} {e o : Expr} {es : List Expr} {fa : FA} {fo : F} {r : List V → Hp → VK → Prop} {g : GL} {id T : String}
theorem b_fn (cr : CallR X (.builtin id) r) (cg : CaG G W r g) (hv : bootBuiltins x = some (.builtin id)) (hg : Gl X x) (hm : X.mg x = none) (ha : PA X (e :: es) (tA G W fa)) (hn : x ≠ "__name__" := by decide) (hdb : (x == ("__debug__" : Str)) = false := by decide)
    (he : starEach (e :: es) X.env = (false, eval e X.env) :: starEach es X.env := by rfl) (hpl : (backTo pos (starEach es X.env)).any (·.1) = false := by rfl) : PE X (.Call (.Name x p) (e :: es) [] pos) (tE G W (fCa g fa)) :=
  (pe_callB cr hg hm hv ha hn hdb he hpl).impX fun _ _ _ t => cb_imp cg t
theorem b_ty (cr : CallR X (.type T) r) (cg : CaG G W r g) (hv : bootBuiltins x = some (.type T)) (hg : Gl X x) (hm : X.mg x = none) (ha : PA X (e :: es) (tA G W fa)) (hn : x ≠ "__name__" := by decide) (hdb : (x == ("__debug__" : Str)) = false := by decide)
    (he : starEach (e :: es) X.env = (false, eval e X.env) :: starEach es X.env := by rfl) (hpl : (backTo pos (starEach es X.env)).any (·.1) = false := by rfl) : PE X (.Call (.Name x p) (e :: es) [] pos) (tE G W (fCa g fa)) :=
  (pe_callTy cr hg hm hv ha hn hdb he hpl).impX fun _ _ _ t => cb_imp cg t
theorem m_list {nm : Str} {rm : V → List V → Hp → VK → Prop} {gm : SV → List SV → SH → Out SV} (hK : X.K = G.K) (slot : Slot "list" nm id) (hty : typeOf (.builtin id) = pure (.type "method_descriptor")) (hm : MtR X id rm) (mg : MtG G W "list" rm gm) (ho : PE X o (tE G W fo)) (ha : PA X (e :: es) (tA G W fa))
    (hbase : attributeBase o nm X.env (eval o X.env) = eval o X.env := by rfl)
    (hfew : ((backTo cpos (starEach (e :: es) X.env)).all (fun x => !x.1) && (backToKw cpos (keywordEach [] X.env)).all (fun x => x.1.isSome) && decide ((e :: es).length + ([] : List Keyword).length + (if ([] : List Keyword).isEmpty then 0 else 1) < 30)) = true := by rfl)
    (hline : (apos.endLine == cpos.line) = true := by rfl) (hs : starEach (e :: es) X.env = (false, eval e X.env) :: starEach es X.env := by rfl) (hplain : (backTo cpos (starEach es X.env)).any (·.1) = false := by rfl) :
    PE X (.Call (.Attribute o nm apos) (e :: es) [] cpos) (tE G W (fMt "list" gm fo fa)) :=
  (pe_bm PySem.F.plainAttrs_list slot hty hm ho ha hbase hfew hline hs hplain).impX fun _ _ _ t => hK ▸ bm_imp mg t
theorem m_list0 {nm : Str} {rm : V → List V → Hp → VK → Prop} {gm : SV → List SV → SH → Out SV} (hK : X.K = G.K) (slot : Slot "list" nm id) (hty : typeOf (.builtin id) = pure (.type "method_descriptor")) (hm : MtR X id rm) (mg : MtG G W "list" rm gm) (ho : PE X o (tE G W fo))
    (hbase : attributeBase o nm X.env (eval o X.env) = eval o X.env := by rfl) (hline : (apos.endLine == cpos.line) = true := by rfl) :
    PE X (.Call (.Attribute o nm apos) [] [] cpos) (tE G W (fMt "list" gm fo faN)) :=
  (pe_bm0 PySem.F.plainAttrs_list slot hty hm ho hbase hline).impX fun _ _ _ t => hK ▸ bm0_imp mg t
def gIsi1 : GL := fun xs h => match xs with | [_, .ty _] => gIsi xs h | _ => .bad
theorem cg_isi1 : CaG G W (rIsi G.K) gIsi1 := cg_isi
/-- products of ints; a list, again and again -/
def gMulU : G2 := fun x y h => match lstOf h x, y with
  | some xs, .int k => if (decide (0 ≤ k) && (decide (k ≤ 16777216) && decide (xs.length * k.toNat ≤ sizeLine))) = true then .ok (.loc h.nx) (h.new (.lst (List.replicate k.toNat xs).flatten)) else .bad
  | some _, _ => .bad
  | none, y => gMul x y h
theorem RepL.rep {ρ : Rho} {H : Hp} {xs : List SV} {vs : List V} (r : RepL G ρ H xs vs) : ∀ n : Nat, RepL G ρ H (List.replicate n xs).flatten (List.replicate n vs).flatten
  | 0 => .nil
  | n + 1 => by
    rw [List.replicate_succ, List.replicate_succ, List.flatten_cons, List.flatten_cons]
    exact r.append (RepL.rep r n)
def rMulU : R2 := fun x y H Q => rI CMul (fun i j => .int (i * j)) x y H Q ∨ rRep x y H Q
theorem op_mulU : OpR X (binaryOp .Mult) rMulU := .or op_mul op_rep
theorem og_mulU : OpG G W rMulU gMulU := by
  intro ρ h H x y x' y' Q s rx ry g
  unfold gMulU at g
  cases q : lstOf h x with
  | none => rw [q] at g; exact .inl (og_mul ρ h H _ _ _ _ Q s rx ry g)
  | some xs =>
    rw [q] at g
    cases ry with
    | int k =>
      simp only at g
      by_cases c : (decide (0 ≤ k) && (decide (k ≤ 16777216) && decide (xs.length * k.toNat ≤ sizeLine))) = true
      · rw [if_pos c] at g
        simp only [Bool.and_eq_true, decide_eq_true_eq] at c
        obtain ⟨a, vs, rfl, h2, rl⟩ := lstOf_ok s rx q
        refine .inr ⟨a, k, vs, rfl, rfl, h2, by omega, by omega, by rw [← rl.length]; exact c.2.2, fun p hp => ?_⟩
        exact g.new (u := .lst (List.replicate k.toNat vs).flatten) (o := .lst (List.replicate k.toNat xs).flatten) s hp trivial (repO_lst s hp (rl.rep _)) _ (.loc radd_same)
      · rw [if_neg c] at g; exact g.elim
    | _ => exact g.elim
def gAddI : G2 := fun x y h => match x, y with
  | .int i, .int j => .ok (.int (i + j)) h
  | _, _ => .bad
theorem og_addI : OpG G W (rI0 fun i j => .int (i + j)) gAddI := by
  intro ρ h H x y x' y' Q s rx ry g
  cases rx with
  | int i => cases ry with
    | int j => exact ⟨i, j, rfl, rfl, g.here s _ (.int _)⟩
    | _ => exact g.elim
  | _ => exact g.elim
theorem units_of {k : Nat} {A : Around} (hr : Room k A) : A.units + 64 < cLine := hr.units
theorem units1_of {k : Nat} {A : Around} (hr : Room k A) : A.units + 1 < cLine := by have := hr.units; omega
theorem units66_of {k : Nat} {A : Around} (hr : Room k A) : A.units + 66 < cLine := by have := hr.un; omega
theorem cr_repr {k : Nat} (hn : NoG X.A) (hr : Room k X.A) : CallR X (.builtin "repr") (rReprU X.K) := call_reprU hn (units66_of hr)
theorem mt_popU : MtR X "list.pop" (fun x vs H Q => rPop x vs H Q ∨ rPopAt x vs H Q) := MtR.or mt_pop mt_popAt
end
/-! ### facts of the text -/
structure Fx (fa : List He.Fa) (fn : List He.DefD) (K : PySem.W.Frag) (mg : Str → Option Value) : Prop where
  ok : He.SaysD fa fn K
  glo : ∀ x, (He.Fa.glo x).ok K = true → mg x = some (.ref (He.ga K x))
  free : ∀ x, (He.Fa.free x).ok K = true → mg x = none
  int : ∀ x i, (He.Fa.int x i).ok K = true → ∃ t, mg x = some (.int i t)
  str : ∀ x z, (He.Fa.str x z).ok K = true → ∃ t, mg x = some (.str z t)
theorem Fx.of {fa : List He.Fa} {fn : List He.DefD} {K : PySem.W.Frag} {h : Heap} {mg : Str → Option Value} (X : K.In h) (G : h.Ns mainGlobals mg) (c : He.SaysD fa fn K) : Fx fa fn K mg :=
  ⟨c, fun _ => He.glo_ok X G, fun _ => He.free_ok X G, fun _ _ => He.int_ok X G, fun _ _ => He.str_ok X G⟩
section
variable {fa : List He.Fa} {fn : List He.DefD} {K : PySem.W.Frag} {mg : Str → Option Value}
theorem Fx.g (T : Fx fa fn K mg) (i : Nat) {x : Str} (h : fa[i]? = some (.glo x) := by rfl) : mg x = some (.ref (He.ga K x)) := T.glo x (T.ok.fact i h)
theorem Fx.f (T : Fx fa fn K mg) (i : Nat) {x : Str} (h : fa[i]? = some (.free x) := by rfl) : mg x = none := T.free x (T.ok.fact i h)
theorem Fx.s (T : Fx fa fn K mg) (i : Nat) {x z : Str} (h : fa[i]? = some (.str x z) := by rfl) : ∃ t, mg x = some (.str z t) := T.str x z (T.ok.fact i h)
theorem Fx.n (T : Fx fa fn K mg) (i : Nat) {x : Str} {z : Int} (h : fa[i]? = some (.int x z) := by rfl) : ∃ t, mg x = some (.int z t) := T.int x z (T.ok.fact i h)
end
/-- a def that can be called by its name -/
structure Cal (P : Program) (w : World) (K : PySem.W.Frag) (mg : Str → Option Value) (base : Heap) (CX : CXT) (k : Nat) (x : Str) (ps : List Str) (sp : Sp) (params : Arguments) (body : List Stmt) (scope : Scope) (f : Addr) (fd : FuncData) : Prop where
  F : FunD K x x params body scope [] [] f fd
  m : mg x = some (.ref f)
  b : Binds K fd ps []
  ok : FnG P w K mg base CX k f fd ps sp
/-- a tuple of the module, its items texts -/
theorem stat_tup {G : Gd} {a : Addr} {xs : List SV} {vs : List V} (h : ∀ H, SqT G.K H a vs) (r : ∀ ρ H, RepL G ρ H xs vs) : Stat G (.tup xs) (.ref a) := fun ρ H => .tup (h H) (r ρ H)
end Fv
namespace Fv
open PySem PySem.Spec PyProof.Rows L2
def h00 : SH := ⟨[]⟩
theorem repL_ints {G : Gd} {ρ : Rho} {H : Hp} : ∀ ns : List Int, RepL G ρ H (ns.map SV.int) (ns.map V.int)
  | [] => .nil
  | n :: ns => .cons (.int n) (repL_ints ns)
theorem get_nil (p : Nat) : h00.get p = none := by cases p <;> rfl
/-- the law's promise from what its reading gives -/
theorem sp_script {K : PySem.W.Frag} {γ : Nat → Option Addr} {fe : FF} {ns : List Int} {H : Hp} {a : Addr} (e : ∃ h', fe [.fl (ns.map SV.int)] h00 = .ok (.bl true) h') (hO : Only H) (hS : SqL K H a (ns.map V.int)) :
    spF ⟨K, γ⟩ (fun _ => WN) 1 fe [.ref a] H (fun v _ => v = .bl true) fun _ _ _ => False := by
  obtain ⟨h', e⟩ := e
  have sq : SqF K H a (ns.map V.int) := by
    rcases hS with (z | z) | z
    · rcases hO a with q | ⟨o, xs, q⟩
      · rw [q] at z; cases z
      · rw [q] at z; cases z
    · exact .inl z
    · exact .inr z
  refine ⟨fun _ => none, h00, [.fl (ns.map SV.int)], .cons (.fl sq (repL_ints ns)) .nil, ⟨fun _ _ _ z => (nomatch z), fun _ _ z => (nomatch z), fun _ _ z => (nomatch z), fun p o z => ?_⟩, rfl, ?_⟩
  · rw [get_nil] at z; cases z
  · rw [e]
    intro ρ' H' _ _ _ v r
    cases r with
    | bl b => rfl
end Fv
/-! Ev13: chains, alternatives, texts, while. -/
namespace Fv
open PySem PySem.Spec PyProof.Rows L2
theorem _root_.L2.PE.orX {X : Cx} {e : Expr} {t t' : TE} (p : PE X e t) (p' : PE X e t') : PE X e (fun σ H Q => t σ H Q ∨ t' σ H Q) := ⟨fun pins s σ H Q I q => q.elim (p.run pins s σ H Q I) (p'.run pins s σ H Q I)⟩
section
variable {X : Cx} {G : Gd} {W : XW} {pos p apos cpos : Pos} {x : Str} {e o a b c : Expr} {es : List Expr} {fa fb fc : F} {id T : String}
/-- the first, or the second where the first knows nothing -/
def fAlt (f g : F) : F := fun η h => match f η h with
  | .bad => g η h
  | .ok v h => .ok v h
  | .exc x h => .exc x h
theorem e_alt {f g : F} (hf : PE X e (tE G W f)) (hg : PE X e (tE G W g)) : PE X e (tE G W (fAlt f g)) := (hf.orX hg).impX fun σ H Q ⟨ρ, η, h, r, s, q⟩ => by
  unfold fAlt at q
  cases z : f η h with
  | bad => rw [z] at q; exact .inr ⟨ρ, η, h, r, s, q⟩
  | ok v h' => rw [z] at q; exact .inl ⟨ρ, η, h, r, s, by rw [z]; exact q⟩
  | exc v h' => rw [z] at q; exact .inl ⟨ρ, η, h, r, s, by rw [z]; exact q⟩
/-! ### chains -/
def fChain (g g' : G2) (a b c : F) : F := fun η h => (a η h).bind fun x h => (b η h).bind fun y h => (g x y h).bind fun z h => match z with
  | .bl true => (c η h).bind fun w h => g' y w h
  | .bl false => .ok (.bl false) h
  | _ => .bad
theorem chain_imp {r r' : R2} {g g' : G2} (og : OpG G W r g) (og' : OpG G W r' g') {σ : L2.St} {H : Hp} {Q : VK} (t : tE G W (fChain g g' fa fb fc) σ H Q) : tChain r r' (tE G W fa) (tE G W fb) (tE G W fc) σ H Q := by
  obtain ⟨ρ, η, h, rr, s, q⟩ := t
  refine ⟨ρ, η, h, rr, s, q.bind fun x h1 ρ1 H1 e1 s1 f1 g1 x' rx => ?_⟩
  refine ⟨ρ1, η, h1, rr.mono e1 f1, s1, g1.bind fun y h2 ρ2 H2 e2 s2 f2 g2 y' ry => ?_⟩
  refine og ρ2 h2 H2 x y x' y' _ s2 (rx.mono e2.sub f2) ry (g2.bind fun z h3 ρ3 H3 e3 s3 f3 g3 z' rz => ?_)
  cases rz with
  | bl k =>
    cases k with
    | false => exact ⟨false, rfl, g3.here s3 _ (.bl false)⟩
    | true =>
      refine ⟨true, rfl, ρ3, η, h3, ((rr.mono e1 f1).mono e2 f2).mono e3 f3, s3, g3.bind fun w h4 ρ4 H4 e4 s4 f4 g4 w' rw' => ?_⟩
      exact og' ρ4 h4 H4 y w y' w' Q s4 ((ry.mono e3.sub f3).mono e4.sub f4) rw' g4
  | _ => exact g3.elim
theorem e_chain {op op' : CmpOp} {r r' : R2} {g g' : G2} (ho : OpR X (compareOp op) r) (ho' : OpR X (compareOp op') r') (og : OpG G W r g) (og' : OpG G W r' g') (ha : PE X a (tE G W fa)) (hb : PE X b (tE G W fb)) (hc : PE X c (tE G W fc))
    (hm : lastMarks [op, op'] [b, c] = false := by with_unfolding_all rfl) : PE X (.Compare a [op, op'] [b, c] pos) (tE G W (fChain g g' fa fb fc)) := (pe_chain ho ho' ha hb hc hm).impX fun _ _ _ t => chain_imp og og' t
theorem t_chain {op op' : CmpOp} {r r' : R2} {g g' : G2} (ho : OpR X (compareOp op) r) (ho' : OpR X (compareOp op') r') (og : OpG G W r g) (og' : OpG G W r' g') (ha : PE X a (tE G W fa)) (hb : PE X b (tE G W fb)) (hc : PE X c (tE G W fc))
    (hm : lastMarks [op, op'] [b, c] = false := by with_unfolding_all rfl) : PT X (.Compare a [op, op'] [b, c] pos) (tT G W (fTst (fChain g g' fa fb fc))) :=
  (pt_chain ho ho' ha hb hc hm).impX fun σ H Q t => chain_imp og og' (Q := fun x H' => ∃ k, x = .bl k ∧ Q k H') (tst_imp t)
/-! ### texts: order -/
abbrev mkS0 (l : List Nat) : Str := ⟨⟨l⟩⟩
def gRelS (f : List Nat → List Nat → Bool) : G2 := fun x y h => match x, y with
  | .str a, .str b => .ok (.bl (f a b)) h
  | _, _ => .bad
abbrev rS0 (f : List Nat → List Nat → Bool) : R2 := fun x y H Q => ∃ i j : Str, x = .str i ∧ y = .str j ∧ Q (.bl (f i.cps.toList j.cps.toList)) H
/-- ints, or texts -/
def gRelU (f : Int → Int → Bool) (g : List Nat → List Nat → Bool) : G2 := fun x y h => match x, y with
  | .int i, .int j => .ok (.bl (f i j)) h
  | .str a, .str b => .ok (.bl (g a b)) h
  | _, _ => .bad
theorem og_relU {f : Int → Int → Bool} {g : List Nat → List Nat → Bool} : OpG G W (fun x y H Q => rI0 (fun i j => .bl (f i j)) x y H Q ∨ rS0 g x y H Q) (gRelU f g) := by
  intro ρ h H x y x' y' Q s rx ry g
  unfold gRelU at g
  cases rx with
  | int i =>
    cases ry with
    | int j => exact .inl ⟨i, j, rfl, rfl, g.here s _ (.bl _)⟩
    | _ => exact g.elim
  | str a =>
    cases ry with
    | str b => exact .inr ⟨mkS0 a, mkS0 b, rfl, rfl, g.here s _ (.bl _)⟩
    | _ => exact g.elim
  | _ => exact g.elim
abbrev ltS (a b : List Nat) : Bool := decide (a < b)
abbrev gLtU : G2 := gRelU (fun i j => decide (i < j)) fun a b => ltS a b
abbrev gLeU : G2 := gRelU (fun i j => decide (i ≤ j)) fun a b => !ltS b a
abbrev gGtU : G2 := gRelU (fun i j => decide (j < i)) fun a b => ltS b a
abbrev gGeU : G2 := gRelU (fun i j => decide (j ≤ i)) fun a b => !ltS a b
theorem op_ltU : OpR X (compareOp .Lt) (fun x y H Q => rI0 (fun i j => .bl (decide (i < j))) x y H Q ∨ rS0 (fun a b => ltS a b) x y H Q) := .or op_lt op_lt_str
theorem op_leU : OpR X (compareOp .LtE) (fun x y H Q => rI0 (fun i j => .bl (decide (i ≤ j))) x y H Q ∨ rS0 (fun a b => !ltS b a) x y H Q) := .or op_le op_le_str
theorem op_gtU : OpR X (compareOp .Gt) (fun x y H Q => rI0 (fun i j => .bl (decide (j < i))) x y H Q ∨ rS0 (fun a b => ltS b a) x y H Q) := .or op_gt op_gt_str
theorem op_geU : OpR X (compareOp .GtE) (fun x y H Q => rI0 (fun i j => .bl (decide (j ≤ i))) x y H Q ∨ rS0 (fun a b => !ltS a b) x y H Q) := .or op_ge op_ge_str
/-! ### methods of texts -/
abbrev mkS (l : List Nat) : Str := ⟨⟨l⟩⟩
def strsOf : List SV → Option (List (List Nat))
  | [] => some []
  | .str l :: r => match strsOf r with
    | some ls => some (l :: ls)
    | none => none
  | _ :: _ => none
theorem strsOf_ok {ρ : Rho} {H : Hp} : ∀ {xs : List SV} {vs : List V} {ls : List (List Nat)}, RepL G ρ H xs vs → strsOf xs = some ls → vs = (ls.map mkS).map V.str
  | _, _, _, .nil, e => by cases e; rfl
  | x :: xs, v :: vs, ls, .cons r t, e => by
    cases r with
    | str l =>
      cases q : strsOf xs with
      | none => simp [strsOf, q] at e
      | some l2 =>
        simp [strsOf, q] at e
        subst e
        rw [strsOf_ok t q]
        rfl
    | _ => cases e
def gJoin : SV → List SV → SH → Out SV := fun x vs h => match x, vs with
  | .str a, [v] => match items h v with
    | some xs => match strsOf xs with
      | some ls => if decide ((ls.map List.length).sum + ls.length * a.length ≤ 16777216) = true then .ok (.str (Txt.join (mkS a) (ls.map mkS)).cps.toList) h else .bad
      | none => .bad
    | none => .bad
  | _, _ => .bad
theorem rep_str {ρ : Rho} {H : Hp} (s : Str) : Rep G ρ H (.str s.cps.toList) (.str s) := by
  obtain ⟨⟨l⟩⟩ := s
  exact .str l
theorem mg_join : MtG G W "str" (fun x xs H Q => ∃ a p, ∃ ys : List Str, x = .str a ∧ xs = [.ref p] ∧ (SqL G.K H p (ys.map V.str) ∨ SqT G.K H p (ys.map V.str)) ∧ (ys.map (·.length)).sum + ys.length * a.length ≤ 16777216 ∧ Q (.str (Txt.join a ys)) H) gJoin := by
  intro ρ h H x x' vs vs' Q s rx rv g
  unfold gJoin at g
  cases rx with
  | str a =>
    rcases vs with _ | ⟨v, _ | ⟨_, _⟩⟩
    · exact g.elim
    · obtain ⟨w, rfl, r⟩ := rep1 rv
      simp only at g
      cases q : items h v with
      | none => rw [q] at g; exact g.elim
      | some xs =>
        rw [q] at g
        simp only at g
        cases z : strsOf xs with
        | none => rw [z] at g; exact g.elim
        | some ls =>
          rw [z] at g
          simp only at g
          by_cases c : decide ((ls.map List.length).sum + ls.length * a.length ≤ 16777216) = true
          · rw [if_pos c] at g
            obtain ⟨p, us, rfl, sq, rl⟩ := items_ok s r q
            have e := strsOf_ok rl z
            subst e
            refine ⟨mkS a, p, ls.map mkS, rfl, rfl, sq, ?_, g.here s _ (rep_str _)⟩
            have c' := of_decide_eq_true c
            have h1 : (ls.map mkS).map (·.length) = ls.map List.length := by rw [List.map_map]; rfl
            rw [h1, List.length_map]
            exact c'
          · rw [if_neg c] at g; exact g.elim
    · exact g.elim
  | _ => exact g.elim
/-- a new list of texts -/
theorem new_strs {ρ : Rho} {h : SH} {H : Hp} {Q : VK} {ys : List Str} (s : Sim G ρ h H) (g : Good G W ρ H (.ok (.loc h.nx) (h.new (.lst (ys.map fun y => SV.str y.cps.toList)))) (RQ G Q)) : rNewStrs ys H Q := fun p hp => by
  have rl : ∀ ys : List Str, RepL G ρ H (ys.map fun y => SV.str y.cps.toList) (ys.map V.str) := fun ys => by
    induction ys with
    | nil => exact .nil
    | cons y ys ih => exact .cons (rep_str y) ih
  exact g.new (u := .lst (ys.map V.str)) (o := .lst (ys.map fun y => SV.str y.cps.toList)) s hp trivial (repO_lst s hp (rl ys)) _ (.loc radd_same)
def gSplit : SV → List SV → SH → Out SV := fun x vs h => match x, vs with
  | .str a, [.str b] => if (!b.isEmpty && decide (a.length + 2 ≤ sizeLine)) = true then .ok (.loc h.nx) (h.new (.lst ((Txt.split (mkS a) (mkS b)).map fun y => .str y.cps.toList))) else .bad
  | _, _ => .bad
theorem mg_split : MtG G W "str" (fun x xs H Q => ∃ a b, x = .str a ∧ xs = [.str b] ∧ (b.length == 0) = false ∧ a.length + 2 ≤ sizeLine ∧ rNewStrs (Txt.split a b) H Q) gSplit := by
  intro ρ h H x x' vs vs' Q s rx rv g
  unfold gSplit at g
  cases rx with
  | str a =>
    rcases vs with _ | ⟨v, _ | ⟨_, _⟩⟩
    · exact g.elim
    · obtain ⟨w, rfl, r⟩ := rep1 rv
      cases r with
      | str b =>
        simp only at g
        by_cases c : (!b.isEmpty && decide (a.length + 2 ≤ sizeLine)) = true
        · rw [if_pos c] at g
          simp only [Bool.and_eq_true, decide_eq_true_eq] at c
          refine ⟨mkS a, mkS b, rfl, rfl, ?_, c.2, new_strs s g⟩
          cases b with
          | nil => exact absurd c.1 (by decide)
          | cons _ _ => rfl
        · rw [if_neg c] at g; exact g.elim
      | _ => exact g.elim
    · cases v <;> exact g.elim
  | _ => exact g.elim
theorem m_str {nm : Str} {rm : V → List V → Hp → VK → Prop} {gm : SV → List SV → SH → Out SV} {fo : F} {fr : FA} (hK : X.K = G.K) (slot : Slot "str" nm id) (hty : typeOf (.builtin id) = pure (.type "method_descriptor")) (hm : MtR X id rm) (mg : MtG G W "str" rm gm) (ho : PE X o (tE G W fo)) (ha : PA X (e :: es) (tA G W fr))
    (hbase : attributeBase o nm X.env (eval o X.env) = eval o X.env := by rfl)
    (hfew : ((backTo cpos (starEach (e :: es) X.env)).all (fun x => !x.1) && (backToKw cpos (keywordEach [] X.env)).all (fun x => x.1.isSome) && decide ((e :: es).length + ([] : List Keyword).length + (if ([] : List Keyword).isEmpty then 0 else 1) < 30)) = true := by rfl)
    (hline : (apos.endLine == cpos.line) = true := by rfl) (hs : starEach (e :: es) X.env = (false, eval e X.env) :: starEach es X.env := by rfl) (hplain : (backTo cpos (starEach es X.env)).any (·.1) = false := by rfl) :
    PE X (.Call (.Attribute o nm apos) (e :: es) [] cpos) (tE G W (fMt "str" gm fo fr)) :=
  (pe_bm PySem.F.plainAttrs_str slot hty hm ho ha hbase hfew hline hs hplain).impX fun _ _ _ t => hK ▸ bm_imp mg t
/-! ### int, str, ord -/
def gIntS : GL := fun xs h => match xs with
  | [.str l] => match PySem.intText? (mkS l) with
    | some n => if l.length ≤ 640 then .ok (.int n) h else .bad
    | none => .bad
  | _ => .bad
theorem cg_intS : CaG G W (fun xs H Q => ∃ a n, xs = [.str a] ∧ PySem.intText? a = some n ∧ a.length ≤ 640 ∧ Q (.int n) H) gIntS := by
  intro ρ h H xs xs' Q s rx g
  unfold gIntS at g
  rcases xs with _ | ⟨x, _ | ⟨_, _⟩⟩
  · exact g.elim
  · obtain ⟨v, rfl, r⟩ := rep1 rx
    cases r with
    | str l =>
      simp only at g
      cases q : PySem.intText? (mkS l) with
      | none => rw [q] at g; exact g.elim
      | some n =>
        rw [q] at g
        simp only at g
        by_cases c : l.length ≤ 640
        · rw [if_pos c] at g
          exact ⟨mkS l, n, rfl, q, c, g.here s _ (.int n)⟩
        · rw [if_neg c] at g; exact g.elim
    | _ => exact g.elim
  · cases x <;> exact g.elim
def gInt : GL := orL gIntOf gIntS
theorem call_intU : CallR X (.type "int") (fun xs H Q => ((∃ i, xs = [.int i] ∧ Q (.int i) H) ∨ ∃ k, xs = [.bl k] ∧ Q (.int (if k then 1 else 0)) H) ∨ ∃ a n, xs = [.str a] ∧ PySem.intText? a = some n ∧ a.length ≤ 640 ∧ Q (.int n) H) := .or call_int1 call_int_str
theorem cg_intU : CaG G W (fun xs H Q => ((∃ i, xs = [.int i] ∧ Q (.int i) H) ∨ ∃ k, xs = [.bl k] ∧ Q (.int (if k then 1 else 0)) H) ∨ ∃ a n, xs = [.str a] ∧ PySem.intText? a = some n ∧ a.length ≤ 640 ∧ Q (.int n) H) gInt := cg_or cg_int cg_intS
def gStr : GL := fun xs h => match xs with
  | [.int i] => if i.natAbs.log2 < 1920 then .ok (.str (toString i : Str).cps.toList) h else .bad
  | [.str l] => .ok (.str l) h
  | _ => .bad
theorem call_strU : CallR X (.type "str") (fun xs H Q => (∃ i, xs = [.int i] ∧ i.natAbs.log2 < 1920 ∧ Q (.str (toString i)) H) ∨ ∃ a, xs = [.str a] ∧ Q (.str a) H) := .or call_str_int SkE.call_str_str
theorem cg_strU : CaG G W (fun xs H Q => (∃ i : Int, xs = [.int i] ∧ i.natAbs.log2 < 1920 ∧ Q (.str (toString i)) H) ∨ ∃ a, xs = [.str a] ∧ Q (.str a) H) gStr := by
  intro ρ h H xs xs' Q s rx g
  unfold gStr at g
  rcases xs with _ | ⟨x, _ | ⟨_, _⟩⟩
  · exact g.elim
  · obtain ⟨v, rfl, r⟩ := rep1 rx
    cases r with
    | int i =>
      simp only at g
      by_cases c : i.natAbs.log2 < 1920
      · rw [if_pos c] at g
        exact .inl ⟨i, rfl, c, g.here s _ (rep_str _)⟩
      · rw [if_neg c] at g; exact g.elim
    | str l => exact .inr ⟨mkS l, rfl, g.here s _ (.str l)⟩
    | _ => exact g.elim
  · cases x <;> exact g.elim
def gOrd : GL := fun xs h => match xs with
  | [.str [c]] => .ok (.int (c : Nat)) h
  | _ => .bad
theorem cg_ord : CaG G W (fun xs H Q => ∃ x : Str, xs = [.str x] ∧ x.length = 1 ∧ Q (.int (x.cps.getD 0 0 : Nat)) H) gOrd := by
  intro ρ h H xs xs' Q s rx g
  unfold gOrd at g
  rcases xs with _ | ⟨x, _ | ⟨_, _⟩⟩
  · exact g.elim
  · obtain ⟨v, rfl, r⟩ := rep1 rx
    cases r with
    | str l =>
      rcases l with _ | ⟨c, _ | ⟨_, _⟩⟩
      · exact g.elim
      · exact ⟨mkS [c], rfl, rfl, g.here s _ (.int _)⟩
      · exact g.elim
    | _ => exact g.elim
  · rcases x with _ | _ | _ | l | _ | _ | _ | _ | _ <;> first
      | exact g.elim
      | (rcases l with _ | ⟨c, _ | ⟨_, _⟩⟩ <;> exact g.elim)
/-! ### while -/
def loopW (c : FT) (b : FS) : Nat → FS
  | 0 => fun _ _ => .bad
  | f + 1 => fun η h => (c η h).bind fun k h => if k = true then (b η h).bind fun fl h => match fl with
      | .nx η => loopW c b f η h
      | .ct η => loopW c b f η h
      | .bk η => .ok (.nx η) h
      | .rt v => .ok (.rt v) h
    else .ok (.nx η) h
def fWhile (c : FT) (b : FS) : FS := loopW c b 100000
theorem s_while {c : Expr} {body : List Stmt} {tc : FT} {fb : FS} (hp : PassesOwn (model X.prog X.w) X.A X.env X.xe) (hc : PT X c (tT G W tc)) (hb : PSs X body (tS G W fb)) : PS X (.While c body [] pos) (tS G W (fWhile tc fb)) :=
  (ps_while hp hc hb).impX fun D σ H ⟨ρ, η, h, r, s, g⟩ => by
    unfold fWhile at g
    generalize (100000 : Nat) = fuel at g
    refine ⟨fun m σ H => ∃ ρ η h, EnvR G ρ H η σ ∧ Sim G ρ h H ∧ Good G W ρ H (loopW tc fb m η h) (FQ G D), ⟨fuel, ρ, η, h, r, s, g⟩, ?_⟩
    rintro m σ2 H2 ⟨ρ2, η2, h2, r2, s2, g2⟩
    cases m with
    | zero => exact g2.elim
    | succ m =>
      refine ⟨ρ2, η2, h2, r2, s2, Good.bind g2 fun k h3 ρ3 H3 e3 s3 f3 g3 => ?_⟩
      cases k with
      | false => exact Good.here (W := W) s3 g3 σ2 (r2.mono e3 f3)
      | true =>
        refine ⟨fun σ' H' => ∃ ρ η h, EnvR G ρ H' η σ' ∧ Sim G ρ h H' ∧ Good G W ρ H' (loopW tc fb m η h) (FQ G D), fun σ' H' z => ⟨m, Nat.lt_succ_self _, z⟩, ?_⟩
        refine ⟨ρ3, η2, h3, r2.mono e3 f3, s3, Good.bind g3 fun fl h4 ρ4 H4 e4 s4 f4 g4 => ?_⟩
        cases fl with
        | nx η5 => exact fun σ5 r5 => ⟨ρ4, η5, h4, r5, s4, g4⟩
        | ct η5 => exact fun σ5 r5 => ⟨ρ4, η5, h4, r5, s4, g4⟩
        | bk η5 => exact fun σ5 r5 => Good.here (W := W) s4 g4 σ5 r5
        | rt v => exact Good.here (W := W) s4 g4
/-! ### a text, sign by sign -/
def fiStr (a : F) : FI := fun η h => (a η h).bind fun x h => match x with
  | .str l => .ok (.str l) h
  | _ => .bad
end
end Fv
/-! Ev14: recursion's ground, keywords in any sequence, find, split with a limit. -/
namespace Fv
open PySem PySem.Spec PyProof.Rows L2
section
variable {P : Program} {w : World} {K : PySem.W.Frag} {mg : Str → Option Value} {base : Heap} {CX : CXT} {k : Nat} {f : Addr} {fd : FuncData} {ps : List Str} {G : Gd} {WF : XK → XW} {n : Nat}
/-- nothing is promised where nothing is known -/
theorem FnG.zero (hps : ps.length = n) : FnG P w K mg base CX k f fd ps (spF G WF n fun _ _ => .bad) :=
  ⟨fun _ _ _ _ ⟨_, _, _, r, _, l, _⟩ => (r.length.symm.trans l).trans hps.symm, fun _ _ _ _ _ ⟨_, _, _, _, _, _, g⟩ => g.elim⟩
end
/-! ### keywords in any sequence -/
def pm {α : Type} : List Nat → List α → List α
  | [], _ => []
  | i :: r, l => match l[i]? with
    | some x => x :: pm r l
    | none => pm r l
theorem pm_rep {G : Gd} {ρ : Rho} {H : Hp} {xs : List SV} {vs : List V} (r : RepL G ρ H xs vs) : ∀ π : List Nat, RepL G ρ H (pm π xs) (pm π vs)
  | [] => .nil
  | i :: π => by
    unfold pm
    cases q : xs[i]? with
    | none =>
      have q2 : vs[i]? = none := List.getElem?_eq_none (by rw [← r.length]; exact List.getElem?_eq_none_iff.mp q)
      rw [q2]
      exact pm_rep r π
    | some x =>
      obtain ⟨v, hv, rv⟩ := r.get q
      rw [hv]
      exact .cons rv (pm_rep r π)
theorem pm_vals {vs : List V} {us : List Value} (r : Vals vs us) : ∀ π : List Nat, Vals (pm π vs) (pm π us)
  | [] => .nil
  | i :: π => by
    unfold pm
    cases q : vs[i]? with
    | none =>
      have q2 : us[i]? = none := List.getElem?_eq_none (by rw [← r.length]; exact List.getElem?_eq_none_iff.mp q)
      rw [q2]
      exact pm_vals r π
    | some x =>
      obtain ⟨v, hv, rv⟩ := r.get q
      rw [hv]
      exact .cons rv (pm_vals r π)
theorem FunD.kbP {K : PySem.W.Frag} {x qual : Str} {params : Arguments} {body : List Stmt} {scope : Scope} {kws : List (Str × V)} {f : Addr} {fd : FuncData} {ps ks : List Str} (F : FunD K x qual params body scope [] kws f fd) (n : Nat) (π : List Nat)
    (h : ∀ (kV doc pm' : Value) (an : Option Addr) (cdv ct : Value) (us ws : List Value), us.length = n → ws.length = ks.length → bindArgs (PySem.W.fnOf x qual params body scope .none kV doc pm' an cdv ct) ⟨us, ks.zip ws⟩ = pure (ps.zip (pm π (us ++ ws)))) :
    KBn K fd ps n ks (fun us ws => pm π (us ++ ws)) (fun vs zs => pm π (vs ++ zs)) := by
  obtain ⟨oc, od, dV, kV, doc, pm', an, cdv, ct, osl, rfl, lk, hcd, hD, hK⟩ := F.ex
  refine ⟨fun s us ws _ l1 l2 => ?_, fun r1 r2 => pm_vals (r1.append r2) π⟩
  rcases hD with ⟨_, rfl⟩ | ⟨e, _⟩
  · exact .of_eq (h kV doc pm' an cdv ct us ws l1 l2)
  · exact absurd rfl e
section
variable {X : Cx} {CX : CXT} {k : Nat} {f : Addr} {fd : FuncData} {ps ks : List Str} {E : XK} {x : Str} {p pos : Pos} {e : Expr} {es : List Expr} {kws : List Keyword} {G : Gd} {WF : XK → XW} {n : Nat} {fe : FF} {fa fk : FA} {π : List Nat}
def fCallP (π : List Nat) (n1 n2 n : Nat) (fe : FF) (a b : FA) : F := fun η h => (a η h).bind fun xs h => (b η h).bind fun ys h => if xs.length = n1 ∧ ys.length = n2 ∧ (pm π (xs ++ ys)).length = n then fe (pm π (xs ++ ys)) h else .bad
theorem e_callP {W : XW} (hW : WF E = W) {n1 : Nat} (F : FnG X.prog X.w X.K X.mg X.base CX k f fd ps (spF G WF n fe)) (hn : NoG X.A) (hr : Room k X.A) (hg : Gl X x) (hm : X.mg x = some (.ref f)) (hk : PySem.W.keepIn X.K (.ref f) = true) (hb : KBn X.K fd ps n1 ks (fun us ws => pm π (us ++ ws)) (fun vs zs => pm π (vs ++ zs))) (hx : Passes CX X E)
    (ha : PA X (e :: es) (tA G W fa)) (hkw : PK X kws (tA G W fk))
    (hall : (backToKw pos (keywordEach kws X.env)).all (·.1.isSome) = true := by rfl) (hks : (backToKw pos (keywordEach kws X.env)).filterMap (·.1) = ks := by rfl) (hdb : (x == ("__debug__" : Str)) = false := by decide)
    (he : starEach (e :: es) X.env = (false, eval e X.env) :: starEach es X.env := by rfl) (hpl : ((backTo pos (starEach (e :: es) X.env)).any (·.1) || (backToKw pos (keywordEach kws X.env)).any (·.1.isNone)) = false := by rfl) :
    PE X (.Call (.Name x p) (e :: es) kws pos) (tE G W (fCallP π n1 ks.length n fe fa fk)) := (pg_callK F hn hr hg hm hk hb hx ha hkw hall hks hdb he hpl).impX fun σ H Q t => by
  obtain ⟨ρ, η, h, r, s, g⟩ := t
  refine ⟨ρ, η, h, r, s, g.bind fun xs h1 ρ1 H1 e1 s1 f1 g1 xs' rx => ?_⟩
  refine ⟨ρ1, η, h1, r.mono e1 f1, s1, g1.bind fun ys h2 ρ2 H2 e2 s2 f2 g2 ys' ry => ?_⟩
  by_cases c : xs.length = n1 ∧ ys.length = ks.length ∧ (pm π (xs ++ ys)).length = n
  · rw [if_pos c] at g2
    exact ⟨rx.length.symm.trans c.1, ry.length.symm.trans c.2.1, ρ2, h2, pm π (xs ++ ys), pm_rep ((rx.mono e2.sub f2).append ry) π, s2, c.2.2, by rw [hW]; exact g2⟩
  · rw [if_neg c] at g2; exact g2.elim
theorem e_callP0 {W : XW} (hW : WF E = W) (F : FnG X.prog X.w X.K X.mg X.base CX k f fd ps (spF G WF n fe)) (hn : NoG X.A) (hr : Room k X.A) (hg : Gl X x) (hm : X.mg x = some (.ref f)) (hk : PySem.W.keepIn X.K (.ref f) = true) (hb : KBn X.K fd ps 0 ks (fun us ws => pm π (us ++ ws)) (fun vs zs => pm π (vs ++ zs))) (hx : Passes CX X E)
    (hkw : PK X kws (tA G W fk))
    (hall : (backToKw pos (keywordEach kws X.env)).all (·.1.isSome) = true := by rfl) (hks : (backToKw pos (keywordEach kws X.env)).filterMap (·.1) = ks := by rfl) (hdb : (x == ("__debug__" : Str)) = false := by decide)
    (hpl : ((backTo pos (starEach [] X.env)).any (·.1) || (backToKw pos (keywordEach kws X.env)).any (·.1.isNone)) = false := by rfl) :
    PE X (.Call (.Name x p) [] kws pos) (tE G W (fCallP π 0 ks.length n fe faN fk)) := (pg_callK0 F hn hr hg hm hk hb hx hkw hall hks hdb hpl).impX fun σ H Q t => by
  obtain ⟨ρ, η, h, r, s, g⟩ := t
  have g : Good G W ρ H ((fk η h).bind fun ys h => if ([] : List SV).length = 0 ∧ ys.length = ks.length ∧ (pm π ([] ++ ys)).length = n then fe (pm π ([] ++ ys)) h else .bad) (RQ G Q) := g
  refine ⟨ρ, η, h, r, s, g.bind fun ys h2 ρ2 H2 e2 s2 f2 g2 ys' ry => ?_⟩
  by_cases c : ([] : List SV).length = 0 ∧ ys.length = ks.length ∧ (pm π ([] ++ ys)).length = n
  · rw [if_pos c] at g2
    exact ⟨rfl, ry.length.symm.trans c.2.1, ρ2, h2, pm π ys, pm_rep ry π, s2, c.2.2, by rw [hW]; exact g2⟩
  · rw [if_neg c] at g2; exact g2.elim
end
/-! ### more methods of texts -/
section
variable {G : Gd} {W : XW}
/-- a.m(b) -/
def gS2 (f : List Nat → List Nat → SV) : SV → List SV → SH → Out SV := fun x vs h => match x, vs with
  | .str a, [.str b] => .ok (f a b) h
  | _, _ => .bad
theorem mg_S2i (f : Str → Str → Int) : MtG G W "str" (fun x xs H Q => ∃ a b, x = .str a ∧ xs = [.str b] ∧ Q (.int (f a b)) H) (gS2 fun a b => .int (f (mkS a) (mkS b))) := by
  intro ρ h H x x' vs vs' Q s rx rv g
  unfold gS2 at g
  cases rx with
  | str a =>
    rcases vs with _ | ⟨v, _ | ⟨_, _⟩⟩
    · exact g.elim
    · obtain ⟨w, rfl, r⟩ := rep1 rv
      cases r with
      | str b => exact ⟨mkS a, mkS b, rfl, rfl, g.here s _ (.int _)⟩
      | _ => exact g.elim
    · cases v <;> exact g.elim
  | _ => exact g.elim
theorem mg_S2b (f : Str → Str → Bool) : MtG G W "str" (fun x xs H Q => ∃ a b, x = .str a ∧ xs = [.str b] ∧ Q (.bl (f a b)) H) (gS2 fun a b => .bl (f (mkS a) (mkS b))) := by
  intro ρ h H x x' vs vs' Q s rx rv g
  unfold gS2 at g
  cases rx with
  | str a =>
    rcases vs with _ | ⟨v, _ | ⟨_, _⟩⟩
    · exact g.elim
    · obtain ⟨w, rfl, r⟩ := rep1 rv
      cases r with
      | str b => exact ⟨mkS a, mkS b, rfl, rfl, g.here s _ (.bl _)⟩
      | _ => exact g.elim
    · cases v <;> exact g.elim
  | _ => exact g.elim
abbrev gFind : SV → List SV → SH → Out SV := gS2 fun a b => .int (Txt.find (mkS a) (mkS b))
theorem mg_find : MtG G W "str" (fun x xs H Q => ∃ a b, x = .str a ∧ xs = [.str b] ∧ Q (.int (Txt.find a b)) H) gFind := mg_S2i fun a b => Txt.find a b
abbrev gRfind : SV → List SV → SH → Out SV := gS2 fun a b => .int (Txt.rfind (mkS a) (mkS b))
theorem mg_rfind : MtG G W "str" (fun x xs H Q => ∃ a b, x = .str a ∧ xs = [.str b] ∧ Q (.int (Txt.rfind a b)) H) gRfind := mg_S2i fun a b => Txt.rfind a b
abbrev gStarts : SV → List SV → SH → Out SV := gS2 fun a b => .bl (Txt.startswith (mkS a) (mkS b))
theorem mg_startswith : MtG G W "str" (fun x xs H Q => ∃ a b, x = .str a ∧ xs = [.str b] ∧ Q (.bl (Txt.startswith a b)) H) gStarts := mg_S2b fun a b => Txt.startswith a b
def gFind3 : SV → List SV → SH → Out SV := fun x vs h => match x, vs with
  | .str a, [.str b, .int i] => .ok (.int (Txt.find3 (mkS a) (mkS b) i)) h
  | _, _ => .bad
theorem mg_find3 : MtG G W "str" (fun x xs H Q => ∃ (a b : Str) (i : Int), x = .str a ∧ xs = [.str b, .int i] ∧ Q (.int (Txt.find3 a b i)) H) gFind3 := by
  intro ρ h H x x' vs vs' Q s rx rv g
  unfold gFind3 at g
  cases rx with
  | str a =>
    rcases vs with _ | ⟨v, _ | ⟨v2, _ | ⟨_, _⟩⟩⟩
    · exact g.elim
    · cases v <;> exact g.elim
    · obtain ⟨w, u, rfl, r, r2⟩ := rep2 rv
      cases r with
      | str b =>
        cases r2 with
        | int i => exact ⟨mkS a, mkS b, i, rfl, rfl, g.here s _ (.int _)⟩
        | _ => exact g.elim
      | _ => exact g.elim
    · cases v <;> first
        | exact g.elim
        | (cases v2 <;> exact g.elim)
  | _ => exact g.elim
def gSplitM : SV → List SV → SH → Out SV := fun x vs h => match x, vs with
  | .str a, [.str b, .int k] => if (!b.isEmpty && (decide (a.length + 2 ≤ sizeLine) && (decide (-(2 ^ 63) ≤ k) && decide (k < 2 ^ 63)))) = true then .ok (.loc h.nx) (h.new (.lst ((Txt.splitMax (mkS a) (mkS b) k).map fun y => .str y.cps.toList))) else .bad
  | _, _ => .bad
theorem mg_splitMax : MtG G W "str" (fun x xs H Q => ∃ (a b : Str) (k : Int), x = .str a ∧ xs = [.str b, .int k] ∧ (b.length == 0) = false ∧ -(2 ^ 63) ≤ k ∧ k < 2 ^ 63 ∧ a.length + 2 ≤ sizeLine ∧ rNewStrs (Txt.splitMax a b k) H Q) gSplitM := by
  intro ρ h H x x' vs vs' Q s rx rv g
  unfold gSplitM at g
  cases rx with
  | str a =>
    rcases vs with _ | ⟨v, _ | ⟨v2, _ | ⟨_, _⟩⟩⟩
    · exact g.elim
    · cases v <;> exact g.elim
    · obtain ⟨w, u, rfl, r, r2⟩ := rep2 rv
      cases r with
      | str b =>
        cases r2 with
        | int k =>
          simp only at g
          by_cases c : (!b.isEmpty && (decide (a.length + 2 ≤ sizeLine) && (decide (-(2 ^ 63) ≤ k) && decide (k < 2 ^ 63)))) = true
          · rw [if_pos c] at g
            simp only [Bool.and_eq_true, decide_eq_true_eq] at c
            refine ⟨mkS a, mkS b, k, rfl, rfl, ?_, c.2.2.1, c.2.2.2, c.2.1, new_strs s g⟩
            cases b with
            | nil => exact absurd c.1 (by decide)
            | cons _ _ => rfl
          · rw [if_neg c] at g; exact g.elim
        | _ => exact g.elim
      | _ => exact g.elim
    · cases v <;> first
        | exact g.elim
        | (cases v2 <;> exact g.elim)
  | _ => exact g.elim
end
end Fv
/-! Fv15: what is new becomes a value that nobody writes. -/
namespace Fv
open PySem PySem.Spec PyProof.Rows L2
mutual
/-- no new place in it -/
def clV (n : Nat) : SV → Bool
  | .loc p => decide (p < n)
  | .tup xs => clL n xs
  | .tp xs => clL n xs
  | .fl xs => clL n xs
  | .ls xs => clL n xs
  | .fd kvs => clP n kvs
  | _ => true
def clL (n : Nat) : List SV → Bool
  | [] => true
  | x :: xs => clV n x && clL n xs
def clP (n : Nat) : List (SV × SV) → Bool
  | [] => true
  | (k, x) :: xs => clV n k && (clV n x && clP n xs)
end
def clO (n : Nat) : SO → Bool
  | .lst xs => clL n xs
  | .dic kvs => clP n kvs
/-- all places from n on become values -/
def fzV (n : Nat) (h : SH) : Nat → SV → Option SV
  | 0, v => if clV n v = true then some v else none
  | k + 1, v => if clV n v = true then some v else match v with
    | .loc p => match h.get p with
      | some (.lst xs) => (mapO (fzV n h k) xs).map .ls
      | some (.dic kvs) => (mapO (fun q => match fzV n h k q.1 with
          | some a => match fzV n h k q.2 with
            | some b => some (a, b)
            | none => none
          | none => none) kvs).map .fd
      | none => none
    | .tup xs => (mapO (fzV n h k) xs).map .tup
    | .tp xs => (mapO (fzV n h k) xs).map .tp
    | .ls xs => (mapO (fzV n h k) xs).map .ls
    | _ => none
def cutH (n : Nat) (h : SH) : SH := ⟨h.c.take n⟩
/-- what is new becomes values; nothing old may know of it -/
def cutO (n : Nat) (o : Out SV) : Out SV := match o with
  | .ok v h => if n ≤ h.nx ∧ (h.c.take n).all (clO n) = true then (match fzV n h 8 v with
    | some w => .ok w (cutH n h)
    | none => .bad) else .bad
  | _ => .bad
def fFz (f : F) : F := fun η h => cutO h.nx (f η h)
def rcut (n : Nat) (ρ : Rho) : Rho := fun p => if p < n then ρ p else none
section
variable {G : Gd} {W : XW} {ρ : Rho} {H : Hp} {h : SH} {n : Nat}
theorem rcut_some {p : Nat} {a : Addr} (e : rcut n ρ p = some a) : p < n ∧ ρ p = some a := by
  unfold rcut at e
  by_cases c : p < n
  · rw [if_pos c] at e; exact ⟨c, e⟩
  · rw [if_neg c] at e; cases e
theorem rcut_lt {p : Nat} (c : p < n) : rcut n ρ p = ρ p := if_pos c
theorem rcut_not {a : Addr} (k : ∀ p, ρ p ≠ some a) : ∀ p, rcut n ρ p ≠ some a := fun p e => k p (rcut_some e).2
mutual
theorem clV_ok : ∀ {v : SV} {v' : V}, clV n v = true → Rep G ρ H v v' → Rep G (rcut n ρ) H v v'
  | _, _, _, .non => .non
  | _, _, _, .bl b => .bl b
  | _, _, _, .int i => .int i
  | _, _, _, .str l => .str l
  | _, _, c, .tup s r => .tup s (clL_ok (by simpa [clV] using c) r)
  | _, _, c, .tp s r => .tp s (clL_ok (by simpa [clV] using c) r)
  | _, _, c, .loc q => .loc (by rw [rcut_lt (by simpa [clV] using c)]; exact q)
  | _, _, _, .fn q => .fn q
  | _, _, _, .ty n => .ty n
  | _, _, c, .fl s r => .fl s (clL_ok (by simpa [clV] using c) r)
  | _, _, c, .ls s k r => .ls s (rcut_not k) (clL_ok (by simpa [clV] using c) r)
  | _, _, c, .fd s k r => .fd s (rcut_not k) (clQ_ok (by simpa [clV] using c) r)
theorem clL_ok : ∀ {xs : List SV} {vs : List V}, clL n xs = true → RepL G ρ H xs vs → RepL G (rcut n ρ) H xs vs
  | _, _, _, .nil => .nil
  | _, _, c, .cons r t => by
    rw [clL, Bool.and_eq_true] at c
    exact .cons (clV_ok c.1 r) (clL_ok c.2 t)
theorem clQ_ok : ∀ {xs : List (SV × SV)} {vs : List (Key × V)}, clP n xs = true → RepQ G ρ H xs vs → RepQ G (rcut n ρ) H xs vs
  | _, _, _, .nil => .nil
  | _, _, c, .cons a b t => by
    rw [clP, Bool.and_eq_true, Bool.and_eq_true] at c
    exact .cons (clV_ok c.1 a) (clV_ok c.2.1 b) (clQ_ok c.2.2 t)
end
theorem clO_ok {a : Addr} {o : SO} (c : clO n o = true) (r : RepO G ρ H a o) : RepO G (rcut n ρ) H a o := by
  cases o with
  | lst xs => obtain ⟨vs, e, r⟩ := r; exact ⟨vs, e, clL_ok c r⟩
  | dic kvs => obtain ⟨vs, e, r⟩ := r; exact ⟨vs, e, (clQ_ok c r.q).p⟩
theorem not_old (s : Sim G ρ h H) {p : Nat} {a : Addr} (e : ρ p = some a) (np : ¬ p < n) : ∀ q, rcut n ρ q ≠ some a := fun q eq => by
  obtain ⟨h1, h2⟩ := rcut_some eq
  have := s.inj _ _ _ e h2
  subst this
  exact np h1
theorem mapO_rep {f : SV → Option SV} : ∀ {xs ys : List SV} {vs : List V}, (∀ x y v, f x = some y → Rep G ρ H x v → Rep G (rcut n ρ) H y v) → RepL G ρ H xs vs → mapO f xs = some ys → RepL G (rcut n ρ) H ys vs
  | _, _, _, _, .nil, e => by cases e; exact .nil
  | x :: xs, ys, v :: vs, ih, .cons r t, e => by
    unfold mapO at e
    cases q : f x with
    | none => simp [q] at e
    | some d =>
      simp [q] at e
      cases q2 : mapO f xs with
      | none => simp [q2] at e
      | some r2 =>
        simp [q2] at e
        subst e
        exact .cons (ih _ _ _ q r) (mapO_rep ih t q2)
theorem mapO_repQ {f : SV → Option SV} : ∀ {xs ys : List (SV × SV)} {vs : List (Key × V)}, (∀ x y v, f x = some y → Rep G ρ H x v → Rep G (rcut n ρ) H y v) → RepQ G ρ H xs vs →
    mapO (fun q : SV × SV => match f q.1 with
          | some a => match f q.2 with
            | some b => some (a, b)
            | none => none
          | none => none) xs = some ys → RepQ G (rcut n ρ) H ys vs
  | _, _, _, _, .nil, e => by cases e; exact .nil
  | (k, x) :: xs, ys, (k', v) :: vs, ih, .cons r r' t, e => by
    unfold mapO at e
    cases q : f k with
    | none => simp [q] at e
    | some d =>
      cases q' : f x with
      | none => simp [q, q'] at e
      | some d' =>
        simp only [q, q'] at e
        cases q2 : mapO (fun q : SV × SV => match f q.1 with
          | some a => match f q.2 with
            | some b => some (a, b)
            | none => none
          | none => none) xs with
        | none => rw [q2] at e; cases e
        | some r2 =>
          rw [q2] at e
          cases e
          exact .cons (ih _ _ _ q r) (ih _ _ _ q' r') (mapO_repQ ih t q2)
theorem fzV_ok (s : Sim G ρ h H) : ∀ (k : Nat) (v w : SV) (v' : V), fzV n h k v = some w → Rep G ρ H v v' → Rep G (rcut n ρ) H w v'
  | 0, v, w, v', e, r => by
    unfold fzV at e
    by_cases c : clV n v = true
    · rw [if_pos c] at e; cases e; exact clV_ok c r
    · rw [if_neg c] at e; cases e
  | k + 1, v, w, v', e, r => by
    unfold fzV at e
    by_cases c : clV n v = true
    · rw [if_pos c] at e; cases e; exact clV_ok c r
    · rw [if_neg c] at e
      have ih := fzV_ok s k
      cases r with
      | loc hp =>
        rename_i p a
        simp only at e
        have np : ¬ p < n := fun z => c (by simp [clV, z])
        cases q : h.get p with
        | none => rw [q] at e; cases e
        | some o =>
          rw [q] at e
          cases o with
          | lst xs =>
            simp only [Option.map_eq_some_iff] at e
            obtain ⟨ys, e1, rfl⟩ := e
            obtain ⟨a', vs, k1, k2, rl⟩ := s.lst q
            rw [hp] at k1; cases k1
            exact .ls k2 (not_old s hp np) (mapO_rep (fun x y v z rz => ih x y v z rz) rl e1)
          | dic kvs =>
            simp only [Option.map_eq_some_iff] at e
            obtain ⟨ys, e1, rfl⟩ := e
            obtain ⟨a', vs, k1, k2, rl⟩ := s.dic q
            rw [hp] at k1; cases k1
            exact .fd k2 (not_old s hp np) (mapO_repQ (fun x y v z rz => ih x y v z rz) rl.q e1)
      | tup sq rl =>
        simp only [Option.map_eq_some_iff] at e
        obtain ⟨ys, e1, rfl⟩ := e
        exact .tup sq (mapO_rep (fun x y v z rz => ih x y v z rz) rl e1)
      | tp sq rl =>
        simp only [Option.map_eq_some_iff] at e
        obtain ⟨ys, e1, rfl⟩ := e
        exact .tp sq (mapO_rep (fun x y v z rz => ih x y v z rz) rl e1)
      | ls ha nn rl =>
        simp only [Option.map_eq_some_iff] at e
        obtain ⟨ys, e1, rfl⟩ := e
        exact .ls ha (rcut_not nn) (mapO_rep (fun x y v z rz => ih x y v z rz) rl e1)
      | _ => cases e
theorem Sim.cut (s : Sim G ρ h H) (hn : n ≤ h.nx) (c : (h.c.take n).all (clO n) = true) : Sim G (rcut n ρ) (cutH n h) H where
  inj := fun p q a e1 e2 => s.inj p q a (rcut_some e1).2 (rcut_some e2).2
  dom := fun p a e => by
    have := (rcut_some e).1
    unfold cutH SH.nx
    rw [List.length_take]
    unfold SH.nx at hn
    omega
  liv := fun p a e => s.liv p a (rcut_some e).2
  obj := fun p o e => by
    unfold cutH SH.get at e
    simp only at e
    rw [List.getElem?_take] at e
    by_cases z : p < n
    · rw [if_pos z] at e
      obtain ⟨a, e1, r⟩ := s.obj p o e
      refine ⟨a, by rw [rcut_lt z]; exact e1, clO_ok ?_ r⟩
      refine List.all_eq_true.mp c o (List.mem_of_getElem? (i := p) ?_)
      rw [List.getElem?_take, if_pos z]
      exact e
    · rw [if_neg z] at e; cases e
theorem Good.cut {o : Out SV} {Q : VK} (s : Sim G ρ h H) (g : Good G W ρ H (cutO h.nx o) (RQ G Q)) : Good G W ρ H o (RQ G Q) := by
  cases o with
  | bad => exact g
  | exc x h' => exact g.elim
  | ok v h' =>
    intro ρ' H' e s' f v' rv
    unfold cutO at g
    simp only at g
    by_cases c : h.nx ≤ h'.nx ∧ (h'.c.take h.nx).all (clO h.nx) = true
    · rw [if_pos c] at g
      cases q : fzV h.nx h' 8 v with
      | none => rw [q] at g; exact g.elim
      | some w =>
        rw [q] at g
        refine g (rcut h.nx ρ') H' ⟨⟨fun p a z => ?_, fun p a z zn => ?_⟩, (s'.cut c.1 c.2).inj⟩ (s'.cut c.1 c.2) f v' (fzV_ok s' 8 v w v' q rv)
        · rw [rcut_lt (s.dom p a z)]; exact e.sub p a z
        · exact e.new p a (rcut_some z).2 zn
    · rw [if_neg c] at g; exact g.elim
theorem e_fz {X : Cx} {e : Expr} {f : F} (p : PE X e (tE G W f)) : PE X e (tE G W (fFz f)) := p.impX fun σ H Q ⟨ρ, η, h, r, s, g⟩ => ⟨ρ, η, h, r, s, Good.cut s g⟩
/-! ### reasoning -/
@[simp] theorem clV_int (n : Nat) (i : Int) : clV n (.int i) = true := by simp [clV]
@[simp] theorem clV_bl (n : Nat) (i : Bool) : clV n (.bl i) = true := by simp [clV]
@[simp] theorem clV_str (n : Nat) (i : List Nat) : clV n (.str i) = true := by simp [clV]
@[simp] theorem clV_non (n : Nat) : clV n .non = true := by simp [clV]
@[simp] theorem clV_tup (n : Nat) (xs : List SV) : clV n (.tup xs) = clL n xs := by simp [clV]
@[simp] theorem clV_tp (n : Nat) (xs : List SV) : clV n (.tp xs) = clL n xs := by simp [clV]
@[simp] theorem clV_ls (n : Nat) (xs : List SV) : clV n (.ls xs) = clL n xs := by simp [clV]
@[simp] theorem clV_loc (n p : Nat) : clV n (.loc p) = decide (p < n) := by simp [clV]
@[simp] theorem clL_nil (n : Nat) : clL n [] = true := by simp [clL]
@[simp] theorem clL_cons (n : Nat) (x : SV) (xs : List SV) : clL n (x :: xs) = (clV n x && clL n xs) := by simp [clL]
theorem clL_all (n : Nat) : ∀ xs : List SV, clL n xs = xs.all (clV n)
  | [] => by simp
  | x :: xs => by simp [clL_all n xs]
@[simp] theorem clL_app (n : Nat) (xs ys : List SV) : clL n (xs ++ ys) = (clL n xs && clL n ys) := by simp [clL_all]
theorem clL_map {α : Type} (n : Nat) (f : α → SV) (xs : List α) (h : ∀ x ∈ xs, clV n (f x) = true) : clL n (xs.map f) = true := by
  rw [clL_all, List.all_eq_true]
  intro y hy
  obtain ⟨x, hx, rfl⟩ := List.mem_map.mp hy
  exact h x hx
/-- a heap whose things know of old ones alone -/
def Cn (h : SH) : Prop := h.c.all (clO h.nx) = true
theorem cutH_self (h : SH) : cutH h.nx h = h := by unfold cutH SH.nx; simp
theorem cutH_new (h : SH) (o : SO) : cutH h.nx (h.new o) = h := by unfold cutH SH.nx SH.new; simp
theorem nx_new' (h : SH) (o : SO) : (h.new o).nx = h.nx + 1 := SH.nx_new h o
theorem get_new_same {h : SH} {o : SO} : (h.new o).get h.nx = some o := by rw [SH.get_new, if_pos rfl]
theorem get_set_same {h : SH} {p : Nat} {o : SO} (c : p < h.nx) : (h.set p o).get p = some o := by rw [SH.get_set, if_pos rfl, if_pos c]
theorem get_set_ne {h : SH} {p q : Nat} {o : SO} (n : q ≠ p) : (h.set p o).get q = h.get q := by rw [SH.get_set, if_neg n]
theorem fz_clean {h : SH} {v : SV} (k : Nat) (c : clV n v = true) : fzV n h k v = some v := by
  cases k <;> (unfold fzV; rw [if_pos c])
theorem mapO_id {f : SV → Option SV} : ∀ {xs : List SV}, (∀ x ∈ xs, f x = some x) → mapO f xs = some xs
  | [], _ => rfl
  | x :: xs, h => by
    unfold mapO
    rw [h x (List.mem_cons_self), mapO_id (fun y hy => h y (List.mem_cons_of_mem _ hy))]
/-- a value, nothing new -/
theorem cut_ok {h : SH} {v : SV} (C : Cn h) (c : clV h.nx v = true) : cutO h.nx (.ok v h) = .ok v h := by
  unfold cutO
  simp only
  rw [if_pos ⟨Nat.le_refl _, by unfold SH.nx; rw [List.take_length]; exact C⟩, fz_clean 8 c]
  simp only [cutH_self]
/-- a new list -/
theorem cut_new {h : SH} {xs : List SV} (C : Cn h) (c : clL h.nx xs = true) : cutO h.nx (.ok (.loc h.nx) (h.new (.lst xs))) = .ok (.ls xs) h := by
  unfold cutO
  simp only
  rw [if_pos ⟨by rw [SH.nx_new]; omega, by unfold SH.nx SH.new; rw [List.take_left]; exact C⟩]
  have : fzV h.nx (h.new (.lst xs)) 8 (.loc h.nx) = some (.ls xs) := by
    unfold fzV
    rw [if_neg (by simp)]
    simp only [get_new_same]
    rw [mapO_id (fun x hx => fz_clean 7 (by rw [clL_all, List.all_eq_true] at c; exact c x hx))]
    rfl
  rw [this]
  simp only [cutH_new]
theorem cut_newd {h : SH} {kvs : List (SV × SV)} (C : Cn h) (c : clP h.nx kvs = true) : cutO h.nx (.ok (.loc h.nx) (h.new (.dic kvs))) = .ok (.fd kvs) h := by
  have q : ∀ kvs : List (SV × SV), clP h.nx kvs = true → mapO (fun q : SV × SV => match fzV h.nx (h.new (.dic kvs)) 7 q.1 with
          | some a => match fzV h.nx (h.new (.dic kvs)) 7 q.2 with
            | some b => some (a, b)
            | none => none
          | none => none) kvs = some kvs := by
    intro kvs c
    generalize h.new (.dic kvs) = h2
    induction kvs with
    | nil => rfl
    | cons a r ih =>
      obtain ⟨k, x⟩ := a
      rw [clP, Bool.and_eq_true, Bool.and_eq_true] at c
      unfold mapO
      rw [ih c.2.2]
      simp only [fz_clean 7 c.1, fz_clean 7 c.2.1]
  unfold cutO
  simp only
  rw [if_pos ⟨by rw [SH.nx_new]; omega, by unfold SH.nx SH.new; rw [List.take_left]; exact C⟩]
  have : fzV h.nx (h.new (.dic kvs)) 8 (.loc h.nx) = some (.fd kvs) := by
    unfold fzV
    rw [if_neg (by simp)]
    simp only [get_new_same]
    rw [q kvs c]
    rfl
  rw [this]
  simp only [cutH_new]
end
end Fv
/-! EvS: set(xs) of ints and texts, from lists and tuples; its length, its sorted list. -/
namespace Fv
open PySem PySem.Spec PyProof.Rows L2
instance : LawfulBEq Key where
  eq_of_beq := fun {a b} h => by
    cases a with
    | inl i => cases b with
      | inl j => exact congrArg Sum.inl (eq_of_beq (show (i == j) = true from h))
      | inr j => cases h
    | inr i => cases b with
      | inl j => cases h
      | inr j => exact congrArg Sum.inr (eq_of_beq (show (i == j) = true from h))
  rfl := fun {a} => by
    cases a with
    | inl i => exact beq_self_eq_true (a := i)
    | inr i => exact beq_self_eq_true (a := i)
/-- v stands in σ -/
def inK (σ : List Key) (v : Key) : Bool := σ.any fun x => decide (x = v)
theorem inK_iff {σ : List Key} {v : Key} : inK σ v = true ↔ v ∈ σ := by
  unfold inK
  rw [List.any_eq_true]
  exact ⟨fun ⟨x, h, e⟩ => of_decide_eq_true e ▸ h, fun h => ⟨v, h, decide_eq_true rfl⟩⟩
def ddStep (σ : List Key) (v : Key) : List Key := if inK σ v = true then σ else σ ++ [v]
/-- each once, in the sequence of coming -/
def ddl (l : List Key) : List Key := l.foldl ddStep []
theorem ddl_snoc (l : List Key) (v : Key) : ddl (l ++ [v]) = ddStep (ddl l) v := by unfold ddl; rw [List.foldl_append]; rfl
theorem mem_ddStep (σ : List Key) (v k : Key) : k ∈ ddStep σ v ↔ k ∈ σ ∨ k = v := by
  unfold ddStep
  by_cases h : inK σ v = true
  · rw [if_pos h]
    have h' := inK_iff.mp h
    exact ⟨.inl, fun q => q.elim id fun e => e ▸ h'⟩
  · rw [if_neg h]; simp
theorem ddStep_len (σ : List Key) (v : Key) : (ddStep σ v).length = if inK σ v = true then σ.length else σ.length + 1 := by
  unfold ddStep; split <;> simp
theorem ddl_le (l : List Key) : (ddl l).length ≤ l.length := by
  have key : ∀ (l σ : List Key), (l.foldl ddStep σ).length ≤ σ.length + l.length := by
    intro l
    induction l with
    | nil => intro σ; simp
    | cons v l ih =>
      intro σ
      have h1 := ih (ddStep σ v)
      rw [ddStep_len] at h1
      simp only [List.foldl_cons, List.length_cons]
      split at h1 <;> omega
  have := key l []
  simpa [ddl] using this
section
variable {prog : Program} {w : World} {A : Around} {R : Result → Shared → Prop} {I : Addr} {fp wr : List Addr} {G : Array GenState → Array GenState → Prop} {n : Nat} {P : Nat → Value → Prop} {St : Nat → Shared → Prop}
theorem loopKey (W : WalksS prog w A.in1 I fp wr G n P St) (S : Addr) (hSf : S ∉ fp) (ks : List Key) (hn : ks.length = n)
    (hval : ∀ i v, P i v → ∃ k, ks[i]? = some k ∧ keyIs k v = true ∧ v.scannable = true) (hb : n + 1 < scanBound) :
    ∀ (k i : Nat) (s : Shared), n - i = k → i ≤ n → St i s →
      s.heap.SetOf (mixKind prog w) S (fun k' => inK (ddl (ks.take i)) k') (ddl (ks.take i)).length →
      (∀ s', Moved (S :: wr) G s s' → s'.heap.SetOf (mixKind prog w) S (fun k' => inK (ddl ks) k') (ddl ks).length → R (.ok (.ret .none)) s') →
      codeAny (model prog w) A (.builtin "set.update.loop" ⟨[.ref S, .ref I], []⟩) R s := by
  have hSw : S ∉ wr := fun h => hSf (W.sub _ h)
  have hsub : ∀ b ∈ wr, b ∈ S :: wr := fun b hb => List.mem_cons_of_mem _ hb
  intro k
  induction k with
  | zero =>
    intro i s hk hi hst hS hR
    have hin : i = n := by omega
    subst hin
    refine codeAny_builtin PyProof.Rows.F.entry_set_update_loop ?_
    rw [Around.under_plainId PyProof.Rows.F.plain_set_update_loop _]
    show wpAny _ A.in1 (pyNext (.ref I) >>= _) _ _ s
    refine wpAny_bind (W.done s _ _ hst fun s' hm => ?_)
    show wpAny _ A.in1 (ret Value.none) _ _ s'
    rw [List.take_of_length_le (by omega)] at hS
    exact wpAny_pure (hR s' (hm.mono hsub) (by
      obtain ⟨o, es, ep, t, ho, rest⟩ := hS
      exact ⟨o, es, ep, t, hm.heap S _ hSw ho, rest⟩))
  | succ k ih =>
    intro i s hk hi hst hS hR
    have hlt : i < n := by omega
    refine codeAny_builtin PyProof.Rows.F.entry_set_update_loop ?_
    rw [Around.under_plainId PyProof.Rows.F.plain_set_update_loop _]
    show wpAny _ A.in1 (pyNext (.ref I) >>= _) _ _ s
    refine wpAny_bind (W.item i s _ _ hlt hst fun v s' hP hst' hm => ?_)
    obtain ⟨x, hx, hkey, hsc⟩ := hval i v hP
    have hS' : s'.heap.SetOf (mixKind prog w) S (fun k' => inK (ddl (ks.take i)) k') (ddl (ks.take i)).length := by
      obtain ⟨o, es, ep, tb, ho, rest⟩ := hS
      exact ⟨o, es, ep, tb, hm.heap S _ hSw ho, rest⟩
    show wpAny _ A.in1 (holding [v] (setAdd S v) >>= _) _ _ s'
    refine wpAny_bind (wpAny_holding ?_)
    unfold setAdd
    refine wpAny_holding ?_
    refine wpAny_bind ((mixKind prog w).pyHash (k := x) hkey ?_)
    have hroom : (ddl (ks.take i)).length + 1 < scanBound := by
      have := ddl_le (ks.take i)
      rw [List.length_take] at this
      omega
    refine wpAny_setAddHashed_of (knd := mixKind prog w) (s := { s' with toks := s'.toks + 1 }) hkey hsc hS' hroom fun h' hsb hS2 => ?_
    have e1 : ks.take (i + 1) = ks.take i ++ [x] := by rw [List.take_add_one, hx]; rfl
    have hSi : h'.SetOf (mixKind prog w) S (fun k' => inK (ddl (ks.take (i + 1))) k') (ddl (ks.take (i + 1))).length := by
      have eS : (fun k' => inK (ddl (ks.take i)) k' || decide (k' = x)) = fun k' => inK (ddl (ks.take (i + 1))) k' := by
        funext k'
        rw [e1, ddl_snoc]
        have := mem_ddStep (ddl (ks.take i)) x k'
        rw [Bool.eq_iff_iff, Bool.or_eq_true, inK_iff, inK_iff, this, decide_eq_true_iff]
      have eN : (if inK (ddl (ks.take i)) x = true then (ddl (ks.take i)).length else (ddl (ks.take i)).length + 1) = (ddl (ks.take (i + 1))).length := by rw [e1, ddl_snoc, ddStep_len]
      rw [← eS, ← eN]
      exact hS2
    refine wpAny_pure ⟨plainId_quiet PyProof.Rows.F.plain_set_update_loop _, ih (i + 1) _ (by omega) hlt (W.frame _ s' _ _ hst' (Nat.le_succ _) fun b hb o e => ?_) hSi fun s'' hm'' hS'' => ?_⟩
    · rw [hsb.2 b (fun h : b = S => hSf (by rw [← h]; exact hb))]; exact e
    · refine hR s'' (Moved.trans W.gtrans ((hm.mono hsub).then_heap (Nat.le_succ _) fun b o hb e => ?_) hm'') hS''
      rw [hsb.2 b (fun h : b = S => hb (by rw [h]; exact List.mem_cons_self))]; exact e
end
section
variable {prog : Program} {w : World} {A : Around} {E : Value → Shared → Prop} {s : Shared}
abbrev set0 (led : Bool) : Obj := { cls := .type "set", dict := none, data := .set #[] 0 (.fresh 0 0 led) }
theorem call_setKL {l : Addr} {items : Array Value} {ks : List Key} {Q : Value → Shared → Prop}
    (hh : A.handled = none) (hl : s.heap.IsList l items) (hn : ks.length = items.size) (hi : ∀ (i : Nat) (v : Value), items[i]? = some v → ∃ k, ks[i]? = some k ∧ keyIs k v = true ∧ v.scannable = true) (hb : items.size + 1 < scanBound)
    (h : ∀ (h' : Heap) (tk : Nat), h'.SetOf (mixKind prog w) s.heap.objs.size (fun k' => inK (ddl ks) k') (ddl ks).length →
      (∀ b o, b < s.heap.objs.size → s.heap.get? b = some o → h'.get? b = some o) → Q (.ref s.heap.objs.size) { s with heap := h', toks := tk }) :
    wpAny (model prog w) A (call (.type "set") [.ref l]) Q E s := by
  obtain ⟨c, tl, hmro⟩ := PySem.F.called_set.mro
  have hmade := PySem.F.called_set.made
  have hsub := PySem.F.called_set.sub
  refine wpAny_call (codeAny_of_tree ?_)
  show wpAny _ _ (callAny (.type "set") _) _ _ _
  refine wpAny_pure ⟨Code.quiet_builtin _ (by decide +kernel), codeAny_builtin PySem.F.entry_type_call ?_⟩
  rw [Around.under_plain (weight_type_call_type "set" [.ref l] []) rfl]
  have h1 := PySem.F.called_set.notType
  have h2 := PySem.F.called_set.canCreate
  have hct := PySem.F.typeCall_set_1 (.ref l)
  repeat (any_goals (first | assumption | wp_step))
  refine codeAny_mono (code_set_new_1 (.ref l) (E := E) (Q₁ := fun obj s₁ => ∃ led : Bool, obj = .ref s.heap.objs.size ∧ s₁ = { s with heap := s.heap.push (set0 led) }) fun led => ⟨led, rfl, rfl⟩) fun r s₁ hr => ?_
  cases r with
  | error e => exact hr
  | ok fl =>
    cases fl with
    | ret obj =>
      obtain ⟨led, rfl, rfl⟩ := hr
      have hS : (s.heap.push (set0 led)).get? s.heap.objs.size = some (set0 led) := Heap.get?_push_size _ rfl
      have hT : Shared.TypeIs { s with heap := s.heap.push (set0 led) } (.ref s.heap.objs.size) "set" := ⟨_, hS, rfl⟩
      have hli := PySem.F.called_set.init.lookup
      have hbi := PySem.F.called_set.init.bind (.ref s.heap.objs.size)
      repeat (any_goals (first | assumption | wp_step))
      refine codeAny_mono (codeAny_call_builtin (R := wants (fun r s₂ => r = .none ∧ ∃ h' tk, s₂ = { s with heap := h', toks := tk } ∧
          h'.SetOf (mixKind prog w) s.heap.objs.size (fun k' => inK (ddl ks) k') (ddl ks).length ∧
          (∀ b o, b < s.heap.objs.size → s.heap.get? b = some o → h'.get? b = some o)) E) PySem.F.called_set.init.plain PySem.F.entry_set_init (check_set_init_1 hT ?_)) fun r₂ s₂ hr₂ => ?_
      · obtain ⟨ol, hol, hcl, nl, hdl⟩ := hl
        obtain ⟨ocls, odict, odata, oslots⟩ := ol
        simp only at hcl hdl
        subst hcl; subst hdl
        have hol' : (s.heap.push (set0 led)).get? l = some { cls := .type "list", dict := odict, data := .seq items nl, slots := oslots } := Heap.get?_push_of_some _ hol
        have hsls := PySem.F.sub_list_set
        have hslf := PySem.F.sub_list_frozenset
        have hne : (Value.type "list" == Value.type "dict") = false := by decide
        have hl1 : (s.heap.push (set0 led)).IsList l items := ⟨_, hol', rfl, nl, rfl⟩
        unfold Builtin.«set.__init__» noKeywords Builtin.Frozenset.updateFrom
        generalize hPI : pyIter = PI
        wp_walk
        subst hPI
        refine wpAny_pyIter_list hl1 ?_
        refine wpAny_bind (wpAny_runValue ?_)
        have hlS : l < s.heap.objs.size := Heap.lt_size hol
        have hh3 : A.in1.in1.in1.handled = none := by simp [hh]
        have hneI : l ≠ (s.heap.push (set0 led)).objs.size := by
          rw [Heap.size_push]; exact Nat.ne_of_lt (Nat.lt_succ_of_lt hlS)
        have hSf : s.heap.objs.size ∉ [(s.heap.push (set0 led)).objs.size, l] := by
          rw [Heap.size_push]; simp only [List.mem_cons, List.mem_singleton, List.not_mem_nil, or_false, not_or]
          exact ⟨Nat.ne_of_lt (Nat.lt_succ_self _), Nat.ne_of_gt hlS⟩
        refine loopKey ((Walks.list hh3 _ l hneI items).toS) s.heap.objs.size
          hSf ks hn hi hb (items.size - 0) 0 _ (by omega) (Nat.zero_le _)
          ⟨⟨_, Heap.get?_push_size _ rfl, rfl, rfl⟩, (hl1.push _)⟩ ?hS0 ?hR
        case hS0 =>
          have hget : ((s.heap.push (set0 led)).push { cls := .type "list_iterator", data := .fields #[.ref l, .int 0 0] }).get? s.heap.objs.size = some (set0 led) := Heap.get?_push_of_some _ hS
          exact (PyProof.Rows.setObjOf_fresh (knd := mixKind prog w) led).setOf hget (by unfold scanBound; omega)
        case hR =>
          intro s' hm hS'
          obtain ⟨h', g', d', tk', os'⟩ := s'
          have eg : g' = s.gens := hm.gens
          have ed : d' = s.drawn := hm.drawn
          have eo : os' = s.os := hm.os
          subst eg; subst ed; subst eo
          show wpAny _ _ _ _ _ _
          refine wpAny_pure ?_
          show wpAny _ _ (ret Value.none) _ _ _
          refine wpAny_pure ⟨rfl, h', tk', rfl, hS', fun b o hb e => ?_⟩
          have hb1 : b ≠ s.heap.objs.size := Nat.ne_of_lt hb
          have hb2 : b ≠ (s.heap.push (set0 led)).objs.size := by
            rw [Heap.size_push]; exact Nat.ne_of_lt (Nat.lt_succ_of_lt hb)
          exact hm.heap b o (by simp only [List.mem_cons, List.mem_singleton, List.not_mem_nil, or_false, not_or]; exact ⟨hb1, hb2⟩) (Heap.get?_push_of_some _ (Heap.get?_push_of_some _ e))
      · cases r₂ with
        | error e => exact hr₂
        | ok fl₂ =>
          cases fl₂ with
          | ret r =>
            obtain ⟨rfl, h', tk, rfl, hS', hk'⟩ := hr₂
            repeat (any_goals (first | assumption | wp_step))
            exact h _ _ hS' hk'
          | _ => exact hr₂.elim
    | _ => exact hr.elim
theorem call_setKT {l : Addr} {items : Array Value} {ks : List Key} {Q : Value → Shared → Prop}
    (hh : A.handled = none) (hl : s.heap.IsTuple l items) (hn : ks.length = items.size) (hi : ∀ (i : Nat) (v : Value), items[i]? = some v → ∃ k, ks[i]? = some k ∧ keyIs k v = true ∧ v.scannable = true) (hb : items.size + 1 < scanBound)
    (h : ∀ (h' : Heap) (tk : Nat), h'.SetOf (mixKind prog w) s.heap.objs.size (fun k' => inK (ddl ks) k') (ddl ks).length →
      (∀ b o, b < s.heap.objs.size → s.heap.get? b = some o → h'.get? b = some o) → Q (.ref s.heap.objs.size) { s with heap := h', toks := tk }) :
    wpAny (model prog w) A (call (.type "set") [.ref l]) Q E s := by
  obtain ⟨c, tl, hmro⟩ := PySem.F.called_set.mro
  have hmade := PySem.F.called_set.made
  have hsub := PySem.F.called_set.sub
  refine wpAny_call (codeAny_of_tree ?_)
  show wpAny _ _ (callAny (.type "set") _) _ _ _
  refine wpAny_pure ⟨Code.quiet_builtin _ (by decide +kernel), codeAny_builtin PySem.F.entry_type_call ?_⟩
  rw [Around.under_plain (weight_type_call_type "set" [.ref l] []) rfl]
  have h1 := PySem.F.called_set.notType
  have h2 := PySem.F.called_set.canCreate
  have hct := PySem.F.typeCall_set_1 (.ref l)
  repeat (any_goals (first | assumption | wp_step))
  refine codeAny_mono (code_set_new_1 (.ref l) (E := E) (Q₁ := fun obj s₁ => ∃ led : Bool, obj = .ref s.heap.objs.size ∧ s₁ = { s with heap := s.heap.push (set0 led) }) fun led => ⟨led, rfl, rfl⟩) fun r s₁ hr => ?_
  cases r with
  | error e => exact hr
  | ok fl =>
    cases fl with
    | ret obj =>
      obtain ⟨led, rfl, rfl⟩ := hr
      have hS : (s.heap.push (set0 led)).get? s.heap.objs.size = some (set0 led) := Heap.get?_push_size _ rfl
      have hT : Shared.TypeIs { s with heap := s.heap.push (set0 led) } (.ref s.heap.objs.size) "set" := ⟨_, hS, rfl⟩
      have hli := PySem.F.called_set.init.lookup
      have hbi := PySem.F.called_set.init.bind (.ref s.heap.objs.size)
      repeat (any_goals (first | assumption | wp_step))
      refine codeAny_mono (codeAny_call_builtin (R := wants (fun r s₂ => r = .none ∧ ∃ h' tk, s₂ = { s with heap := h', toks := tk } ∧
          h'.SetOf (mixKind prog w) s.heap.objs.size (fun k' => inK (ddl ks) k') (ddl ks).length ∧
          (∀ b o, b < s.heap.objs.size → s.heap.get? b = some o → h'.get? b = some o)) E) PySem.F.called_set.init.plain PySem.F.entry_set_init (check_set_init_1 hT ?_)) fun r₂ s₂ hr₂ => ?_
      · obtain ⟨ol, hol, hcl, nl, hdl⟩ := hl
        obtain ⟨ocls, odict, odata, oslots⟩ := ol
        simp only at hcl hdl
        subst hcl; subst hdl
        have hol' : (s.heap.push (set0 led)).get? l = some { cls := .type "tuple", dict := odict, data := .seq items nl, slots := oslots } := Heap.get?_push_of_some _ hol
        have hsls := PySem.F.sub_tuple_set
        have hslf := PySem.F.sub_tuple_frozenset
        have hne : (Value.type "tuple" == Value.type "dict") = false := by decide
        have hl1 : (s.heap.push (set0 led)).IsTuple l items := ⟨_, hol', rfl, nl, rfl⟩
        unfold Builtin.«set.__init__» noKeywords Builtin.Frozenset.updateFrom
        generalize hPI : pyIter = PI
        wp_walk
        subst hPI
        refine wpAny_pyIter_tuple hl1 ?_
        refine wpAny_bind (wpAny_runValue ?_)
        have hlS : l < s.heap.objs.size := Heap.lt_size hol
        have hh3 : A.in1.in1.in1.handled = none := by simp [hh]
        have hneI : l ≠ (s.heap.push (set0 led)).objs.size := by
          rw [Heap.size_push]; exact Nat.ne_of_lt (Nat.lt_succ_of_lt hlS)
        have hSf : s.heap.objs.size ∉ [(s.heap.push (set0 led)).objs.size, l] := by
          rw [Heap.size_push]; simp only [List.mem_cons, List.mem_singleton, List.not_mem_nil, or_false, not_or]
          exact ⟨Nat.ne_of_lt (Nat.lt_succ_self _), Nat.ne_of_gt hlS⟩
        refine loopKey ((Walks.tuple hh3 _ l hneI items).toS) s.heap.objs.size
          hSf ks hn hi hb (items.size - 0) 0 _ (by omega) (Nat.zero_le _)
          ⟨⟨_, Heap.get?_push_size _ rfl, rfl, rfl⟩, (hl1.push _)⟩ ?hS0 ?hR
        case hS0 =>
          have hget : ((s.heap.push (set0 led)).push { cls := .type "tuple_iterator", data := .fields #[.ref l, .int 0 0] }).get? s.heap.objs.size = some (set0 led) := Heap.get?_push_of_some _ hS
          exact (PyProof.Rows.setObjOf_fresh (knd := mixKind prog w) led).setOf hget (by unfold scanBound; omega)
        case hR =>
          intro s' hm hS'
          obtain ⟨h', g', d', tk', os'⟩ := s'
          have eg : g' = s.gens := hm.gens
          have ed : d' = s.drawn := hm.drawn
          have eo : os' = s.os := hm.os
          subst eg; subst ed; subst eo
          show wpAny _ _ _ _ _ _
          refine wpAny_pure ?_
          show wpAny _ _ (ret Value.none) _ _ _
          refine wpAny_pure ⟨rfl, h', tk', rfl, hS', fun b o hb e => ?_⟩
          have hb1 : b ≠ s.heap.objs.size := Nat.ne_of_lt hb
          have hb2 : b ≠ (s.heap.push (set0 led)).objs.size := by
            rw [Heap.size_push]; exact Nat.ne_of_lt (Nat.lt_succ_of_lt hb)
          exact hm.heap b o (by simp only [List.mem_cons, List.mem_singleton, List.not_mem_nil, or_false, not_or]; exact ⟨hb1, hb2⟩) (Heap.get?_push_of_some _ (Heap.get?_push_of_some _ e))
      · cases r₂ with
        | error e => exact hr₂
        | ok fl₂ =>
          cases fl₂ with
          | ret r =>
            obtain ⟨rfl, h', tk, rfl, hS', hk'⟩ := hr₂
            repeat (any_goals (first | assumption | wp_step))
            exact h _ _ hS' hk'
          | _ => exact hr₂.elim
    | _ => exact hr.elim
end
end Fv
/-! EvT: sorted(set(xs)) of a list of ints; len(set(xs)). -/
namespace Fv
open PySem PySem.Spec PyProof.Rows L2
abbrev set1 (w : World) : Obj := { cls := .type "set", dict := none, data := .set #[] 0 (.fresh 0 0 (!w.params.followText "set-order")) }
section
variable {P : Program} {w : World} {A : Around} {E : Value → Shared → Prop} {s : Shared}
theorem call_set_lstI {l : Addr} {items : Array Value} (ns : List Int) {Q : Value → Shared → Prop} (hh : A.handled = none) (hl : s.heap.IsList l items) (hit : IntsAre items.toList ns) (hb : ns.length + 1 < scanBound)
    (h : ∀ (h' : Heap) (tk c : Nat), SetR w h' s.heap.objs.size (fun j => decide (j ∈ ns)) c → c ≤ ns.length → (∀ b o, s.heap.get? b = some o → h'.get? b = some o) → Q (.ref s.heap.objs.size) { s with heap := h', toks := tk }) :
    wpAny (model P w) A (call (.type "set") [.ref l]) Q E s := by
  have hisz : items.size = ns.length := by
    have q := IntsAre.length hit
    rw [Array.length_toList] at q
    exact q
  obtain ⟨c, tl, hmro⟩ := PySem.F.called_set.mro
  have hmade := PySem.F.called_set.made
  have hsub := PySem.F.called_set.sub
  refine wpAny_call (codeAny_of_tree ?_)
  show wpAny _ _ (callAny (.type "set") _) _ _ _
  refine wpAny_pure ⟨Code.quiet_builtin _ (by decide +kernel), codeAny_builtin PySem.F.entry_type_call ?_⟩
  rw [Around.under_plain (weight_type_call_type "set" [.ref l] []) rfl]
  have h1 := PySem.F.called_set.notType
  have h2 := PySem.F.called_set.canCreate
  have hct := PySem.F.typeCall_set_1 (.ref l)
  repeat (any_goals (first | assumption | wp_step))
  refine codeAny_mono (code_set_led1 (.ref l) (E := E) (Q₁ := fun obj s₁ => obj = .ref s.heap.objs.size ∧ s₁ = { s with heap := s.heap.push (set1 w) }) ⟨rfl, rfl⟩) fun r s₁ hr => ?_
  cases r with
  | error e => exact hr
  | ok fl =>
    cases fl with
    | ret obj =>
      obtain ⟨rfl, rfl⟩ := hr
      have hS : (s.heap.push (set1 w)).get? s.heap.objs.size = some (set1 w) := Heap.get?_push_size _ rfl
      have hT : Shared.TypeIs { s with heap := s.heap.push (set1 w) } (.ref s.heap.objs.size) "set" := ⟨_, hS, rfl⟩
      have hli := PySem.F.called_set.init.lookup
      have hbi := PySem.F.called_set.init.bind (.ref s.heap.objs.size)
      repeat (any_goals (first | assumption | wp_step))
      refine codeAny_mono (codeAny_call_builtin (R := wants (fun r s₂ => r = .none ∧ ∃ h' tk c, s₂ = { s with heap := h', toks := tk } ∧ SetR w h' s.heap.objs.size (fun j => decide (j ∈ ns)) c ∧ c ≤ ns.length ∧
          (∀ b o, s.heap.get? b = some o → h'.get? b = some o)) E) PySem.F.called_set.init.plain PySem.F.entry_set_init (check_set_init_1 hT ?_)) fun r₂ s₂ hr₂ => ?_
      · obtain ⟨ol, hol, hcl, nl, hdl⟩ := hl
        obtain ⟨ocls, odict, odata, oslots⟩ := ol
        simp only at hcl hdl
        subst hcl; subst hdl
        have hol' : (s.heap.push (set1 w)).get? l = some { cls := .type "list", dict := odict, data := .seq items nl, slots := oslots } := Heap.get?_push_of_some _ hol
        have hsls := PySem.F.sub_list_set
        have hslf := PySem.F.sub_list_frozenset
        have hne : (Value.type "list" == Value.type "dict") = false := by decide
        have hl1 : (s.heap.push (set1 w)).IsList l items := ⟨_, hol', rfl, nl, rfl⟩
        unfold Builtin.«set.__init__» noKeywords Builtin.Frozenset.updateFrom
        generalize hPI : pyIter = PI
        wp_walk
        subst hPI
        refine wpAny_pyIter_list hl1 ?_
        refine wpAny_bind (wpAny_runValue ?_)
        have hlS : l < s.heap.objs.size := Heap.lt_size hol
        have hh3 : A.in1.in1.in1.handled = none := by simp [hh]
        have hneI : l ≠ (s.heap.push (set1 w)).objs.size := by
          rw [Heap.size_push]; exact Nat.ne_of_lt (Nat.lt_succ_of_lt hlS)
        have hSf : s.heap.objs.size ∉ [(s.heap.push (set1 w)).objs.size, l] := by
          rw [Heap.size_push]; simp only [List.mem_cons, List.mem_singleton, List.not_mem_nil, or_false, not_or]
          exact ⟨Nat.ne_of_lt (Nat.lt_succ_self _), Nat.ne_of_gt hlS⟩
        have hval : ∀ (i : Nat) (v : Value), items[i]? = some v → ∃ k t, ns[i]? = some k ∧ v = .int k t := fun i v hv => by
          have hi : i < ns.length := by rw [← hisz]; exact (Array.getElem?_eq_some_iff.mp hv).1
          obtain ⟨t, e⟩ := PyProof.Rows.IntsAre.int_at hit i v (by rw [Array.getElem?_toList]; exact hv)
          refine ⟨ns[i], t, List.getElem?_eq_getElem hi, ?_⟩
          rw [e, List.getD_eq_getElem?_getD, List.getElem?_eq_getElem hi] <;> rfl
        refine set_update_ints ((Walks.list hh3 _ l hneI items).toS) s.heap.objs.size
          hSf ns hisz hb hval (items.size - 0) 0 _ (by omega) (Nat.zero_le _)
          ⟨⟨_, Heap.get?_push_size _ rfl, rfl, rfl⟩, (hl1.push _)⟩ ?hS0 ?hR
        case hS0 =>
          have hget : ((s.heap.push (set1 w)).push { cls := .type "list_iterator", data := .fields #[.ref l, .int 0 0] }).get? s.heap.objs.size = some (set1 w) := Heap.get?_push_of_some _ hS
          exact ⟨0, Nat.le_refl 0, setR_new_at hget⟩
        case hR =>
          intro s' c' hm hc' hS'
          obtain ⟨h', g2, d', tk', os'⟩ := s'
          have eg : g2 = s.gens := hm.gens
          have ed : d' = s.drawn := hm.drawn
          have eo : os' = s.os := hm.os
          subst eg; subst ed; subst eo
          show wpAny _ _ _ _ _ _
          refine wpAny_pure ?_
          show wpAny _ _ (ret Value.none) _ _ _
          rw [hisz] at hc'
          refine wpAny_pure ⟨rfl, h', tk', c', rfl, hS', hc', fun b o e => ?_⟩
          have hb0 : b < s.heap.objs.size := Heap.lt_size e
          have hb1 : b ≠ s.heap.objs.size := Nat.ne_of_lt hb0
          have hb2 : b ≠ (s.heap.push (set1 w)).objs.size := by
            rw [Heap.size_push]; exact Nat.ne_of_lt (Nat.lt_succ_of_lt hb0)
          exact hm.heap b o (by simp only [List.mem_cons, List.mem_singleton, List.not_mem_nil, or_false, not_or]; exact ⟨hb1, hb2⟩) (Heap.get?_push_of_some _ (Heap.get?_push_of_some _ e))
      · cases r₂ with
        | error e => exact hr₂
        | ok fl₂ =>
          cases fl₂ with
          | ret r =>
            obtain ⟨rfl, h', tk, c, rfl, hS', hc, hk'⟩ := hr₂
            repeat (any_goals (first | assumption | wp_step))
            exact h _ _ _ hS' hc hk'
          | _ => exact hr₂.elim
    | _ => exact hr.elim
end
end Fv
/-! Fv16: plain tuples, dicts of pairs, sets on the way. -/
namespace Fv
open PySem PySem.Spec PyProof.Rows L2
section
variable {X : Cx} {G : Gd} {W : XW} {pos : Pos} {es : List Expr}
/-! ### what isn't come to -/
def fBad : F := fun _ _ => .bad
theorem e_never {e : Expr} : PE X e (tE G W fBad) := ⟨fun pins s σ H Q I ⟨ρ, η, h, r, s', g⟩ => g.elim⟩
/-! ### a plain tuple -/
def tTupZ (t : TA) : TE := fun σ H Q => t σ H fun xs H1 => xs.length ≤ sizeLine ∧ ∀ (p : Addr) (o : Obj), H1 p = none → o.cls = .type "tuple" → o.dict = none → Q (.ref p) (upd H1 p (.frz o (.tup xs)))
theorem pe_tupZ {x1} {t : TA} (h : PA X es t) : PE X (.Tuple es x1 pos) (tTupZ t) := by
  refine ⟨fun pins s σ H Q I hq => ?_⟩
  refine wpAny_Tuple_spliced (thn (h.run pos pins s σ H _ I hq) fun us s1 ⟨xs, H1, I1, r, z, q⟩ => ⟨by rw [← r.length]; exact z, ?_⟩)
  have hf : H1 s1.heap.objs.size = none := I1.hok.fresh (Nat.le_refl _)
  refine ⟨.ref s1.heap.objs.size, upd H1 s1.heap.objs.size (.frz _ (.tup xs)), I1.laid (t' := s1.toks) (fun b u e => Heap.get?_push_of_some _ e) (Nat.le_refl _) ⟨Heap.get?_push_size _ rfl, z, us, r, ⟨_, Heap.get?_push_size _ rfl, rfl, _, rfl⟩⟩, rfl, q _ _ hf rfl rfl⟩
def fTupZ (a : FA) : F := fun η h => (a η h).bind fun xs h => if xs.length ≤ sizeLine then .ok (.tp xs) h else .bad
theorem e_tupZ {x1} {fr : FA} (ha : PA X es (tA G W fr)) : PE X (.Tuple es x1 pos) (tE G W (fTupZ fr)) :=
  (pe_tupZ ha).impX fun σ H Q ⟨ρ, η, h, r, s, g⟩ => by
    refine ⟨ρ, η, h, r, s, g.bind fun xs h1 ρ1 H1 e1 s1 f1 g1 xs' rxs => ?_⟩
    by_cases c : xs.length ≤ sizeLine
    · rw [if_pos c] at g1
      refine ⟨by rw [← rxs.length]; exact c, fun p o hp h1 h2 => ?_⟩
      exact g1.newT s1 hp _ (.tp ⟨o, upd_same, h1, h2⟩ (rxs.mono Sub.refl (frm_new hp)))
    · rw [if_neg c] at g1; exact g1.elim
/-! ### dict(x) -/
def pairS : SV → Option (SV × SV)
  | .tup [k, v] => some (k, v)
  | .tp [k, v] => some (k, v)
  | _ => none
def pairsS : List SV → Option (List (SV × SV))
  | [] => some []
  | x :: r => match pairS x with
    | some (k, v) => if isKS k = true then (match pairsS r with
      | some ps => some ((k, v) :: ps)
      | none => none) else none
    | none => none
theorem pairS_ok {ρ : Rho} {H : Hp} {x k v : SV} {x' : V} (r : Rep G ρ H x x') (e : pairS x = some (k, v)) : ∃ a k' v', x' = .ref a ∧ SqT G.K H a [k', v'] ∧ Rep G ρ H k k' ∧ Rep G ρ H v v' := by
  have key : ∀ {xs : List SV} {a : Addr} {vs : List V}, SqT G.K H a vs → RepL G ρ H xs vs → xs = [k, v] → ∃ b k' v', V.ref a = .ref b ∧ SqT G.K H b [k', v'] ∧ Rep G ρ H k k' ∧ Rep G ρ H v v' := fun sq rl ex => by
    subst ex
    obtain ⟨p, q, rfl, r1, r2⟩ := rep2 rl
    exact ⟨_, p, q, rfl, sq, r1, r2⟩
  unfold pairS at e
  split at e
  · rename_i k1 v1
    cases e
    cases r with
    | tup sq rl => exact key sq rl rfl
  · rename_i k1 v1
    cases e
    cases r with
    | tp sq rl => exact key sq.t rl rfl
  · cases e
theorem pairsS_ok {ρ : Rho} {H : Hp} : ∀ {xs : List SV} {vs : List V} {ps : List (SV × SV)}, RepL G ρ H xs vs → pairsS xs = some ps →
    ∃ (as : List Addr) (kvs : List (Key × V)), vs = as.map V.ref ∧ Paired (fun p kv => SqT G.K H p [kV kv.1, kv.2]) as kvs ∧ RepP G ρ H ps kvs
  | _, _, _, .nil, e => by cases e; exact ⟨[], [], rfl, .nil, trivial⟩
  | x :: xs, w :: vs, ps, .cons r t, e => by
    unfold pairsS at e
    cases q : pairS x with
    | none => rw [q] at e; cases e
    | some kv =>
      obtain ⟨k, v⟩ := kv
      rw [q] at e
      simp only at e
      by_cases c : isKS k = true
      · rw [if_pos c] at e
        cases q2 : pairsS xs with
        | none => rw [q2] at e; cases e
        | some ps2 =>
          rw [q2] at e
          cases e
          obtain ⟨a, k', v', rfl, sq, rk, rv⟩ := pairS_ok r q
          obtain ⟨k2, rfl⟩ := key_of rk c
          obtain ⟨as, kvs, rfl, pd, rp⟩ := pairsS_ok t q2
          exact ⟨a :: as, (k2, v') :: kvs, rfl, .cons sq pd, rk, rv, rp⟩
      · rw [if_neg c] at e; cases e
theorem pairs_stand {h : Heap} : ∀ {prs : List (Key × Value)} {ps : List Addr}, prs.length = ps.length →
    (∀ (j : Nat) (q : Key × Value), prs[j]? = some q → ∃ (b : Addr) (u : Value), ps[j]? = some b ∧ IsTup h b #[u, q.2] ∧ keyIs q.1 u = true) →
    ∃ kv : List (Value × Value), kv.length = ps.length ∧ ∀ (j : Nat) (k v : Value), kv[j]? = some (k, v) → ∃ (b : Addr) (q : Key × Value), ps[j]? = some b ∧ prs[j]? = some q ∧ q.2 = v ∧ IsTup h b #[k, v] ∧ keyIs q.1 k = true
  | [], ps, hl, _ => ⟨[], by simpa using hl, fun j k v e => by simp at e⟩
  | p0 :: prs, [], hl, _ => by simp at hl
  | p0 :: prs, b0 :: ps, hl, hpr => by
    obtain ⟨b, u, e1, e2, e3⟩ := hpr 0 p0 rfl
    have e1 : b0 = b := by simpa using e1
    subst e1
    obtain ⟨kv, k1, k2⟩ := pairs_stand (prs := prs) (ps := ps) (by simpa using hl) (fun j q e => by
      obtain ⟨b, u, e1, e2, e3⟩ := hpr (j + 1) q (by simpa using e)
      exact ⟨b, u, by simpa using e1, e2, e3⟩)
    refine ⟨(u, p0.2) :: kv, by simp [k1], fun j k v e => ?_⟩
    cases j with
    | zero =>
      have e : (u, p0.2) = (k, v) := by simpa using e
      cases e
      exact ⟨b0, p0, rfl, rfl, rfl, e2, e3⟩
    | succ j =>
      obtain ⟨b, q, z1, z2, z3⟩ := k2 j k v (by simpa using e)
      exact ⟨b, q, by simpa using z1, by simpa using z2, z3⟩
/-- dict(t) of a plain tuple of pairs -/
theorem call_dictT (hcalm : X.calm = true) : CallR X (.type "dict") (fun xs H Q => ∃ (a : Addr) (ps : List Addr) (kvs : List (Key × V)), xs = [.ref a] ∧ PlT H a (ps.map V.ref) ∧ Paired (fun p kv => SqT X.K H p [kV kv.1, kv.2]) ps kvs ∧
    ∀ p, H p = none → Q (.ref p) (upd H p (.dK (mergeK [] kvs)))) := by
  intro pins s σ H xs us Q I r q
  obtain ⟨a, ps, kvs, ex, hq, hp, q⟩ := q
  subst ex
  obtain ⟨u, eu, rx⟩ := vals1 r
  subst eu
  cases rx
  obtain ⟨o, e1, hcls, hd⟩ := hq
  obtain ⟨ho, hz, its, rv, o2, ho2, hc2, n, hdat⟩ := I.hok a _ e1
  rw [ho] at ho2; cases ho2
  have ei := refs_at rv
  subst ei
  rw [List.length_map] at hz
  obtain ⟨prs, rel, hl, hpr⟩ := pairs_of I hp
  have hex := pairs_stand hl hpr
  obtain ⟨kv, kl, hkv⟩ := hex
  refine PySem.call_dict_pairs (knd := mixKind X.prog X.w) (kvs := prs) (PySem.PairArg.tuple a (ps.map Value.ref).toArray (fun j => ps.getD j 0) kv) (I.ok.hd hcalm)
    ⟨⟨o, n, ho, hcls, hd, hdat⟩, by simp [kl], fun j k v e => ?_⟩ ⟨by rw [hl, kl], fun j k v e => ?_⟩ (by rw [kl]; exact hz) fun h' tk hd' k => ?_
  · obtain ⟨b, q', z1, z2, z3, z4, z5⟩ := hkv j k v e
    have : ps.getD j 0 = b := by rw [List.getD_eq_getElem?_getD, z1]; rfl
    show (List.map Value.ref ps).toArray[j]? = some (Value.ref (ps.getD j 0)) ∧ PySem.PairAt s.heap (ps.getD j 0) k v
    rw [this]
    exact ⟨by simp [z1], .inl z4⟩
  · obtain ⟨b, q', z1, z2, z3, z4, z5⟩ := hkv j k v e
    subst z3
    exact ⟨q'.1, z2, z5⟩
  · have hm : (s.heap.objs.size == sysModules) = false := beq_eq_false_iff_ne.mpr (Nat.ne_of_gt I.big)
    have hlen : (mergeK [] kvs).length ≤ sizeLine := by
      refine Nat.le_trans (length_mergeK kvs []) ?_
      rw [List.length_nil, Nat.zero_add, rel.length, hl]
      exact hz
    exact ⟨.ref s.heap.objs.size, upd H s.heap.objs.size (.dK (mergeK [] kvs)), I.laid (t' := tk) (fun b o' e => k b o' (by simp) e) (Nat.le_refl _) (show ObjOk X.prog X.w _ _ _ (.dK (mergeK [] kvs)) from ⟨hlen, hm, merged [] prs, KV.merge rel .nil, hd'⟩), rfl, q _ (I.hok.fresh (Nat.le_refl _))⟩
def gDictP : GL := fun xs h => match xs with
  | [.tp ys] => match pairsS ys with
    | some ps => .ok (.loc h.nx) (h.new (.dic (mergeS [] ps)))
    | none => .bad
  | [x] => match lstOf h x with
    | some ys => match pairsS ys with
      | some ps => .ok (.loc h.nx) (h.new (.dic (mergeS [] ps)))
      | none => .bad
    | none => match dicOf h x with
      | some kvs => .ok (.loc h.nx) (h.new (.dic kvs))
      | none => .bad
  | _ => .bad
def rDictU (K : PySem.W.Frag) : List V → Hp → VK → Prop := fun xs H Q =>
  ((∃ (a : Addr) (ps : List Addr) (kvs : List (Key × V)), xs = [.ref a] ∧ SqL K H a (ps.map V.ref) ∧ Paired (fun p kv => SqT K H p [kV kv.1, kv.2]) ps kvs ∧ ∀ p, H p = none → Q (.ref p) (upd H p (.dK (mergeK [] kvs)))) ∨
  (∃ (a : Addr) (ps : List Addr) (kvs : List (Key × V)), xs = [.ref a] ∧ PlT H a (ps.map V.ref) ∧ Paired (fun p kv => SqT K H p [kV kv.1, kv.2]) ps kvs ∧ ∀ p, H p = none → Q (.ref p) (upd H p (.dK (mergeK [] kvs))))) ∨
  ∃ (a : Addr) (kvs : List (Key × V)), xs = [.ref a] ∧ Rd H a (.dK kvs) ∧ ∀ p, H p = none → Q (.ref p) (upd H p (.dK kvs))
theorem call_dictU (hc : X.calm = true) : CallR X (.type "dict") (rDictU X.K) := .or (.or (call_dictP hc) (call_dictT hc)) call_dictD
theorem new_dic {ρ : Rho} {h : SH} {H : Hp} {Q : VK} {ps : List (SV × SV)} {kvs : List (Key × V)} (s : Sim G ρ h H) (g : Good G W ρ H (.ok (.loc h.nx) (h.new (.dic ps))) (RQ G Q)) (rp : RepP G ρ H ps kvs) : ∀ p, H p = none → Q (.ref p) (upd H p (.dK kvs)) := fun p hp =>
  g.new (u := .dK kvs) (o := .dic ps) s hp trivial ⟨kvs, upd_same, rp.mono (s.sub hp) (frm_new hp)⟩ _ (.loc radd_same)
theorem cg_dictU : CaG G W (rDictU G.K) gDictP := by
  intro ρ h H xs xs' Q s rx g
  rcases xs with _ | ⟨x, _ | ⟨_, _⟩⟩
  · exact g.elim
  · obtain ⟨v, rfl, r⟩ := rep1 rx
    have key : Good G W ρ H (match lstOf h x with
    | some ys => match pairsS ys with
      | some ps => .ok (.loc h.nx) (h.new (.dic (mergeS [] ps)))
      | none => .bad
    | none => match dicOf h x with
      | some kvs => .ok (.loc h.nx) (h.new (.dic kvs))
      | none => .bad : Out SV) (RQ G Q) → rDictU G.K [v] H Q := fun g => by
      cases e : lstOf h x with
      | some ys =>
        rw [e] at g
        simp only at g
        cases e2 : pairsS ys with
        | none => rw [e2] at g; exact g.elim
        | some ps =>
          rw [e2] at g
          obtain ⟨a, vs, rfl, ha, rl⟩ := lstOf_ok s r e
          obtain ⟨as, kvs, rfl, pd, rp⟩ := pairsS_ok rl e2
          exact .inl (.inl ⟨a, as, kvs, rfl, .inl (.inl ha), pd, new_dic s g (mergeS_ok rp trivial List.nodup_nil)⟩)
      | none =>
        rw [e] at g
        simp only at g
        cases e2 : dicOf h x with
        | none => rw [e2] at g; exact g.elim
        | some kvs =>
          rw [e2] at g
          obtain ⟨a, vs, rfl, ha, rp⟩ := dicOf_ok s r e2
          exact .inr ⟨a, vs, rfl, .inl ha, new_dic s g rp⟩
    unfold gDictP at g
    cases r with
    | tp sq rl =>
      rename_i ys a vs
      simp only at g
      cases e2 : pairsS ys with
      | none => rw [e2] at g; exact g.elim
      | some ps =>
        rw [e2] at g
        obtain ⟨as, kvs, rfl, pd, rp⟩ := pairsS_ok rl e2
        exact .inl (.inr ⟨a, as, kvs, rfl, sq, pd, new_dic s g (mergeS_ok rp trivial List.nodup_nil)⟩)
    | _ => exact key g
  · cases x <;> exact g.elim
/-! ### in, of any data -/
def gInD (neg : Bool) : G2 := fun x y h => match gIn neg x y h with
  | .bad => match toD h 60 x, toD h 60 y with
    | some d, some (.list ds) => if (SeqAt.shaped d && SeqAt.shaped (.list ds)) = true then .ok (.bl (if neg then !(ds.any fun z => PyData.eqv z d) else ds.any fun z => PyData.eqv z d)) h else .bad
    | _, _ => .bad
  | o => o
def rInUD (K : PySem.W.Frag) (neg : Bool) : R2 := fun x y H Q => rInU K neg x y H Q ∨ ∃ d ds, Dp K H x d ∧ Dp K H y (.list ds) ∧ SeqAt.shaped d = true ∧ SeqAt.shaped (.list ds) = true ∧ Q (.bl (if neg then !(ds.any fun z => PyData.eqv z d) else ds.any fun z => PyData.eqv z d)) H
theorem op_inUD (hu : X.A.units + 65 < cLine) : OpR X (compareOp .In) (rInUD X.K false) := .or op_inU (op_inD hu)
theorem op_notInUD (hu : X.A.units + 65 < cLine) : OpR X (compareOp .NotIn) (rInUD X.K true) := .or op_notInU (op_notInD hu)
theorem og_inD {neg : Bool} : OpG G W (rInUD G.K neg) (gInD neg) := by
  intro ρ h H x y x' y' Q s rx ry g
  unfold gInD at g
  cases q : gIn neg x y h with
  | ok v h' => rw [q] at g; exact .inl (og_in ρ h H x y x' y' Q s rx ry (by rw [q]; exact g))
  | exc v h' => rw [q] at g; exact .inl (og_in ρ h H x y x' y' Q s rx ry (by rw [q]; exact g))
  | bad =>
    rw [q] at g
    simp only at g
    cases e1 : toD h 60 x with
    | none => simp only [e1] at g; exact g.elim
    | some d =>
      cases e2 : toD h 60 y with
      | none => simp only [e1, e2] at g; exact g.elim
      | some e =>
        cases e with
        | list ds =>
          simp only [e1, e2] at g
          by_cases c : (SeqAt.shaped d && SeqAt.shaped (.list ds)) = true
          · rw [if_pos c] at g
            obtain ⟨c1, c2⟩ := Bool.and_eq_true_iff.mp c
            exact .inr ⟨d, ds, toD_ok s 60 _ _ _ rx e1, toD_ok s 60 _ _ _ ry e2, c1, c2, g.here s _ (.bl _)⟩
          · rw [if_neg c] at g; exact g.elim
        | _ => simp only [e1, e2] at g; exact g.elim
theorem units65_of {k : Nat} {A : Around} (hr : Room k A) : A.units + 65 < cLine := by have := units66_of hr; omega
end
end Fv
/-! Fv17: len(set(..)), sorted(set(..)). -/
namespace Fv
open PySem PySem.Spec PyProof.Rows L2
section
variable {X : Cx} {G : Gd} {W : XW} {pos : Pos}
theorem keys_at {P : Program} {w : World} {ks : List Key} {us : List Value} (r : Vals (ks.map kV) us) : ∀ (i : Nat) (v : Value), us[i]? = some v → ∃ k, ks[i]? = some k ∧ keyIs k v = true ∧ v.scannable = true := by
  induction ks generalizing us with
  | nil => cases r; intro i v e; simp at e
  | cons k ks ih =>
    cases r with
    | @cons _ b _ _ r1 rt =>
      intro i v e
      cases i with
      | zero =>
        have e : b = v := by simpa using e
        subst e
        refine ⟨k, rfl, kV_is (P := P) (w := w) r1, ?_⟩
        cases k with
        | inl i => obtain ⟨t, rfl⟩ := r1; rfl
        | inr x => obtain ⟨t, rfl⟩ := r1; rfl
      | succ i => simpa using ih rt i v (by simpa using e)
def tLenSetG (K : PySem.W.Frag) (ta : TE) : TE := fun σ H Q => ta σ H fun x H1 => ∃ l, ∃ ks : List Key, x = .ref l ∧ (SqL K H1 l (ks.map kV) ∨ SqT K H1 l (ks.map kV)) ∧ ks.length + 1 < scanBound ∧ Q (.int (ddl ks).length) H1
theorem pe_lenSetG {a : Expr} {ta : TE} {p p2 q pos : Pos} (hc : X.calm = true) (hg : Gl X "len") (hm : X.mg "len" = none) (hg2 : Gl X "set") (hm2 : X.mg "set" = none) (ha : PE X a ta)
    (na : starEach [a] X.env = (false, eval a X.env) :: starEach [] X.env := by rfl) : PE X (.Call (.Name "len" p) [.Call (.Name "set" p2) [a] [] q] [] pos) (tLenSetG X.K ta) := by
  refine ⟨fun pins s σ H Q I h => ?_⟩
  refine Call_ (ld_blt I hg hm boot_len ?_)
  refine PyProof.Rows.callWith_builtin1 (PyProof.Rows.args_cons ?_ rfl) rfl rfl
  refine Call_ (ld_blt I hg2 hm2 boot_set ?_)
  refine PyProof.Rows.callWith_type1 (PyProof.Rows.args_cons (thn (ha.run pins s σ H _ I h) fun v s1 ⟨x, H1, I1, r1, q1⟩ => PyProof.Rows.args_nil ?_) na) na rfl
  obtain ⟨l, ks, rfl, hq, h1, q1⟩ := q1
  cases r1
  have fin : ∀ (h' : Heap) (tk : Nat), h'.SetOf (mixKind X.prog X.w) s1.heap.objs.size (fun k' => inK (ddl ks) k') (ddl ks).length →
      (∀ b o, b < s1.heap.objs.size → s1.heap.get? b = some o → h'.get? b = some o) →
      wpAny (model X.prog X.w) X.A (spliced (backTo pos (starEach [] X.env))) (fun vs s₂ => wpAny (model X.prog X.w) X.A (call (.builtin "len") (Value.ref s1.heap.objs.size :: vs)) (EP X pins σ Q) X.xe s₂) X.xe { s1 with heap := h', toks := tk } := fun h' tk hS hk => by
    refine PyProof.Rows.args_nil ?_
    obtain ⟨o, es, ep, t, ho, hex, hd, _, _, _, hf, hn⟩ := hS
    have I2 : Inv X pins σ H1 { s1 with heap := h', toks := tk } := I1.kept fun b o e => hk b o (Heap.lt_size e) e
    have hle := ddl_le ks
    have hsb : scanBound = 4096 := rfl
    refine call_len_set ho hex hd hf (by rw [hn] <;> omega) ⟨.int (ddl ks).length, H1, I2.tok _, ⟨_, by rw [hn]⟩, q1⟩
  rcases hq with hq | hq
  · obtain ⟨its, r, pl, hz⟩ := I1.list hq
    have hl : its.toArray.size = ks.length := by rw [List.size_toArray, ← r.length, List.length_map]
    exact call_setKL (I1.ok.hd hc) pl.isList hl.symm (fun i v e => keys_at (P := X.prog) (w := X.w) r i v (by simpa using e)) (by rw [hl]; exact h1) fun h' tk hS hk => fin h' tk hS hk
  · obtain ⟨its, r, pl, hz⟩ := I1.tuple hq
    have hl : its.toArray.size = ks.length := by rw [List.size_toArray, ← r.length, List.length_map]
    exact call_setKT (I1.ok.hd hc) pl hl.symm (fun i v e => keys_at (P := X.prog) (w := X.w) r i v (by simpa using e)) (by rw [hl]; exact h1) fun h' tk hS hk => fin h' tk hS hk
/-- what is there once -/
def ddS (l : List SV) : List SV := l.foldl (fun acc v => if acc.any (fun y => eqKS y v) = true then acc else acc ++ [v]) []
def RepK (G : Gd) (ρ : Rho) (H : Hp) (xs : List SV) (ks : List Key) : Prop := RepL G ρ H xs (ks.map kV)
theorem any_ok {ρ : Rho} {H : Hp} {x : SV} {k : Key} (rx : Rep G ρ H x (kV k)) : ∀ {xs : List SV} {ks : List Key}, RepK G ρ H xs ks → (xs.any fun y => eqKS y x) = inK ks k
  | [], [], _ => rfl
  | y :: xs, j :: ks, r => by
    cases r with
    | cons r1 rt =>
      show (eqKS y x || xs.any fun y => eqKS y x) = (decide (j = k) || inK ks k)
      rw [eqKS_ok r1 rx, any_ok rx rt]
  | [], _ :: _, r => by cases r
  | _ :: _, [], r => by cases r
theorem ddS_go {ρ : Rho} {H : Hp} : ∀ {xs : List SV} {ks : List Key} {acc : List SV} {ak : List Key}, RepK G ρ H xs ks → RepK G ρ H acc ak →
    RepK G ρ H (xs.foldl (fun acc v => if acc.any (fun y => eqKS y v) = true then acc else acc ++ [v]) acc) (ks.foldl ddStep ak)
  | [], [], _, _, _, ra => ra
  | x :: xs, k :: ks, acc, ak, r, ra => by
    cases r with
    | cons r1 rt =>
      rw [List.foldl_cons, List.foldl_cons]
      refine ddS_go rt ?_
      unfold ddStep
      rw [any_ok r1 ra]
      by_cases c : inK ak k = true
      · rw [if_pos c, if_pos c]; exact ra
      · rw [if_neg c, if_neg c]
        show RepL G ρ H (acc ++ [x]) ((ak ++ [k]).map kV)
        rw [List.map_append]
        exact RepL.append ra (.cons r1 .nil)
  | [], _ :: _, _, _, r, _ => by cases r
  | _ :: _, [], _, _, r, _ => by cases r
theorem ddS_ok {ρ : Rho} {H : Hp} {xs : List SV} {ks : List Key} (r : RepK G ρ H xs ks) : (ddS xs).length = (ddl ks).length := by
  have := (ddS_go r (acc := []) (ak := []) .nil).length
  rw [List.length_map] at this
  exact this
theorem keysOf {ρ : Rho} {H : Hp} : ∀ {xs : List SV} {vs : List V}, RepL G ρ H xs vs → xs.all isKS = true → ∃ ks : List Key, vs = ks.map kV
  | _, _, .nil, _ => ⟨[], rfl⟩
  | x :: xs, v :: vs, .cons r t, c => by
    rw [List.all_cons, Bool.and_eq_true] at c
    obtain ⟨k, rfl⟩ := key_of r c.1
    obtain ⟨ks, rfl⟩ := keysOf t c.2
    exact ⟨k :: ks, rfl⟩
def gLenSet : G1 := fun x h => match items h x with
  | some xs => if (xs.all isKS && decide (xs.length ≤ 4000)) = true then .ok (.int (ddS xs).length) h else .bad
  | none => .bad
theorem e_lenSet {a : Expr} {fa : F} {p p2 q : Pos} (hK : X.K = G.K) (hc : X.calm = true) (hg : Gl X "len") (hm : X.mg "len" = none) (hg2 : Gl X "set") (hm2 : X.mg "set" = none) (ha : PE X a (tE G W fa))
    (na : starEach [a] X.env = (false, eval a X.env) :: starEach [] X.env := by rfl) : PE X (.Call (.Name "len" p) [.Call (.Name "set" p2) [a] [] q] [] pos) (tE G W (fUn gLenSet fa)) :=
  (pe_lenSetG hc hg hm hg2 hm2 ha na).impX fun σ H Q ⟨ρ, η, h, r, s, g⟩ => by
    refine ⟨ρ, η, h, r, s, g.bind fun x h1 ρ1 H1 e1 s1 f1 g1 x' rx => ?_⟩
    unfold gLenSet at g1
    cases q : items h1 x with
    | none => rw [q] at g1; exact g1.elim
    | some xs =>
      rw [q] at g1
      simp only at g1
      by_cases c : (xs.all isKS && decide (xs.length ≤ 4000)) = true
      · rw [if_pos c] at g1
        obtain ⟨c1, c2⟩ := Bool.and_eq_true_iff.mp c
        obtain ⟨a', vs, rfl, sq, rl⟩ := items_ok s1 rx q
        obtain ⟨ks, rfl⟩ := keysOf rl c1
        have hl := rl.length
        rw [List.length_map] at hl
        have c2 := of_decide_eq_true c2
        have hsb : scanBound = 4096 := rfl
        refine ⟨a', ks, rfl, by rw [hK]; exact sq, by omega, ?_⟩
        rw [← ddS_ok rl]
        exact g1.here s1 _ (.int _)
      · rw [if_neg c] at g1; exact g1.elim
/-! ### sorted(set(xs)) -/
def insU (x : Int) : List Int → List Int
  | [] => [x]
  | y :: r => if x < y then x :: y :: r else if x = y then y :: r else y :: insU x r
def usort : List Int → List Int
  | [] => []
  | x :: r => insU x (usort r)
theorem mem_insU {x z : Int} : ∀ {l : List Int}, z ∈ insU x l ↔ z = x ∨ z ∈ l
  | [] => by simp [insU]
  | y :: r => by
    unfold insU
    split
    · simp
    · split
      · rename_i h; subst h; simp
      · simp only [List.mem_cons, mem_insU]
        constructor
        · rintro (h | h | h) <;> simp [h]
        · rintro (h | h | h) <;> simp [h]
theorem insU_pw {x : Int} : ∀ {l : List Int}, l.Pairwise (· < ·) → (insU x l).Pairwise (· < ·)
  | [], _ => by simp [insU]
  | y :: r, h => by
    rw [List.pairwise_cons] at h
    unfold insU
    split
    · rename_i c
      rw [List.pairwise_cons, List.pairwise_cons]
      refine ⟨fun z hz => ?_, h⟩
      rcases List.mem_cons.mp hz with rfl | hz
      · exact c
      · exact Int.lt_trans c (h.1 z hz)
    · split
      · rw [List.pairwise_cons]; exact h
      · rename_i c1 c2
        rw [List.pairwise_cons]
        refine ⟨fun z hz => ?_, insU_pw h.2⟩
        rcases mem_insU.mp hz with rfl | hz
        · omega
        · exact h.1 z hz
theorem usort_pw : ∀ l : List Int, (usort l).Pairwise (· < ·)
  | [] => List.Pairwise.nil
  | x :: r => insU_pw (usort_pw r)
theorem mem_usort {z : Int} : ∀ {l : List Int}, z ∈ usort l ↔ z ∈ l
  | [] => by simp [usort]
  | x :: r => by rw [usort, mem_insU, mem_usort]; simp
theorem pw_uniq : ∀ {a b : List Int}, a.Pairwise (· < ·) → b.Pairwise (· < ·) → (∀ z, z ∈ a ↔ z ∈ b) → a = b
  | [], [], _, _, _ => rfl
  | [], y :: b, _, _, h => by have := (h y).mpr (List.mem_cons_self); cases this
  | x :: a, [], _, _, h => by have := (h x).mp (List.mem_cons_self); cases this
  | x :: a, y :: b, ha, hb, h => by
    rw [List.pairwise_cons] at ha hb
    have e : x = y := by
      rcases List.mem_cons.mp ((h x).mp (List.mem_cons_self)) with e | e
      · exact e
      · rcases List.mem_cons.mp ((h y).mpr (List.mem_cons_self)) with e2 | e2
        · exact e2.symm
        · have h1 := hb.1 x e
          have h2 := ha.1 y e2
          omega
    subst e
    rw [pw_uniq ha.2 hb.2 fun z => ?_]
    constructor
    · intro hz
      rcases List.mem_cons.mp ((h z).mp (List.mem_cons_of_mem _ hz)) with e | e
      · have := ha.1 z hz; omega
      · exact e
    · intro hz
      rcases List.mem_cons.mp ((h z).mpr (List.mem_cons_of_mem _ hz)) with e | e
      · have := hb.1 z hz; omega
      · exact e
def tSortSet (K : PySem.W.Frag) (ta : TE) : TE := fun σ H Q => ta σ H fun x H1 => ∃ l, ∃ ns : List Int, x = .ref l ∧ SqL K H1 l (ns.map V.int) ∧ ns.length < 64 ∧ ∀ (z : Addr) (o : HO) (p : Addr), H1 z = none → upd H1 z o p = none → Q (.ref p) (upd (upd H1 z o) p (.lst ((usort ns).map V.int)))
theorem boot_sorted' : bootBuiltins "sorted" = some (.builtin "sorted") := by decide +kernel
theorem pe_sortSet {a : Expr} {ta : TE} {p p2 q pos : Pos} (hc : X.calm = true) (hg : Gl X "sorted") (hm : X.mg "sorted" = none) (hg2 : Gl X "set") (hm2 : X.mg "set" = none) (ha : PE X a ta)
    (na : starEach [a] X.env = (false, eval a X.env) :: starEach [] X.env := by rfl) : PE X (.Call (.Name "sorted" p) [.Call (.Name "set" p2) [a] [] q] [] pos) (tSortSet X.K ta) := by
  refine ⟨fun pins s σ H Q I h => ?_⟩
  refine Call_ (ld_blt I hg hm boot_sorted' ?_)
  refine PyProof.Rows.callWith_builtin1 (PyProof.Rows.args_cons ?_ rfl) rfl rfl
  refine Call_ (ld_blt I hg2 hm2 boot_set ?_)
  refine PyProof.Rows.callWith_type1 (PyProof.Rows.args_cons (thn (ha.run pins s σ H _ I h) fun v s1 ⟨x, H1, I1, r1, q1⟩ => PyProof.Rows.args_nil ?_) na) na rfl
  obtain ⟨l, ns, rfl, hq, h1, q1⟩ := q1
  cases r1
  obtain ⟨its, r, pl, hz⟩ := I1.list hq
  have hsb : scanBound = 4096 := rfl
  refine call_set_lstI ns (I1.ok.hd hc) pl.isList (by simpa using ints_of_vals r) (by omega) fun h' tk c R hcn hk => ?_
  refine PyProof.Rows.args_nil ?_
  have I2 : Inv X pins σ (upd H1 s1.heap.objs.size (SetO X.w s1.heap.objs.size (fun j => decide (j ∈ ns)) c)) { s1 with heap := h', toks := tk } := I1.laid hk (Nat.le_refl _) (setO_new R)
  have hf : H1 s1.heap.objs.size = none := I1.hok.fresh (Nat.le_refl _)
  refine cr_sortedSet hc pins _ σ _ [V.ref s1.heap.objs.size] [Value.ref s1.heap.objs.size] Q I2 (.cons rfl .nil) ⟨_, _, _, rfl, upd_same, by omega, fun ns' p hs hm hl hp => ?_⟩
  have e : ns' = usort ns := pw_uniq hs (usort_pw ns) fun z => by rw [hm z, mem_usort]; simp
  subst e
  exact q1 _ _ p hf hp
def gSortSet : G1 := fun x h => match lstOf h x with
  | some xs => match intsOf xs with
    | some ns => if ns.length < 64 then .ok (.loc h.nx) (h.new (.lst ((usort ns).map .int))) else .bad
    | none => .bad
  | none => .bad
theorem e_sortSet {a : Expr} {fa : F} {p p2 q : Pos} (hK : X.K = G.K) (hc : X.calm = true) (hg : Gl X "sorted") (hm : X.mg "sorted" = none) (hg2 : Gl X "set") (hm2 : X.mg "set" = none) (ha : PE X a (tE G W fa))
    (na : starEach [a] X.env = (false, eval a X.env) :: starEach [] X.env := by rfl) : PE X (.Call (.Name "sorted" p) [.Call (.Name "set" p2) [a] [] q] [] pos) (tE G W (fUn gSortSet fa)) :=
  (pe_sortSet hc hg hm hg2 hm2 ha na).impX fun σ H Q ⟨ρ, η, h, r, s, g⟩ => by
    refine ⟨ρ, η, h, r, s, g.bind fun x h1 ρ1 H1 e1 s1 f1 g1 x' rx => ?_⟩
    unfold gSortSet at g1
    cases q : lstOf h1 x with
    | none => rw [q] at g1; exact g1.elim
    | some xs =>
      rw [q] at g1
      simp only at g1
      cases q2 : intsOf xs with
      | none => rw [q2] at g1; exact g1.elim
      | some ns =>
        rw [q2] at g1
        simp only at g1
        by_cases c : ns.length < 64
        · rw [if_pos c] at g1
          obtain ⟨a', vs, rfl, ha, rl⟩ := lstOf_ok s1 rx q
          have e := intsOf_ok rl q2
          subst e
          refine ⟨a', ns, rfl, .inl (.inl ha), c, fun z o p hz hp => ?_⟩
          have s2 := s1.newT (o := o) hz
          have g2 := Good.step (Ext.refl s1) (frm_new (o := o) hz) g1
          exact g2.new (u := .lst ((usort ns).map V.int)) (o := .lst ((usort ns).map .int)) s2 hp trivial (repO_lst s2 hp (repL_ints _)) _ (.loc radd_same)
        · rw [if_neg c] at g1; exact g1.elim
end
end Fv
namespace Fv
open PySem PySem.Spec PyProof.Rows L2
section
variable {X : Cx} {G : Gd} {W : XW} {pos : Pos} {tg : Expr}
theorem e_lcV {elt iter : Expr} {ifs : List Expr} {scope : Scope} {vs : List Nat} {fi : FI} {is : List Nat} {t : GT} {tc : FT} {fe : F} (own : List (Str × Nat)) (hc : X.calm = true) (hN : X.N.Nodup) (hi : PI X tg iter (tI G W fi)) (ok : BlkOk X.N X.env.scope scope own)
    (hg : ∀ (s : Shared) (H : Hp) (C : Addr) (cl : List (Str × Addr)) (fp : List Addr), PG (X.blk s H scope (compEnvC scope cl C X.env) fp) tg (tG G WN is t)) (ht : ∀ (s : Shared) (H : Hp) (C : Addr) (cl : List (Str × Addr)) (fp : List Addr), PTs (X.blk s H scope (compEnvC scope cl C X.env) fp) ifs (tT G WN tc))
    (he : ∀ (s : Shared) (H : Hp) (C : Addr) (cl : List (Str × Addr)) (fp : List Addr), PE (X.blk s H scope (compEnvC scope cl C X.env) fp) elt (tE G WN fe)) (hv : ∀ i ∈ is, i ∈ own.map (·.2)) (hvs : own.map (·.2) = vs := by rfl) (hs : ∀ x, foldedSetIterable iter X.env x = pure x := by intro _; rfl) :
    PE X (.ListComp elt [⟨tg, iter, ifs, 0⟩] scope pos) (tE G W (fLc fi t tc fe vs)) := hvs ▸ e_lc hc hN hi ok hg ht he hv hs
theorem s_setLcV {i : Nat} {y : Str} {py : Pos} {elt iter : Expr} {ifs : List Expr} {scope : Scope} {vs : List Nat} {spos : Pos} {fi : FI} {is : List Nat} {t : GT} {tc : FT} {fe : F} (own : List (Str × Nat)) (hc : X.calm = true) (hN : X.N.Nodup) (hy : X.N[i]? = some y) (hyl : X.env.scope.names.lookup y = some .local)
    (hsw : swapsWith (.ListComp elt [⟨tg, iter, ifs, 0⟩] scope pos) (some (.Name y py)) spos.line X.env = pure true) (hi : PI X tg iter (tI G W fi)) (ok : BlkOk X.N X.env.scope scope own)
    (hg : ∀ (s : Shared) (H : Hp) (C : Addr) (cl : List (Str × Addr)) (fp : List Addr), PG (X.blk s H scope (compEnvC scope cl C X.env) fp) tg (tG G WN is t)) (ht : ∀ (s : Shared) (H : Hp) (C : Addr) (cl : List (Str × Addr)) (fp : List Addr), PTs (X.blk s H scope (compEnvC scope cl C X.env) fp) ifs (tT G WN tc))
    (he : ∀ (s : Shared) (H : Hp) (C : Addr) (cl : List (Str × Addr)) (fp : List Addr), PE (X.blk s H scope (compEnvC scope cl C X.env) fp) elt (tE G WN fe)) (hv : ∀ i ∈ is, i ∈ own.map (·.2)) (hvs : own.map (·.2) = vs := by rfl) (hs : ∀ x, foldedSetIterable iter X.env x = pure x := by intro _; rfl) :
    PS X (.Assign [.Name y py] (.ListComp elt [⟨tg, iter, ifs, 0⟩] scope pos) spos) (tS G W (fSet i (fLc fi t tc fe vs))) := hvs ▸ s_setLc hc hN hy hyl hsw hi ok hg ht he hv hs
theorem s_setLcZ {i : Nat} {y : Str} {py : Pos} {elt iter : Expr} {ifs : List Expr} {scope : Scope} {vs : List Nat} {spos : Pos} {fi : FI} {is : List Nat} {t : GT} {tc : FT} {fe : F} (own : List (Str × Nat)) (hc : X.calm = true) (hN : X.N.Nodup) (hy : X.N[i]? = some y) (hyl : X.env.scope.names.lookup y = some .local)
    (hsw : swapsWith (.ListComp elt [⟨tg, iter, ifs, 0⟩] scope pos) (some (.Name y py)) spos.line X.env = pure true) (hi : PI X tg iter (tI G W fi)) (ok : BlkOk X.N X.env.scope scope own)
    (hg : ∀ (s : Shared) (H : Hp) (C : Addr) (cl : List (Str × Addr)) (fp : List Addr), PG (X.blk s H scope (compEnvC scope cl C X.env) fp) tg (tG G WN is t)) (ht : ∀ (s : Shared) (H : Hp) (C : Addr) (cl : List (Str × Addr)) (fp : List Addr), PTs (X.blk s H scope (compEnvC scope cl C X.env) fp) ifs (tT G WN tc))
    (he : ∀ (s : Shared) (H : Hp) (C : Addr) (cl : List (Str × Addr)) (fp : List Addr), PE (X.blk s H scope (compEnvC scope cl C X.env) fp) elt (tE G WN fe)) (hv : ∀ i ∈ is, i ∈ own.map (·.2)) (hvs : own.map (·.2) = vs := by rfl) (hs : ∀ x, foldedSetIterable iter X.env x = pure x := by intro _; rfl) :
    PS X (.Assign [.Name y py] (.ListComp elt [⟨tg, iter, ifs, 0⟩] scope pos) spos) (tS G W (fSet i (fFz (fLc fi t tc fe vs)))) := hvs ▸
  (ps_setLc hc hN hy hyl hsw hi ok hg ht he hs).impX fun D σ H ⟨ρ, η, h, r, s, g⟩ =>
    lc_imp (Q := fun x H1 => gName i x σ H1 D.nx) hv ⟨ρ, η, h, r, s, Good.cut s (g.bind fun x h1 ρ1 H1 e1 s1 f1 g1 x' rx => g1.here s1 _ ((r.mono e1 f1).set i rx))⟩
end
end Fv
/-! Fv29: list(range(a, b)). -/
namespace Fv
open PySem PySem.Spec PyProof.Rows L2
def gRngL : G2 := fun x y h => match x, y with
  | .int i, .int j => if (decide (0 ≤ i) && (decide (i ≤ 16777216) && (decide (0 ≤ j) && decide (j ≤ 16777216)))) = true then .ok (.loc h.nx) (h.new (.lst ((List.range (j - i).toNat).map fun k : Nat => .int (i + (k : Int))))) else .bad
  | _, _ => .bad
section
variable {X : Cx} {G : Gd} {W : XW} {pos : Pos}
theorem repL_rg {ρ : Rho} {H : Hp} (i j : Int) : RepL G ρ H ((List.range (j - i).toNat).map fun k : Nat => SV.int (i + (k : Int))) (rgV i j) := by
  unfold rgV
  generalize List.range (j - i).toNat = l
  induction l with
  | nil => exact .nil
  | cons k l ih => exact .cons (.int _) ih
def rRngL : R2 := fun x y H Q => ∃ i j, x = .int i ∧ y = .int j ∧ RgOk i j ∧ ∀ q, H q = none → Q (.ref q) (upd H q (.lst (rgV i j)))
theorem og_rngL : OpG G W rRngL gRngL := by
  intro ρ h H x y x' y' Q s rx ry g
  unfold gRngL at g
  cases rx with
  | int i =>
    cases ry with
    | int j =>
      simp only at g
      by_cases c : (decide (0 ≤ i) && (decide (i ≤ 16777216) && (decide (0 ≤ j) && decide (j ≤ 16777216)))) = true
      · rw [if_pos c] at g
        simp only [Bool.and_eq_true, decide_eq_true_eq] at c
        refine ⟨i, j, rfl, rfl, RgOk.of_le c.1 c.2.2.2 c.2.1 c.2.2.1, fun z hz => ?_⟩
        exact g.new (u := .lst (rgV i j)) s hz trivial (repO_lst s hz (repL_rg i j)) _ (.loc radd_same)
      · rw [if_neg c] at g; exact g.elim
    | _ => exact g.elim
  | _ => exact g.elim
theorem e_listRg {a b : Expr} {fa fb : F} {p p2 q : Pos} (hc : X.calm = true) (hg : Gl X "list") (hm : X.mg "list" = none) (hg2 : Gl X "range") (hm2 : X.mg "range" = none) (ha : PE X a (tE G W fa)) (hb : PE X b (tE G W fb))
    (na : starEach [a, b] X.env = (false, eval a X.env) :: starEach [b] X.env := by rfl) (nb : starEach [b] X.env = (false, eval b X.env) :: starEach [] X.env := by rfl) (hp : (backTo q (starEach [b] X.env)).any (·.1) = false := by rfl)
    (nn : starEach [.Call (.Name "range" p2) [a, b] [] q] X.env = (false, eval (.Call (.Name "range" p2) [a, b] [] q) X.env) :: starEach [] X.env := by rfl) :
    PE X (.Call (.Name "list" p) [.Call (.Name "range" p2) [a, b] [] q] [] pos) (tE G W (fOp gRngL fa fb)) :=
  (pe_listRg hc hg hm (prg_2 hg2 hm2 ha hb na nb hp) nn).impX fun σ H Q t => op_imp og_rngL t
end
end Fv
/-! Fv30: startswith of texts, slices of plain tuples. -/
namespace Fv
open PySem PySem.Spec PyProof.Rows L2
/-- texts behind values -/
def StrsAre : List Value → List Str → Prop
  | [], [] => True
  | v :: vs, p :: ps => (∃ u, v = .str p u) ∧ StrsAre vs ps
  | _, _ => False
theorem gives_starts_tuple {x : Str} {t : Tok} {l : Addr} {vs : Array Value} {ps : List Str} (hv : StrsAre vs.toList ps) :
    GivesAt (fun s => s.heap.IsTuple l vs) (Builtin.«str.startswith» ⟨[.str x t, .ref l], []⟩) (.val (.bool (ps.any fun p => Txt.startswith x p))) := by
  intro prog w A R s hl hq
  obtain ⟨o, ho, hc, n, hd⟩ := hl
  unfold Builtin.«str.startswith» Builtin.Str.affixEntry
  have e1 : Builtin.Str.strSomeArgs "startswith" 1 3 ⟨[.str x t, .ref l], []⟩ = pure (.str x t, x, [.ref l]) := rfl
  have e2 : Builtin.Str.searchRange x.length ([Value.ref l].drop 1) = pure (0, x.length) := searchRange_nil _
  rw [e1, pure_bind]
  simp only
  rw [e2, pure_bind]
  simp only [List.headD_cons]
  refine wpAny_bind ?_
  have hl1 : wpAny (model prog w) A.in1 (asStr? (.ref l)) (fun r s' => r = none ∧ s' = s) (fun e s' => R (.error e) s') s := by
    show wpAny (model prog w) A.in1 (load l >>= _) _ _ s
    refine wpAny_bind (wpAny_load ho ?_)
    rw [hd]
    exact wpAny_pure ⟨rfl, rfl⟩
  refine wpAny_mono hl1 (fun r s' h => ?_) fun _ _ e => e
  obtain ⟨rfl, rfl⟩ := h
  simp only
  refine wpAny_bind (wpAny_isInstance (T := "tuple") (b := true) ⟨o, ho, hc⟩ (by rw [isSubtype_type]; kernel_rfl) ?_)
  simp only [if_true]
  refine wpAny_bind (wpAny_rule ?_)
  refine wpAny_bind ?_
  have hl2 : wpAny (model prog w) A.in1 (seqItems? (.ref l)) (fun r s'' => r = some vs ∧ s'' = s') (fun e s' => R (.error e) s') s' := by
    show wpAny (model prog w) A.in1 (load l >>= _) _ _ s'
    refine wpAny_bind (wpAny_load ho ?_)
    rw [hd]
    exact wpAny_pure ⟨rfl, rfl⟩
  refine wpAny_mono hl2 (fun r s'' h => ?_) fun _ _ e => e
  obtain ⟨rfl, rfl⟩ := h
  simp only
  have hq : R (.ok (.ret (.bool (ps.any fun p => Txt.startswith x p)))) s'' := hq
  refine wpAny_bind ?_
  refine wpAny_forIn_array' _ (fun rest b s' => b = (none, ()) ∧ s' = s'' ∧ ∃ ps', StrsAre rest ps' ∧ (ps.any fun p => Txt.startswith x p) = ps'.any fun p => Txt.startswith x p) _ ?_ ?_ vs (none, ()) ⟨rfl, rfl, ps, hv, rfl⟩
  · rintro y rest b s1 ⟨rfl, rfl, ps', hs, ha⟩
    cases ps' with
    | nil => exact hs.elim
    | cons p ps' =>
      obtain ⟨⟨u, rfl⟩, hs⟩ := hs
      have ep : asStr? (.str p u) = pure (some p) := rfl
      rw [ep, pure_bind]
      simp only
      by_cases c : (decide (0 + p.length ≤ x.length) && Builtin.Str.subAt x p 0) = true
      · rw [if_pos c]
        refine wpAny_bind ?_
        refine wpAny_pure (wpAny_pure ?_)
        refine wpAny_pure ?_
        have : (ps.any fun p => Txt.startswith x p) = true := by
          rw [ha, List.any_cons]
          have : Txt.startswith x p = true := c
          rw [this]
          rfl
        rw [this] at hq
        exact hq
      · rw [if_neg c]
        refine wpAny_pure ⟨rfl, rfl, ps', hs, ?_⟩
        rw [ha, List.any_cons]
        have : Txt.startswith x p = false := by
          rw [← Bool.not_eq_true]
          exact c
        rw [this]
        rfl
  · rintro b s1 ⟨rfl, rfl, ps', hs, ha⟩
    cases ps' with
    | nil =>
      simp only
      refine wpAny_pure ?_
      have : (ps.any fun p => Txt.startswith x p) = false := by rw [ha]; rfl
      rw [this] at hq
      exact hq
    | cons p ps' => exact hs.elim
theorem call_starts_tuple {prog : Program} {w : World} {A : Around} {E : Value → Shared → Prop} {s : Shared} {Q : Value → Shared → Prop} {x : Str} {t : Tok} {l : Addr} {vs : Array Value} {ps : List Str} (hl : s.heap.IsTuple l vs) (hv : StrsAre vs.toList ps)
    (hq : Q (.bool (ps.any fun p => Txt.startswith x p)) s) : wpAny (model prog w) A (call (.builtin "str.startswith") [.str x t, .ref l]) Q E s :=
  call_givesAt F.slot_str_startswith (typeIs_str _ _ _) F.entry_str_startswith (F.args_str_startswith_2 _ _) (gives_starts_tuple hv) hl hq
theorem strsAre_of : ∀ {ps : List Str} {us : List Value}, Vals (ps.map V.str) us → StrsAre us ps
  | [], _, .nil => trivial
  | p :: ps, _, .cons r t => ⟨r, strsAre_of t⟩
section
variable {X : Cx} {G : Gd} {W : XW}
def rStartsT (K : PySem.W.Frag) : V → List V → Hp → VK → Prop := fun x xs H Q => ∃ a p, ∃ ps : List Str, x = .str a ∧ xs = [.ref p] ∧ SqT K H p (ps.map V.str) ∧ Q (.bl (ps.any fun b => Txt.startswith a b)) H
theorem mt_startsT : MtR X "str.startswith" (rStartsT X.K) := by
  intro pins s σ H x xs v us Q I rx rs h
  obtain ⟨a, p, ps, rfl, rfl, hp, h⟩ := h
  obtain ⟨t, rfl⟩ := rx
  cases rs with
  | cons r1 rs =>
    cases rs
    cases r1
    obtain ⟨its, r, ht, hz⟩ := I.tuple hp
    exact call_starts_tuple (vs := its.toArray) ht (strsAre_of r) ⟨.bl (ps.any fun b => Txt.startswith a b), H, I, rfl, h⟩
def rStarts (K : PySem.W.Frag) : V → List V → Hp → VK → Prop := fun x xs H Q => (∃ a b, x = .str a ∧ xs = [.str b] ∧ Q (.bl (Txt.startswith a b)) H) ∨ rStartsT K x xs H Q
theorem mt_starts : MtR X "str.startswith" (rStarts X.K) := fun pins s σ H x xs v us Q I rx rs h => h.elim (mt_startswith pins s σ H x xs v us Q I rx rs) (mt_startsT pins s σ H x xs v us Q I rx rs)
/-- a text begins with another one, or with one of some -/
def gStartsU : SV → List SV → SH → Out SV := fun x vs h => match x, vs with
  | .str a, [.str b] => .ok (.bl (Txt.startswith (mkS a) (mkS b))) h
  | .str a, [.tup xs] => match strsOf xs with
    | some ls => .ok (.bl ((ls.map mkS).any fun b => Txt.startswith (mkS a) b)) h
    | none => .bad
  | _, _ => .bad
theorem mg_startsU : MtG G W "str" (rStarts G.K) gStartsU := by
  intro ρ h H x x' vs vs' Q s rx rv g
  unfold gStartsU at g
  cases rx with
  | str a =>
    rcases vs with _ | ⟨v, _ | ⟨_, _⟩⟩
    · exact g.elim
    · obtain ⟨w, rfl, r⟩ := rep1 rv
      cases r with
      | str b => exact .inl ⟨mkS a, mkS b, rfl, rfl, g.here s _ (.bl _)⟩
      | tup sq rl =>
        rename_i xs p us
        have g : Good G W ρ H (match strsOf xs with
          | some ls => .ok (.bl ((ls.map mkS).any fun b => Txt.startswith (mkS a) b)) h
          | none => .bad : Out SV) (RQ G Q) := g
        cases z : strsOf xs with
        | none => rw [z] at g; exact g.elim
        | some ls =>
          rw [z] at g
          have e := strsOf_ok rl z
          subst e
          exact .inr ⟨mkS a, p, ls.map mkS, rfl, rfl, sq, g.here s _ (.bl _)⟩
      | _ => exact g.elim
    · cases v <;> exact g.elim
  | _ => exact g.elim
/-! ### a slice of a plain tuple -/
def rSlZ (K : PySem.W.Frag) : V → Option Int → Option Int → Hp → VK → Prop := fun x lo hi H Q => ∃ a xs, x = .ref a ∧ SqT K H a xs ∧ ((HT.sIx xs.length 0 lo = 0 ∧ HT.sIx xs.length xs.length hi = xs.length) → Q (.ref a) H) ∧
  (¬(HT.sIx xs.length 0 lo = 0 ∧ HT.sIx xs.length xs.length hi = xs.length) → ∀ (p : Addr) (o : Obj), H p = none → o.cls = .type "tuple" → o.dict = none → Q (.ref p) (upd H p (.frz o (.tup (cutV xs lo hi)))))
theorem sl_tupZ : SlR X (rSlZ X.K) := by
  intro pins s σ H x v vl vu lo hi sl Q I rx hs pl pu h
  obtain ⟨a, xs, rfl, hx, q1, q2⟩ := h
  cases rx
  obtain ⟨its, r, ht, hz⟩ := I.tuple hx
  have hlen : its.toArray.size = xs.length := by rw [List.size_toArray]; exact r.length.symm
  by_cases hw : HT.sIx xs.length 0 lo = 0 ∧ HT.sIx xs.length xs.length hi = xs.length
  · refine ⟨"tuple", _, PyProof.Rows.slot_tuple_getitem.lookup, ht.typeIs, ?_⟩
    exact getItem_tuple_whole ht hs pl pu (by rw [hlen]; exact hw) ⟨.ref a, H, I, rfl, q1 hw⟩
  · refine ⟨"tuple", _, PyProof.Rows.slot_tuple_getitem.lookup, ht.typeIs, ?_⟩
    refine HT.getItem_tuple_cut ht hs pl pu (by rw [hlen]; exact hw) ?_ (by rw [hlen]; exact hz)
    rw [hlen]
    have hf : H s.heap.objs.size = none := I.hok.fresh (Nat.le_refl _)
    refine ⟨.ref s.heap.objs.size, upd H s.heap.objs.size (.frz _ (.tup (cutV xs lo hi))), I.laid (t' := s.toks) (fun b ob q => Heap.get?_push_of_some _ q) (Nat.le_refl _) ⟨Heap.get?_push_size _ rfl, ?_⟩, rfl, q2 hw _ _ hf rfl rfl⟩
    exact ⟨Nat.le_trans (cutV_length xs lo hi) hz, _, (r.drop (HT.sIx xs.length 0 lo)).take (HT.sIx xs.length xs.length hi - HT.sIx xs.length 0 lo), IsTup.new _ _⟩
def gSlZ : GS := fun x lo hi h => match x with
  | .tp xs => .ok (.tp (cutL xs lo hi)) h
  | _ => .bad
theorem sg_Z : SlG G W (rSlZ G.K) gSlZ := by
  intro ρ h H x x' lo hi Q s rx g
  unfold gSlZ at g
  cases rx with
  | @tp xs a vs sq rl =>
    refine ⟨a, vs, rfl, sq.t, fun e => ?_, fun _ p o hp h1 h2 => ?_⟩
    · have ew : cutL xs lo hi = xs := by
        unfold cutL
        rw [rl.length, e.1, e.2, List.drop_zero, Nat.sub_zero, ← rl.length, List.take_length]
      simp only [ew] at g
      exact g.here s _ (.tp sq rl)
    · exact g.newT s hp _ (.tp ⟨o, upd_same, h1, h2⟩ ((cut_rep rl).mono Sub.refl (frm_new hp)))
  | _ => exact g.elim
end
end Fv
/-! Fv20: reasoning about readings whose lists are values. -/
namespace Fv
open PySem
inductive wp {α : Type} : Out α → (α → SH → Prop) → Prop
  | ok {a : α} {h : SH} {P : α → SH → Prop} : P a h → wp (.ok a h) P
theorem wp_ok {α : Type} {a : α} {h : SH} {P : α → SH → Prop} : wp (.ok a h) P = P a h := propext ⟨fun z => by cases z; assumption, .ok⟩
theorem wp_bind {α β : Type} {o : Out α} {k : α → SH → Out β} {P : β → SH → Prop} : wp (o.bind k) P = wp o (fun a h => wp (k a h) P) := by
  refine propext ⟨fun z => ?_, fun z => ?_⟩
  · cases o with
    | ok a h => exact .ok z
    | exc _ _ => cases z
    | bad => cases z
  · cases z with
    | ok z => exact z
theorem wp.mono {α : Type} {o : Out α} {P Q : α → SH → Prop} (w : wp o P) (i : ∀ a h, P a h → Q a h) : wp o Q := by
  cases w with
  | ok z => exact .ok (i _ _ z)
theorem wp.get {α : Type} {o : Out α} {P : α → SH → Prop} (w : wp o P) : ∃ a h, o = .ok a h ∧ P a h := by
  cases w with
  | ok z => exact ⟨_, _, rfl, z⟩
theorem wp.eq {α : Type} {o : Out α} {a : α} {h : SH} (w : wp o fun x h' => x = a ∧ h' = h) : o = .ok a h := by
  obtain ⟨x, h', e, rfl, rfl⟩ := w.get
  exact e
theorem wp_of {α : Type} {o : Out α} {a : α} {h : SH} {P : α → SH → Prop} (e : o = .ok a h) (p : P a h) : wp o P := by rw [e]; exact .ok p
/-! ### heaps -/
mutual
theorem clV_up {n m : Nat} (l : n ≤ m) : ∀ v : SV, clV n v = true → clV m v = true
  | .loc p, e => by simp only [clV, decide_eq_true_eq] at e ⊢; omega
  | .tup xs, e => by simp only [clV] at e ⊢; exact clL_up l xs e
  | .tp xs, e => by simp only [clV] at e ⊢; exact clL_up l xs e
  | .fl xs, e => by simp only [clV] at e ⊢; exact clL_up l xs e
  | .ls xs, e => by simp only [clV] at e ⊢; exact clL_up l xs e
  | .fd kvs, e => by simp only [clV] at e ⊢; exact clP_up l kvs e
  | .non, _ => rfl
  | .bl _, _ => rfl
  | .int _, _ => rfl
  | .str _, _ => rfl
  | .fn _, _ => rfl
  | .ty _, _ => rfl
theorem clL_up {n m : Nat} (l : n ≤ m) : ∀ xs : List SV, clL n xs = true → clL m xs = true
  | [], _ => rfl
  | x :: xs, e => by
    rw [clL, Bool.and_eq_true] at e ⊢
    exact ⟨clV_up l x e.1, clL_up l xs e.2⟩
theorem clP_up {n m : Nat} (l : n ≤ m) : ∀ xs : List (SV × SV), clP n xs = true → clP m xs = true
  | [], _ => rfl
  | (k, x) :: xs, e => by
    rw [clP, Bool.and_eq_true, Bool.and_eq_true] at e ⊢
    exact ⟨clV_up l k e.1, clV_up l x e.2.1, clP_up l xs e.2.2⟩
end
theorem clO_up {n m : Nat} (l : n ≤ m) (o : SO) (e : clO n o = true) : clO m o = true := by
  cases o with
  | lst xs => exact clL_up l xs e
  | dic kvs => exact clP_up l kvs e
theorem Cn.new {h : SH} (C : Cn h) {o : SO} (c : clO h.nx o = true) : Cn (h.new o) := by
  unfold Cn at C ⊢
  rw [SH.nx_new]
  unfold SH.new
  rw [List.all_eq_true] at C ⊢
  intro x hx
  rcases List.mem_append.mp hx with hx | hx
  · exact clO_up (Nat.le_succ _) x (C x hx)
  · have : x = o := by simpa using hx
    subst this
    exact clO_up (Nat.le_succ _) x c
theorem Cn.newL {h : SH} (C : Cn h) {xs : List SV} (c : clL h.nx xs = true) : Cn (h.new (.lst xs)) := C.new c
theorem Cn.nil {h : SH} (C : Cn h) : Cn (h.new (.lst [])) := C.new rfl
theorem Cn.set {h : SH} (C : Cn h) {p : Nat} {o : SO} (c : clO h.nx o = true) : Cn (h.set p o) := by
  unfold Cn at C ⊢
  rw [SH.nx_set]
  unfold SH.set
  rw [List.all_eq_true] at C ⊢
  intro x hx
  rcases List.mem_or_eq_of_mem_set hx with hx | hx
  · exact C x hx
  · subst hx; exact c
theorem SH.new_set (h : SH) (o o' : SO) : (h.new o').set h.nx o = h.new o := by
  unfold SH.new SH.set SH.nx
  simp
theorem SH.set_new {h : SH} {p : Nat} (l : p < h.nx) (o o' : SO) : (h.new o').set p o = (h.set p o).new o' := by
  unfold SH.new SH.set SH.nx at *
  simp only
  rw [List.set_append_left _ _ l]
theorem SH.get_new_lt {h : SH} {p : Nat} (l : p < h.nx) (o : SO) : (h.new o).get p = h.get p := by
  rw [SH.get_new, if_neg (Nat.ne_of_lt l)]
/-! ### iterators over values -/
def SZ.vals : SZ → Option (List SV)
  | .tup xs => some xs
  | .fl xs => some xs
  | .str l => some (l.map fun c => .str [c])
  | _ => none
def rngL (lo : Int) (n : Nat) : List SV := (List.range n).map fun i : Nat => .int (lo + i)
def enmL (xs : List SV) : List SV := xs.mapIdx fun i x => .tup [.int (i : Nat), x]
def zipL (xs ys : List SV) : List SV := List.zipWith (fun x y => .tup [x, y]) xs ys
def SIt.vals : SIt → Option (List SV)
  | .tup xs => some xs
  | .fl xs => some xs
  | .str l => some (l.map fun c => .str [c])
  | .rng lo n => some (rngL lo n)
  | .enF xs => some (enmL xs)
  | .zip a b => match a.vals, b.vals with
    | some xs, some ys => some (zipL xs ys)
    | _, _ => none
  | _ => none
theorem SZ.at_vals {z : SZ} {xs : List SV} (e : z.vals = some xs) (i : Nat) (h : SH) : z.at i h = some xs[i]? := by
  cases z with
  | lst p => cases e
  | tup ys => cases e; rfl
  | fl ys => cases e; rfl
  | str l => cases e; unfold SZ.at; simp
theorem SIt.at_vals {it : SIt} {xs : List SV} (e : it.vals = some xs) (i : Nat) (h : SH) : it.at i h = some xs[i]? := by
  cases it with
  | lst p => cases e
  | enm p => cases e
  | tup ys => cases e; rfl
  | fl ys => cases e; rfl
  | str l => cases e; unfold SIt.at; simp
  | rng lo n =>
    cases e
    unfold SIt.at rngL
    simp only
    by_cases c : i < n
    · rw [if_pos c]; simp [c]
    · rw [if_neg c]; simp [c]
  | enF ys => cases e; unfold SIt.at enmL; simp
  | zip a b =>
    unfold SIt.vals at e
    cases q1 : a.vals with
    | none => simp [q1] at e
    | some us =>
      cases q2 : b.vals with
      | none => simp [q1, q2] at e
      | some ws =>
        simp only [q1, q2] at e
        cases e
        unfold SIt.at zipL
        simp only [SZ.at_vals q1, SZ.at_vals q2, List.getElem?_zipWith]
        cases us[i]? <;> cases ws[i]? <;> rfl
theorem SIt.size_vals {it : SIt} {xs : List SV} (e : it.vals = some xs) (h : SH) : xs.length ≤ it.size h := by
  cases it with
  | lst p => cases e
  | enm p => cases e
  | tup ys => cases e; exact Nat.le_refl _
  | fl ys => cases e; exact Nat.le_refl _
  | str l => cases e; unfold SIt.size; simp
  | rng lo n => cases e; unfold SIt.size rngL; simp
  | enF ys => cases e; unfold SIt.size enmL; simp
  | zip a b =>
    unfold SIt.vals at e
    cases q1 : a.vals with
    | none => simp [q1] at e
    | some us =>
      cases q2 : b.vals with
      | none => simp [q1, q2] at e
      | some ws =>
        simp only [q1, q2] at e
        cases e
        unfold SIt.size zipL
        simp only [List.length_zipWith]
        have : us.length ≤ a.size h := by
          cases a with
          | lst p => cases q1
          | tup ys => cases q1; exact Nat.le_refl _
          | fl ys => cases q1; exact Nat.le_refl _
          | str l => cases q1; unfold SZ.size; simp
        omega
/-! ### comprehensions -/
/-- pure ones: behind each item the heap is as it was -/
theorem lc_go {it : SIt} {t : GT} {c : FT} {e : F} {η0 : Sl} {xs : List SV} {h0 : SH} (ft : SV → Sl) (fc : SV → Bool) (fe : SV → SV) (C : Cn h0)
    (walk : it.vals = some xs) (ht : ∀ x ∈ xs, ∀ h, Cn h → t x η0 h = .ok (ft x) h) (hc : ∀ x ∈ xs, ∀ h, Cn h → c (ft x) h = .ok (fc x) h) (he : ∀ x ∈ xs, fc x = true → ∀ h, Cn h → e (ft x) h = .ok (fe x) h)
    (hcl : ∀ x ∈ xs, fc x = true → clV h0.nx (fe x) = true) :
    ∀ (rest : List SV) (f i : Nat) (acc : List SV), xs.drop i = rest → rest.length < f → acc.length + rest.length ≤ sizeLine → clL h0.nx acc = true →
      lcLoop it t c e h0.nx η0 f i (h0.new (.lst acc)) = .ok () (h0.new (.lst (acc ++ (rest.filter fc).map fe)))
  | [], f, i, acc, e, hf, hl, ha => by
    cases f with
    | zero => exact absurd hf (Nat.not_lt_zero _)
    | succ f =>
      unfold lcLoop
      rw [SIt.at_vals walk]
      have : xs[i]? = none := by
        rw [List.getElem?_eq_none]
        have := congrArg List.length e
        simp at this
        omega
      rw [this]
      simp
  | x :: rest, f, i, acc, e', hf, hl, ha => by
    cases f with
    | zero => exact absurd hf (Nat.not_lt_zero _)
    | succ f =>
      have C1 := C.newL ha
      unfold lcLoop
      rw [SIt.at_vals walk]
      have e1 : xs[i]? = some x := by
        have := congrArg (fun l => l[0]?) e'
        simpa using this
      have hx : x ∈ xs := List.mem_of_getElem? e1
      rw [e1]
      have e2 : xs.drop (i + 1) = rest := by
        have := congrArg List.tail e'
        simpa using this
      simp only
      rw [ht x hx _ C1]
      simp only [bind_ok]
      rw [hc x hx _ C1]
      simp only [bind_ok]
      cases b : fc x with
      | false =>
        simp only [Bool.false_eq_true, if_false]
        rw [lc_go ft fc fe C walk ht hc he hcl rest f (i + 1) acc e2 (by simp at hf; omega) (by simp at hl; omega) ha]
        simp [b]
      | true =>
        simp only [if_true]
        rw [he x hx b _ C1]
        simp only [bind_ok, get_new_same]
        rw [if_pos (by simp at hl; omega), SH.new_set]
        rw [lc_go ft fc fe C walk ht hc he hcl rest f (i + 1) (acc ++ [fe x]) e2 (by simp at hf; omega) (by simp at hl ⊢; omega) (by simp [ha, hcl x hx b])]
        simp [b]
theorem fz_lc {fi : FI} {it : SIt} {t : GT} {c : FT} {e : F} {η : Sl} {h : SH} {vs : List Nat} {xs : List SV} (ft : SV → Sl) (fc : SV → Bool) (fe : SV → SV) (C : Cn h)
    (hi : fi η h = .ok it h) (walk : it.vals = some xs) (hl : xs.length ≤ sizeLine) (ht : ∀ x ∈ xs, ∀ h, Cn h → t x (wipeS η vs) h = .ok (ft x) h) (hc : ∀ x ∈ xs, ∀ h, Cn h → c (ft x) h = .ok (fc x) h)
    (he : ∀ x ∈ xs, fc x = true → ∀ h, Cn h → e (ft x) h = .ok (fe x) h) (hcl : ∀ x ∈ xs, fc x = true → clV h.nx (fe x) = true) :
    fFz (fLc fi t c e vs) η h = .ok (.ls ((xs.filter fc).map fe)) h := by
  unfold fFz fLc
  rw [hi]
  simp only [bind_ok]
  rw [lc_go ft fc fe C walk ht hc he hcl xs _ 0 [] rfl (by have := SIt.size_vals walk h; omega) (by simpa using hl) rfl]
  simp only [List.nil_append]
  refine cut_new C ?_
  refine clL_map _ _ _ fun x hx => ?_
  obtain ⟨h1, h2⟩ := List.mem_filter.mp hx
  exact hcl x h1 h2
/-- one name, no test -/
theorem fz_lc1 {α : Type} {fi : FI} {it : SIt} {e : F} {η : Sl} {h : SH} {i : Nat} (as : List α) (em : α → SV) (fe : α → SV) (C : Cn h)
    (hi : fi η h = .ok it h) (walk : it.vals = some (as.map em)) (hl : as.length ≤ sizeLine)
    (he : ∀ a ∈ as, ∀ h, Cn h → e ((wipeS η [i]).set i (some (em a))) h = .ok (fe a) h) (hcl : ∀ a ∈ as, clV h.nx (fe a) = true) :
    fFz (fLc fi (gtName i) (fun _ h => .ok true h) e [i]) η h = .ok (.ls (as.map fe)) h := by
  unfold fFz fLc
  rw [hi]
  simp only [bind_ok]
  have go : ∀ (rest : List α) (f j : Nat) (acc : List SV), as.drop j = rest → rest.length < f → acc.length + rest.length ≤ sizeLine → clL h.nx acc = true →
      lcLoop it (gtName i) (fun _ h => .ok true h) e h.nx (wipeS η [i]) f j (h.new (.lst acc)) = .ok () (h.new (.lst (acc ++ rest.map fe))) := by
    intro rest
    induction rest with
    | nil =>
      intro f j acc ed hf hl' ha
      cases f with
      | zero => exact absurd hf (Nat.not_lt_zero _)
      | succ f =>
        unfold lcLoop
        rw [SIt.at_vals walk]
        have : (as.map em)[j]? = none := by
          rw [List.getElem?_eq_none]
          have := congrArg List.length ed
          simp at this ⊢
          omega
        rw [this]
        simp
    | cons a rest ih =>
      intro f j acc ed hf hl' ha
      cases f with
      | zero => exact absurd hf (Nat.not_lt_zero _)
      | succ f =>
        have C1 := C.newL ha
        unfold lcLoop
        rw [SIt.at_vals walk]
        have e1 : as[j]? = some a := by
          have := congrArg (fun l => l[0]?) ed
          simpa using this
        have hx : a ∈ as := List.mem_of_getElem? e1
        have e0 : (as.map em)[j]? = some (em a) := by rw [List.getElem?_map, e1]; rfl
        rw [e0]
        have e2 : as.drop (j + 1) = rest := by
          have := congrArg List.tail ed
          simpa using this
        simp only [gtName, bind_ok, if_true]
        rw [he a hx _ C1]
        simp only [bind_ok, get_new_same]
        rw [if_pos (by simp at hl'; omega), SH.new_set]
        have := ih f (j + 1) (acc ++ [fe a]) e2 (by simp at hf; omega) (by simp at hl' ⊢; omega) (by simp [ha, hcl a hx])
        simpa [gtName] using this
  have w := SIt.size_vals walk h
  rw [List.length_map] at w
  rw [go as _ 0 [] rfl (by omega) (by simpa using hl) rfl]
  simp only [List.nil_append]
  exact cut_new C (clL_map _ _ _ hcl)
/-! ### for -/
theorem wp_loop {it : SIt} {t : GT} {b : FS} {xs : List SV} {P : Fl → SH → Prop} (Inv : List SV → Sl → SH → Prop)
    (step : ∀ x rest η h, Inv (x :: rest) η h → wp (t x η h) fun η h => wp (b η h) fun fl h => match fl with
      | .nx η => Inv rest η h
      | .ct η => Inv rest η h
      | .bk η => P (.nx η) h
      | .rt v => P (.rt v) h)
    (fin : ∀ η h, Inv [] η h → P (.nx η) h) (walk : it.vals = some xs) :
    ∀ (rest : List SV) (f i : Nat) (η : Sl) (h : SH), xs.drop i = rest → rest.length < f → Inv rest η h → wp (loop it t b f i η h) P
  | [], f, i, η, h, e, hf, I => by
    cases f with
    | zero => exact absurd hf (Nat.not_lt_zero _)
    | succ f =>
      unfold loop
      rw [SIt.at_vals walk]
      have : xs[i]? = none := by
        rw [List.getElem?_eq_none]
        have := congrArg List.length e
        simp at this
        omega
      rw [this]
      exact .ok (fin _ _ I)
  | x :: rest, f, i, η, h, e, hf, I => by
    cases f with
    | zero => exact absurd hf (Nat.not_lt_zero _)
    | succ f =>
      unfold loop
      rw [SIt.at_vals walk]
      have e1 : xs[i]? = some x := by
        have := congrArg (fun l => l[0]?) e
        simpa using this
      rw [e1]
      have e2 : xs.drop (i + 1) = rest := by
        have := congrArg List.tail e
        simpa using this
      simp only
      rw [wp_bind]
      refine (step x rest η h I).mono fun η1 h1 w => ?_
      rw [wp_bind]
      refine w.mono fun fl h2 w => ?_
      cases fl with
      | nx η2 => exact wp_loop Inv step fin walk rest f (i + 1) η2 h2 e2 (by simp at hf; omega) w
      | ct η2 => exact wp_loop Inv step fin walk rest f (i + 1) η2 h2 e2 (by simp at hf; omega) w
      | bk η2 => exact .ok w
      | rt v => exact .ok w
theorem wp_for {fi : FI} {t : GT} {b : FS} {η : Sl} {h : SH} {P : Fl → SH → Prop} 
    (hit : wp (fi η h) fun it h1 => ∃ (xs : List SV) (Inv : List SV → Sl → SH → Prop), it.vals = some xs ∧ Inv xs η h1 ∧
      (∀ x rest η h, Inv (x :: rest) η h → wp (t x η h) fun η h => wp (b η h) fun fl h => match fl with
        | .nx η => Inv rest η h
        | .ct η => Inv rest η h
        | .bk η => P (.nx η) h
        | .rt v => P (.rt v) h) ∧ ∀ η h, Inv [] η h → P (.nx η) h) : wp (fFor fi t b η h) P := by
  unfold fFor
  rw [wp_bind]
  refine hit.mono fun it h1 ⟨xs, Inv, hw, I, step, fin⟩ => ?_
  exact wp_loop Inv step fin hw xs _ 0 η h1 rfl (by have := SIt.size_vals hw h1; omega) I
/-! ### while -/
theorem wp_loopW {c : FT} {b : FS} {P : Fl → SH → Prop} (Inv : Nat → Sl → SH → Prop)
    (step : ∀ m η h, Inv m η h → wp (c η h) fun k h => (k = false → P (.nx η) h) ∧ (k = true → wp (b η h) fun fl h => match fl with
      | .nx η => ∃ m', m' < m ∧ Inv m' η h
      | .ct η => ∃ m', m' < m ∧ Inv m' η h
      | .bk η => P (.nx η) h
      | .rt v => P (.rt v) h)) : ∀ (f m : Nat) (η : Sl) (h : SH), m < f → Inv m η h → wp (loopW c b f η h) P
  | 0, _, _, _, hf, _ => absurd hf (Nat.not_lt_zero _)
  | f + 1, m, η, h, hf, I => by
    unfold loopW
    rw [wp_bind]
    refine (step m η h I).mono fun k h1 ⟨z1, z2⟩ => ?_
    cases k with
    | false => simp only [Bool.false_eq_true, if_false]; exact .ok (z1 rfl)
    | true =>
      simp only [if_true]
      rw [wp_bind]
      refine (z2 rfl).mono fun fl h2 w => ?_
      cases fl with
      | nx η2 => obtain ⟨m', l, I'⟩ := w; exact wp_loopW Inv step f m' η2 h2 (by omega) I'
      | ct η2 => obtain ⟨m', l, I'⟩ := w; exact wp_loopW Inv step f m' η2 h2 (by omega) I'
      | bk η2 => exact .ok w
      | rt v => exact .ok w
theorem wp_while {c : FT} {b : FS} {η : Sl} {h : SH} {P : Fl → SH → Prop} (Inv : Nat → Sl → SH → Prop) (m : Nat) (hm : m < 100000) (I : Inv m η h)
    (step : ∀ m η h, Inv m η h → wp (c η h) fun k h => (k = false → P (.nx η) h) ∧ (k = true → wp (b η h) fun fl h => match fl with
      | .nx η => ∃ m', m' < m ∧ Inv m' η h
      | .ct η => ∃ m', m' < m ∧ Inv m' η h
      | .bk η => P (.nx η) h
      | .rt v => P (.rt v) h)) : wp (fWhile c b η h) P := wp_loopW Inv step 100000 m η h hm I
/-! ### defs -/
theorem wp_call {n : Nat} {fe : FF} {a : FA} {η : Sl} {h : SH} {P : SV → SH → Prop} (w : wp (a η h) fun xs h1 => xs.length = n ∧ wp (fe xs h1) P) : wp (fCall n fe a η h) P := by
  unfold fCall
  rw [wp_bind]
  refine w.mono fun xs h1 ⟨l, k⟩ => ?_
  rw [if_pos l]
  exact k
theorem wp_body {n : Nat} {b : FS} {xs : List SV} {h : SH} {P : SV → SH → Prop} (w : wp (b (startS n xs) h) fun fl h => match fl with
  | .rt v => P v h
  | .nx _ => P .non h
  | _ => False) : wp (fBody n b xs h) P := by
  unfold fBody
  rw [wp_bind]
  refine w.mono fun fl h1 k => ?_
  cases fl with
  | nx _ => exact .ok k
  | rt _ => exact .ok k
  | bk _ => exact k.elim
  | ct _ => exact k.elim
theorem call1 {fe : FF} {a : F} {η : Sl} {h : SH} : fCall 1 fe (faC a faN) η h = (a η h).bind fun x h => fe [x] h := by
  unfold fCall faC faN
  cases a η h <;> rfl
theorem call2 {fe : FF} {a b : F} {η : Sl} {h : SH} : fCall 2 fe (faC a (faC b faN)) η h = (a η h).bind fun x h => (b η h).bind fun y h => fe [x, y] h := by
  unfold fCall faC faN
  cases a η h with
  | ok x h1 => simp only [bind_ok]; cases b η h1 <;> rfl
  | _ => rfl
theorem call3 {fe : FF} {a b c : F} {η : Sl} {h : SH} : fCall 3 fe (faC a (faC b (faC c faN))) η h = (a η h).bind fun x h => (b η h).bind fun y h => (c η h).bind fun z h => fe [x, y, z] h := by
  unfold fCall faC faN
  cases a η h with
  | ok x h1 =>
    simp only [bind_ok]
    cases b η h1 with
    | ok y h2 => simp only [bind_ok]; cases c η h2 <;> rfl
    | _ => rfl
  | _ => rfl
/-- a frozen call -/
theorem fz_ok {f : F} {η : Sl} {h : SH} {v : SV} (C : Cn h) (e : f η h = .ok v h) (c : clV h.nx v = true) : fFz f η h = .ok v h := by
  unfold fFz
  rw [e]
  exact cut_ok C c
theorem fz_new {f : F} {η : Sl} {h : SH} {xs : List SV} (C : Cn h) (e : f η h = .ok (.loc h.nx) (h.new (.lst xs))) (c : clL h.nx xs = true) : fFz f η h = .ok (.ls xs) h := by
  unfold fFz
  rw [e]
  exact cut_new C c
end Fv
/-! Fv21: texts: find, split by one sign, numerals. -/
namespace Fv
open PySem PySem.Builtin PySem.Builtin.Str PySem.StrLaws
def posL (c : Nat) : Nat → List Nat → List Nat
  | _, [] => []
  | i, x :: r => if x = c then i :: posL c (i + 1) r else posL c (i + 1) r
theorem mkS_len (l : List Nat) : (mkS l).length = l.length := by simp [mkS, Str.length]
theorem strSub_toList' (l : List Nat) (i : Nat) : ((mkS l).cps.extract i (i + 1)).toList = (l.drop i).take 1 := by
  have := strSub_toList (mkS l) i (i + 1)
  have e : i + 1 - i = 1 := by omega
  rw [e] at this
  exact this
theorem subAt1 (l : List Nat) (c i : Nat) (hi : i < l.length) : subAt (mkS l) (mkS [c]) i = decide (l[i] = c) := by
  have e : (mkS l).cps.extract i (i + 1) = #[l[i]] := by
    apply Array.toList_inj.mp
    rw [strSub_toList' l i]
    rw [List.drop_eq_getElem_cons hi, List.take_succ_cons, List.take_zero]
  show ((mkS l).cps.extract i (i + (mkS [c]).length) == (mkS [c]).cps) = decide (l[i] = c)
  have e1 : (mkS [c]).length = 1 := rfl
  rw [e1, e]
  show (#[l[i]] == #[c]) = decide (l[i] = c)
  by_cases h : l[i] = c
  · simp [h]
  · rw [decide_eq_false h]
    rw [beq_eq_false_iff_ne]
    intro z
    have := congrArg Array.toList z
    simp at this
    exact h this
theorem occ1_go (l : List Nat) (c k : Nat) : ∀ (n i : Nat) (st : Array Nat × Nat), i + n = l.length + 1 → st.2 ≤ i →
    (forIn (List.range' i n) st (occBody (mkS l) (mkS [c]) l.length k)).run.1.toList = st.1.toList ++ (posL c i (l.drop i)).take (k - st.1.size) := by
  intro n
  induction n with
  | zero =>
    intro i st h _
    have : l.drop i = [] := by rw [List.drop_eq_nil_iff]; omega
    rw [this]
    simp [posL]
  | succ n ih =>
    intro i st h hf
    rw [List.range'_succ, List.forIn_cons]
    have e1 : (mkS [c]).length = 1 := rfl
    by_cases hi : i < l.length
    · rw [List.drop_eq_getElem_cons hi]
      have es := subAt1 l c i hi
      unfold occBody
      rw [e1]
      by_cases hc : l[i] = c
      · by_cases hk : st.1.size < k
        · rw [if_pos ⟨⟨⟨hk, hf⟩, by omega⟩, by rw [es]; simp [hc]⟩]
          have := ih (i + 1) (st.1.push i, i + 1) (by omega) (Nat.le_refl _)
          simp only [pure_bind]
          refine this.trans ?_
          simp only [posL, if_pos hc, Array.size_push, Array.toList_push]
          obtain ⟨d, hd⟩ : ∃ d, k - st.1.size = d + 1 := ⟨k - st.1.size - 1, by omega⟩
          rw [hd, List.take_succ_cons]
          have : k - (st.1.size + 1) = d := by omega
          rw [this]
          simp
        · rw [if_neg (fun z => hk z.1.1.1)]
          have := ih (i + 1) (st.1, st.2) (by omega) (by show st.2 ≤ i + 1; omega)
          simp only [pure_bind]
          refine this.trans ?_
          have e0 : k - st.1.size = 0 := by omega
          simp [e0]
      · rw [if_neg (fun z => by rw [es] at z; exact hc (of_decide_eq_true z.2))]
        have := ih (i + 1) (st.1, st.2) (by omega) (by show st.2 ≤ i + 1; omega)
        simp only [pure_bind]
        refine this.trans ?_
        simp only [posL, if_neg hc]
    · have e0 : l.drop i = [] := by rw [List.drop_eq_nil_iff]; omega
      unfold occBody
      rw [e1, if_neg (fun z => by have := z.1.2; omega)]
      have := ih (i + 1) (st.1, st.2) (by omega) (by show st.2 ≤ i + 1; omega)
      simp only [pure_bind]
      refine this.trans ?_
      have e2 : l.drop (i + 1) = [] := by rw [List.drop_eq_nil_iff]; omega
      rw [e0, e2]
      simp [posL]
theorem occ1 (l : List Nat) (c k a : Nat) (ha : a ≤ l.length) : occurrences (mkS l) (mkS [c]) a (mkS l).length k = (posL c a (l.drop a)).take k := by
  rw [occ_eq, mkS_len]
  have := occ1_go l c k (l.length + 1 - a) a (#[], a) (by omega) (Nat.le_refl _)
  simpa using this
/-! ### split -/
def spc (c : Nat) : Nat → List Nat → List Nat → List (List Nat)
  | _, acc, [] => [acc]
  | 0, acc, x :: r => [acc ++ x :: r]
  | k + 1, acc, x :: r => if x = c then acc :: spc c k [] r else spc c (k + 1) (acc ++ [x]) r
theorem spc_zero (c : Nat) (acc l : List Nat) : spc c 0 acc l = [acc ++ l] := by
  cases l <;> simp [spc]
theorem spc_free {c : Nat} : ∀ {k : Nat} {p acc : List Nat}, c ∉ p → spc c k acc p = [acc ++ p]
  | 0, p, acc, _ => spc_zero c acc p
  | k + 1, [], acc, _ => by simp [spc]
  | k + 1, x :: p, acc, h => by
    rw [spc, if_neg (fun z => h (by simp [z])), spc_free (fun z => h (List.mem_cons_of_mem _ z))]
    simp
theorem spc_at {c : Nat} : ∀ {k : Nat} {p r acc : List Nat}, c ∉ p → spc c (k + 1) acc (p ++ c :: r) = (acc ++ p) :: spc c k [] r
  | k, [], r, acc, _ => by simp [spc]
  | k, x :: p, r, acc, h => by
    rw [List.cons_append, spc, if_neg (fun z => h (by simp [z])), spc_at (fun z => h (List.mem_cons_of_mem _ z))]
    simp
theorem tl_sub (l : List Nat) (a b : Nat) : (strSub (mkS l) a b).cps.toList = (l.drop a).take (b - a) := strSub_toList (mkS l) a b
theorem parts_spc (l : List Nat) (c : Nat) : ∀ (n k a b : Nat), l.length - b = n → a ≤ b → b ≤ l.length →
    (partsFrom (mkS l) 1 a ((posL c b (l.drop b)).take k)).map (fun y => y.cps.toList) = spc c k ((l.drop a).take (b - a)) (l.drop b) := by
  intro n
  induction n with
  | zero =>
    intro k a b hn hab hb
    have e : b = l.length := by omega
    subst e
    simp [posL, spc, partsFrom, tl_sub, mkS_len]
  | succ n ih =>
    intro k a b hn hab hb
    have hi : b < l.length := by omega
    rw [List.drop_eq_getElem_cons hi]
    have hjoin : (l.drop a).take (b - a) ++ [l[b]] = (l.drop a).take (b + 1 - a) := by
      have : b + 1 - a = (b - a) + 1 := by omega
      rw [this, List.take_succ, List.getElem?_drop]
      have e2 : a + (b - a) = b := by omega
      rw [e2, List.getElem?_eq_getElem hi]
      rfl
    cases k with
    | zero =>
      rw [spc]
      simp only [List.take_zero, partsFrom, List.map_cons, List.map_nil, tl_sub, mkS_len]
      rw [← List.drop_eq_getElem_cons hi]
      have : l.drop b = (l.drop a).drop (b - a) := by rw [List.drop_drop]; congr 1; omega
      rw [this, List.take_append_drop]
      congr 1
      rw [List.take_of_length_le]
      simp
    | succ k =>
      rw [spc]
      by_cases hc : l[b] = c
      · rw [if_pos hc]
        simp only [posL, if_pos hc, List.take_succ_cons, partsFrom, List.map_cons, tl_sub]
        have := ih k (b + 1) (b + 1) (by omega) (Nat.le_refl _) (by omega)
        rw [this]
        simp
      · rw [if_neg hc]
        simp only [posL, if_neg hc]
        have := ih (k + 1) a (b + 1) (by omega) (by omega) (by omega)
        rw [this, hjoin]
theorem kind1 (l : List Nat) {c : Nat} (hc : c < 256) : ¬ Builtin.Str.strKind (mkS l) < Builtin.Str.strKind (mkS [c]) := by
  have e : Builtin.Str.strKind (mkS [c]) = 1 := by
    unfold Builtin.Str.strKind mkS
    rw [if_pos (by simp [hc])]
  rw [e]
  unfold Builtin.Str.strKind
  split
  · omega
  · split <;> omega
theorem splitMax1 (l : List Nat) {c : Nat} (hc : c < 256) {k : Nat} : (Txt.splitMax (mkS l) (mkS [c]) (k : Int)).map (fun y => y.cps.toList) = spc c k [] l := by
  unfold Txt.splitMax
  have e1 : (mkS [c]).length = 1 := rfl
  have lim : limitOf (mkS l) (k : Int) = k := by unfold limitOf; rw [if_neg (by omega)]; simp
  rw [lim, occ1 l c k 0 (Nat.zero_le _)]
  by_cases h0 : (mkS l).length < 1
  · have hl : l = [] := by
      rw [mkS_len] at h0
      cases l with
      | nil => rfl
      | cons _ _ => simp at h0
    subst hl
    rw [e1]
    simp [h0, spc]
  · rw [e1, if_neg (by simp only [Bool.or_eq_true, decide_eq_true_eq]; exact fun z => z.elim h0 (kind1 l hc))]
    have hp := parts_spc l c l.length k 0 0 (by omega) (Nat.le_refl _) (Nat.zero_le _)
    simp only [List.drop_zero, Nat.sub_self, List.take_zero] at hp ⊢
    by_cases he : ((posL c 0 l).take k).isEmpty = true
    · rw [if_pos he]
      have e0 : (posL c 0 l).take k = [] := by simpa using he
      rw [e0] at hp
      simp only [partsFrom, List.map_cons, List.map_nil, tl_sub, mkS_len, List.drop_zero, Nat.sub_zero] at hp
      rw [← hp]
      simp [mkS]
    · rw [if_neg he, partsBetween_eq]
      exact hp
theorem posL_len (c : Nat) : ∀ (l : List Nat) (i : Nat), (posL c i l).length ≤ l.length
  | [], _ => by simp [posL]
  | x :: r, i => by
    unfold posL
    have := posL_len c r (i + 1)
    split <;> simp <;> omega
theorem spc_more {c : Nat} : ∀ {l acc : List Nat} {j k : Nat}, l.length ≤ j → l.length ≤ k → spc c j acc l = spc c k acc l
  | [], acc, j, k, _, _ => by cases j <;> cases k <;> simp [spc]
  | x :: r, acc, 0, k, h, _ => by simp at h
  | x :: r, acc, j + 1, 0, _, h => by simp at h
  | x :: r, acc, j + 1, k + 1, h1, h2 => by
    simp only [spc]
    by_cases hc : x = c
    · rw [if_pos hc, if_pos hc, spc_more (by simpa using h1) (by simpa using h2)]
    · rw [if_neg hc, if_neg hc]
      exact spc_more (by simp at h1; omega) (by simp at h2; omega)
theorem split1 (l : List Nat) {c : Nat} (hc : c < 256) : (Txt.split (mkS l) (mkS [c])).map (fun y => y.cps.toList) = spc c l.length [] l := by
  have := splitMax1 l hc (k := l.length + 1)
  have e : Txt.split (mkS l) (mkS [c]) = Txt.splitMax (mkS l) (mkS [c]) ((l.length + 1 : Nat) : Int) := by
    unfold Txt.split Txt.splitMax
    have lim : limitOf (mkS l) ((l.length + 1 : Nat) : Int) = (mkS l).length + 1 := by unfold limitOf; rw [if_neg (by omega), mkS_len]; simp
    rw [lim]
  rw [e, this]
  exact spc_more (by omega) (Nat.le_refl _)
/-! ### find -/
theorem posL_free {c : Nat} : ∀ {p : List Nat} {i : Nat}, c ∉ p → posL c i p = []
  | [], _, _ => rfl
  | x :: p, i, h => by
    rw [posL, if_neg (fun z => h (by simp [z]))]
    exact posL_free (fun z => h (List.mem_cons_of_mem _ z))
theorem posL_at {c : Nat} : ∀ {p r : List Nat} {i : Nat}, c ∉ p → posL c i (p ++ c :: r) = (i + p.length) :: posL c (i + p.length + 1) r
  | [], r, i, _ => by simp [posL]
  | x :: p, r, i, h => by
    rw [List.cons_append, posL, if_neg (fun z => h (by simp [z])), posL_at (fun z => h (List.mem_cons_of_mem _ z))]
    simp only [List.length_cons]
    have : i + 1 + p.length = i + (p.length + 1) := by omega
    rw [this]
theorem from_nat (n i : Nat) : fromIndex n (i : Int) = i := by
  unfold fromIndex
  rw [if_neg (by omega)]
  omega
theorem find3_none {l : List Nat} {c i : Nat} (hi : i ≤ l.length) (h : c ∉ l.drop i) : Txt.find3 (mkS l) (mkS [c]) (i : Int) = -1 := by
  unfold Txt.find3
  rw [from_nat, occ1 l c 1 i hi, posL_free h]
  rfl
theorem find3_some {l p r : List Nat} {c i : Nat} (hi : i ≤ l.length) (e : l.drop i = p ++ c :: r) (h : c ∉ p) : Txt.find3 (mkS l) (mkS [c]) (i : Int) = ((i + p.length : Nat) : Int) := by
  unfold Txt.find3
  rw [from_nat, occ1 l c 1 i hi, e, posL_at h]
  rfl
/-! ### numerals -/
abbrev numL := TL.numL
theorem str_nat (n : Nat) : (Str.ofString (toString ((n : Nat) : Int))).cps.toList = numL n := TL.tl_num n
/-- a numeral without a needless nought is that of its value -/
theorem numL_of : ∀ (l : List Nat), NumText.AllDigits l → l ≠ [] → (l.head? = some 48 → l = [48]) → numL (NumText.digitsVal l) = l := by
  intro l
  induction h : l.length using Nat.strongRecOn generalizing l with
  | _ n ih =>
    intro hd hne h0
    rcases List.eq_nil_or_concat l with rfl | ⟨p, x, rfl⟩
    · exact absurd rfl hne
    · rw [List.concat_eq_append] at hd h0 h hne ⊢
      have hx := hd x (by simp)
      have hv : NumText.digitsVal (p ++ [x]) = NumText.digitsVal p * 10 + (x - 48) := by unfold NumText.digitsVal; simp
      rw [hv]
      cases p with
      | nil =>
        have e0 : NumText.digitsVal [] = 0 := rfl
        rw [e0, Nat.zero_mul, Nat.zero_add]
        show TL.numL (x - 48) = _
        rw [TL.numL_lt (by omega)]
        simp
        omega
      | cons y p =>
        have hy0 : y ≠ 48 := fun e => by
          have := h0 (by simp [e])
          simp at this
        have hy := hd y (by simp)
        have hp : NumText.AllDigits (y :: p) := fun c hc => hd c (List.mem_append_left _ hc)
        have ihp := ih (y :: p).length (by rw [← h]; simp) (y :: p) rfl hp (by simp) (fun e => by simp at e; exact absurd e hy0)
        have hpos : 1 ≤ NumText.digitsVal (y :: p) := by
          cases hz : NumText.digitsVal (y :: p) with
          | zero =>
            rw [hz] at ihp
            have : TL.numL 0 = [48] := TL.numL_lt (by omega)
            have ihp : TL.numL 0 = y :: p := ihp
            rw [this] at ihp
            cases ihp
            exact absurd rfl hy0
          | succ _ => omega
        show TL.numL _ = _
        rw [TL.numL_step (by omega)]
        have d1 : (NumText.digitsVal (y :: p) * 10 + (x - 48)) / 10 = NumText.digitsVal (y :: p) := by omega
        have d2 : (NumText.digitsVal (y :: p) * 10 + (x - 48)) % 10 = x - 48 := by omega
        rw [d1, d2]
        have ihp : TL.numL (NumText.digitsVal (y :: p)) = y :: p := ihp
        rw [ihp]
        have : 48 + (x - 48) = x := by omega
        rw [this]
theorem int_digits {l : List Nat} (hd : NumText.AllDigits l) (hne : l ≠ []) (hl : l.length ≤ 4300) : intText? (mkS l) = some ((NumText.digitsVal l : Nat) : Int) :=
  intText_digits (x := mkS l) hd hne (by rw [mkS_len]; exact hl)
end Fv
/-! Fv22: what the built-ins give at known values. -/
namespace Fv
open PySem
/-- not by definition: the kernel then has no need to unfold -/
theorem bok {α β : Type} {a : α} {h : SH} {k : α → SH → Out β} : (Out.ok a h).bind k = k a h := Eq.trans rfl (Eq.refl _)
theorem sIx_nat (n d : Nat) (a : Nat) : HT.sIx n d (some (a : Int)) = min a n := by
  unfold HT.sIx
  simp
  try omega
theorem sIx_none (n d : Nat) : HT.sIx n d none = d := rfl
theorem cutL_nat {α : Type} (l : List α) (a b : Nat) : cutL l (some (a : Int)) (some (b : Int)) = (l.drop a).take (b - a) := by
  unfold cutL
  rw [sIx_nat, sIx_nat]
  by_cases h : a ≤ l.length
  · rw [Nat.min_eq_left h]
    by_cases h2 : b ≤ l.length
    · rw [Nat.min_eq_left h2]
    · rw [Nat.min_eq_right (by omega), List.take_of_length_le (by simp), List.take_of_length_le (by simp; omega)]
  · have e : min a l.length = l.length := Nat.min_eq_right (by omega)
    rw [e, List.drop_of_length_le (Nat.le_refl l.length), List.drop_of_length_le (l := l) (i := a) (by omega)]
    simp
theorem cutL_to {α : Type} (l : List α) (b : Nat) : cutL l none (some (b : Int)) = l.take b := by
  unfold cutL
  rw [sIx_nat, sIx_none, List.drop_zero, Nat.sub_zero]
  by_cases h2 : b ≤ l.length
  · rw [Nat.min_eq_left h2]
  · rw [Nat.min_eq_right (by omega), List.take_of_length_le (Nat.le_refl _), List.take_of_length_le (by omega)]
theorem cutL_from {α : Type} (l : List α) (a : Nat) : cutL l (some (a : Int)) none = l.drop a := by
  unfold cutL
  rw [sIx_nat, sIx_none]
  by_cases h : a ≤ l.length
  · rw [Nat.min_eq_left h, List.take_of_length_le (by simp)]
  · rw [Nat.min_eq_right (by omega), List.drop_of_length_le (Nat.le_refl _), List.drop_of_length_le (by omega)]
    simp
theorem atI_nat {α : Type} {xs : List α} {n : Nat} {x : α} (e : xs[n]? = some x) : L2.atI xs (n : Int) = some x := by
  unfold L2.atI
  have hl : n < xs.length := (List.getElem?_eq_some_iff.mp e).1
  have : L2.ixN xs.length (n : Int) = some n := by
    unfold L2.ixN
    rw [if_pos (by omega), if_pos (by omega)]
    simp
  rw [this]
  exact e
theorem atI_last {α : Type} (xs : List α) (x : α) : L2.atI (xs ++ [x]) (-1) = some x := by
  unfold L2.atI
  have : L2.ixN (xs ++ [x]).length (-1) = some xs.length := by
    unfold L2.ixN
    rw [if_neg (by omega), if_pos (by rw [List.length_append]; simp; omega)]
    simp
    omega
  rw [this]
  simp
theorem sl_str {l : List Nat} (hl : l.length ≤ sizeLine) (a b : Nat) (h : SH) : gSl (.str l) (some (a : Int)) (some (b : Int)) h = .ok (.str ((l.drop a).take (b - a))) h := by
  unfold gSl
  simp only
  rw [if_pos hl, cutL_nat]
theorem sl_str_to {l : List Nat} (hl : l.length ≤ sizeLine) (b : Nat) (h : SH) : gSl (.str l) none (some (b : Int)) h = .ok (.str (l.take b)) h := by
  unfold gSl
  simp only
  rw [if_pos hl, cutL_to]
theorem sl_str_from {l : List Nat} (hl : l.length ≤ sizeLine) (a : Nat) (h : SH) : gSl (.str l) (some (a : Int)) none h = .ok (.str (l.drop a)) h := by
  unfold gSl
  simp only
  rw [if_pos hl, cutL_from]
theorem ix_str {l : List Nat} {n c : Nat} (hl : l.length ≤ sizeLine) (e : l[n]? = some c) (h : SH) : gIx (.str l) (.int (n : Nat)) h = .ok (.str [c]) h := by
  unfold gIx
  simp only
  rw [if_pos hl, atI_nat e]
theorem ix_ls {xs : List SV} {n : Nat} {x : SV} (e : xs[n]? = some x) (h : SH) : gIx (.ls xs) (.int (n : Nat)) h = .ok x h := by
  unfold gIx items
  simp only [atI_nat e]
theorem ix_tup {xs : List SV} {n : Nat} {x : SV} (e : xs[n]? = some x) (h : SH) : gIx (.tup xs) (.int (n : Nat)) h = .ok x h := by
  unfold gIx items
  simp only [atI_nat e]
theorem ix_tp {xs : List SV} {n : Nat} {x : SV} (e : xs[n]? = some x) (h : SH) : gIx (.tp xs) (.int (n : Nat)) h = .ok x h := by
  unfold gIx items
  simp only [atI_nat e]
theorem ix_last {xs : List SV} {x : SV} (h : SH) : gIx (.ls (xs ++ [x])) (.int (-1)) h = .ok x h := by
  unfold gIx items
  simp only [atI_last]
theorem len_str {l : List Nat} (hl : l.length ≤ sizeLine) (h : SH) : gLen [.str l] h = .ok (.int l.length) h := by
  unfold gLen
  simp only
  rw [if_pos hl]
theorem len_ls {xs : List SV} (h : SH) : gLen [.ls xs] h = .ok (.int xs.length) h := rfl
theorem len_tup {xs : List SV} (h : SH) : gLen [.tup xs] h = .ok (.int xs.length) h := rfl
theorem len_tp {xs : List SV} (h : SH) : gLen [.tp xs] h = .ok (.int xs.length) h := rfl
theorem add_str {a b : List Nat} (hl : a.length + b.length ≤ sizeLine) (h : SH) : gAdd (.str a) (.str b) h = .ok (.str (a ++ b)) h := by
  unfold gAdd
  simp only
  rw [if_pos hl]
theorem add_int (i j : Int) (h : SH) : gAdd (.int i) (.int j) h = .ok (.int (i + j)) h := rfl
theorem eq_str (a b : List Nat) (n : Bool) (h : SH) : gEq n (.str a) (.str b) h = .ok (.bl (if n then !decide (a = b) else decide (a = b))) h := rfl
theorem eq_int (a b : Int) (n : Bool) (h : SH) : gEq n (.int a) (.int b) h = .ok (.bl (if n then !decide (a = b) else decide (a = b))) h := rfl
theorem lt_one (a b : Nat) : ltS [a] [b] = decide (a < b) := by
  show decide ([a] < [b]) = decide (a < b)
  have : [a] < [b] ↔ a < b := by
    constructor
    · intro z
      cases z with
      | rel z => exact z
      | cons z => cases z
    · exact fun z => List.Lex.rel z
  by_cases h : a < b
  · rw [decide_eq_true h, decide_eq_true (this.mpr h)]
  · rw [decide_eq_false h, decide_eq_false (fun z => h (this.mp z))]
theorem all_bls {bs : List Bool} (h : SH) : gAll [.ls (bs.map .bl)] h = .ok (.bl (bs.all id)) h := by
  unfold gAll gBools lstOf
  simp only [boolsOf_map]
theorem any_bls {bs : List Bool} (h : SH) : gAny [.ls (bs.map .bl)] h = .ok (.bl (bs.any id)) h := by
  unfold gAny gBools lstOf
  simp only [boolsOf_map]
theorem sum_ints {ns : List Int} (h : SH) : gSum [.ls (ns.map .int)] h = .ok (.int ns.sum) h := by
  unfold gSum gInts lstOf
  simp only [intsOf_map, if_true]
theorem str_of (n : Nat) (hn : n < 10 ^ 200) (h : SH) : gStr [.int (n : Int)] h = .ok (.str (numL n)) h := by
  unfold gStr
  simp only
  have hb : ((n : Int).natAbs).log2 < 1920 := by
    have e : (n : Int).natAbs = n := by simp
    rw [e]
    by_cases z : n = 0
    · subst z; decide
    · rw [Nat.log2_lt z]
      refine Nat.lt_trans hn ?_
      decide +kernel
  rw [if_pos hb]
  congr 1
  exact congrArg SV.str (str_nat n)
theorem strsOf_map (ls : List (List Nat)) : strsOf (ls.map .str) = some ls := by
  induction ls with
  | nil => rfl
  | cons l ls ih => simp only [List.map_cons, strsOf, ih]
abbrev joinL := TL.joinL
theorem tl_joined (a : List Nat) (ls : List (List Nat)) : (Txt.join (mkS a) (ls.map mkS)).cps.toList = joinL a ls := by
  rw [TL.join_eq]
  have := TL.tl_join (mkS a) (ls.map mkS)
  refine this.trans ?_
  congr 1
  rw [List.map_map]
  have : (TL.tl ∘ mkS) = fun l : List Nat => l := rfl
  rw [this, List.map_id']
theorem join_ls {a : List Nat} {ls : List (List Nat)} (hl : (ls.map List.length).sum + ls.length * a.length ≤ 16777216) (h : SH) : gJoin (.str a) [.ls (ls.map .str)] h = .ok (.str (joinL a ls)) h := by
  unfold gJoin items
  simp only [strsOf_map]
  rw [if_pos (by simpa using hl), tl_joined]
theorem joinL_nil : ∀ ls : List (List Nat), joinL [] ls = ls.flatten
  | [] => rfl
  | [l] => by show TL.joinL [] [l] = _; simp [TL.joinL]
  | l :: m :: r => by
    show TL.joinL [] (l :: m :: r) = _
    rw [TL.joinL]
    have := joinL_nil (m :: r)
    have this : TL.joinL [] (m :: r) = _ := this
    rw [this]
    simp
theorem isTy_str (l : List Nat) (h : SH) : isTy "str" (.str l) h = true := rfl
theorem isTy_loc {h : SH} {p : Nat} {xs : List SV} (e : h.get p = some (.lst xs)) : isTy "list" (.loc p) h = true := by
  unfold isTy
  simp only [e]
  rfl
theorem append_loc {h : SH} {p : Nat} {xs : List SV} {y : SV} (e : h.get p = some (.lst xs)) (hl : xs.length < sizeLine) : gAppend (.loc p) [y] h = .ok .non (h.set p (.lst (xs ++ [y]))) := by
  unfold gAppend
  simp only [e]
  rw [if_pos hl]
theorem in_sign (c : Nat) (l : List Nat) (h : SH) : gInD false (.str [c]) (.str l) h = .ok (.bl (decide (c ∈ l))) h := rfl
theorem ixs (n : Nat) {i : Int} {l : List Nat} {c : Nat} (hi : i = (n : Int)) (hl : l.length ≤ sizeLine) (e : l[n]? = some c) (h : SH) : gIx (.str l) (.int i) h = .ok (.str [c]) h := by rw [hi]; exact ix_str hl e h
theorem ixl (n : Nat) {i : Int} {xs : List SV} {x : SV} (hi : i = (n : Int)) (e : xs[n]? = some x) (h : SH) : gIx (.ls xs) (.int i) h = .ok x h := by rw [hi]; exact ix_ls e h
theorem ixt (n : Nat) {i : Int} {xs : List SV} {x : SV} (hi : i = (n : Int)) (e : xs[n]? = some x) (h : SH) : gIx (.tup xs) (.int i) h = .ok x h := by rw [hi]; exact ix_tup e h
theorem ixp (n : Nat) {i : Int} {xs : List SV} {x : SV} (hi : i = (n : Int)) (e : xs[n]? = some x) (h : SH) : gIx (.tp xs) (.int i) h = .ok x h := by rw [hi]; exact ix_tp e h
theorem wp.eqP {α : Type} {o : Out α} {a : α} {h : SH} (w : ∀ P : α → SH → Prop, P a h → wp o P) : o = .ok a h := (w (fun x h' => x = a ∧ h' = h) ⟨rfl, rfl⟩).eq
end Fv
/-! Fv23: k pots below, whatever is drawn, and some more objects. -/
namespace Fv
open PySem
def potO (p : Int × Int) : SO := .lst [.int p.1, .int p.2]
/-- k pots of two ints, then tl -/
def PH (k : Nat) (tl : List SO) (h : SH) : Prop := ∃ ps : List (Int × Int), ps.length = k ∧ h = ⟨ps.map potO ++ tl⟩
def Tn (k : Nat) (tl : List SO) : Prop := tl.all (clO (k + tl.length)) = true
variable {k : Nat}
theorem PH.nx {tl : List SO} {h : SH} (P : PH k tl h) : h.nx = k + tl.length := by
  obtain ⟨ps, e, rfl⟩ := P
  simp [SH.nx, e]
theorem PH.cnA {tl ex : List SO} {h : SH} (P : PH k (tl ++ ex) h) (T : Tn k tl) : (h.c.take (k + tl.length)).all (clO (k + tl.length)) = true := by
  obtain ⟨ps, e, rfl⟩ := P
  have : (⟨ps.map potO ++ (tl ++ ex)⟩ : SH).c.take (k + tl.length) = ps.map potO ++ tl := by
    show (ps.map potO ++ (tl ++ ex)).take _ = _
    rw [← List.append_assoc, List.take_left' (by simp [e])]
  rw [this, List.all_append, Bool.and_eq_true]
  refine ⟨?_, T⟩
  rw [List.all_map, List.all_eq_true]
  exact fun _ _ => rfl
theorem PH.cn {tl : List SO} {h : SH} (P : PH k tl h) (T : Tn k tl) : Cn h := by
  unfold Cn
  have := PH.cnA (ex := []) (by simpa using P) T
  rw [P.nx]
  obtain ⟨ps, e, rfl⟩ := P
  rwa [List.take_of_length_le (by simp [e])] at this
theorem PH.new {tl : List SO} {h : SH} (P : PH k tl h) (o : SO) : PH k (tl ++ [o]) (h.new o) := by
  obtain ⟨ps, e, rfl⟩ := P
  exact ⟨ps, e, by simp [SH.new]⟩
theorem Tn.new {tl : List SO} (T : Tn k tl) {o : SO} (c : clO (k + tl.length) o = true) : Tn k (tl ++ [o]) := by
  unfold Tn at T ⊢
  rw [List.all_eq_true] at T ⊢
  intro x hx
  have l : k + tl.length ≤ k + (tl ++ [o]).length := by simp
  rcases List.mem_append.mp hx with hx | hx
  · exact clO_up l x (T x hx)
  · have : x = o := by simpa using hx
    subst this
    exact clO_up l x c
theorem Tn.put {tl ex : List SO} {o o' : SO} (T : Tn k (tl ++ o :: ex)) (c : ∀ n, clO n o' = true) : Tn k (tl ++ o' :: ex) := by
  unfold Tn at T ⊢
  rw [List.all_eq_true] at T ⊢
  intro x hx
  have e : (tl ++ o' :: ex).length = (tl ++ o :: ex).length := by simp
  rw [e]
  rcases List.mem_append.mp hx with hx | hx
  · exact T x (List.mem_append_left _ hx)
  · rcases List.mem_cons.mp hx with rfl | hx
    · exact c _
    · exact T x (List.mem_append_right _ (List.mem_cons_of_mem _ hx))
theorem PH.new_inv {tl : List SO} {h : SH} {o : SO} (P : PH k (tl ++ [o]) h) : ∃ h0, PH k tl h0 ∧ h = h0.new o := by
  obtain ⟨ps, e, rfl⟩ := P
  exact ⟨⟨ps.map potO ++ tl⟩, ⟨ps, e, rfl⟩, by simp [SH.new]⟩
theorem PH.get {tl ex : List SO} {h : SH} {o : SO} (P : PH k (tl ++ o :: ex) h) : h.get (k + tl.length) = some o := by
  obtain ⟨ps, e, rfl⟩ := P
  unfold SH.get
  show (ps.map potO ++ (tl ++ o :: ex))[k + tl.length]? = _
  rw [← List.append_assoc, List.getElem?_append_right (by simp [e])]
  simp [e]
theorem PH.set {tl ex : List SO} {h : SH} {o o' : SO} (P : PH k (tl ++ o :: ex) h) : PH k (tl ++ o' :: ex) (h.set (k + tl.length) o') := by
  obtain ⟨ps, e, rfl⟩ := P
  refine ⟨ps, e, ?_⟩
  unfold SH.set
  congr 1
  show (ps.map potO ++ (tl ++ o :: ex)).set _ _ = _
  rw [← List.append_assoc, List.set_append_right _ _ (by simp [e])]
  simp [e]
theorem PH.cut {tl ex : List SO} {h : SH} (P : PH k (tl ++ ex) h) : PH k tl (cutH (k + tl.length) h) := by
  obtain ⟨ps, e, rfl⟩ := P
  refine ⟨ps, e, ?_⟩
  unfold cutH
  congr 1
  show (ps.map potO ++ (tl ++ ex)).take _ = _
  rw [← List.append_assoc, List.take_left' (by simp [e])]
theorem PH.pot {tl : List SO} {h : SH} (P : PH k tl h) {p : Nat} (l : p < k) : ∃ a b : Int, h.get p = some (.lst [.int a, .int b]) := by
  obtain ⟨ps, e, rfl⟩ := P
  refine ⟨(ps[p]'(by omega)).1, (ps[p]'(by omega)).2, ?_⟩
  unfold SH.get
  show (ps.map potO ++ tl)[p]? = _
  rw [List.getElem?_append_left (by simp [e, l]), List.getElem?_map, List.getElem?_eq_getElem (by omega)]
  rfl
theorem PH.setP {tl : List SO} {h : SH} (P : PH k tl h) {p : Nat} (l : p < k) (a b : Int) : PH k tl (h.set p (.lst [.int a, .int b])) := by
  obtain ⟨ps, e, rfl⟩ := P
  refine ⟨ps.set p (a, b), by simp [e], ?_⟩
  unfold SH.set
  congr 1
  show (ps.map potO ++ tl).set _ _ = _
  rw [List.set_append_left _ _ (by simp [e, l]), List.map_set]
  rfl
/-- the new values of a cut -/
theorem PH.cutO {tl ex : List SO} {h : SH} {v w : SV} (P : PH k (tl ++ ex) h) (T : Tn k tl) (e : fzV (k + tl.length) h 8 v = some w) : Fv.cutO (k + tl.length) (.ok v h) = .ok w (cutH (k + tl.length) h) := by
  unfold Fv.cutO
  simp only
  rw [if_pos ⟨by rw [P.nx]; simp, P.cnA T⟩, e]
theorem fzV_loc {n p k : Nat} {h' : SH} {xs : List SV} (e : h'.get p = some (.lst xs)) (hp : n ≤ p) (c : clL n xs = true) : fzV n h' (k + 1) (.loc p) = some (.ls xs) := by
  unfold fzV
  rw [if_neg (by simp; omega)]
  simp only [e]
  rw [mapO_id (fun x hx => fz_clean k (by rw [clL_all, List.all_eq_true] at c; exact c x hx))]
  rfl
def Vf (v : SV) : Prop := ∀ n, clV n v = true
theorem Vf.str (l : List Nat) : Vf (.str l) := fun n => by simp
theorem Vf.int (i : Int) : Vf (.int i) := fun n => by simp
theorem Vf.bl (i : Bool) : Vf (.bl i) := fun n => by simp
theorem Vf.all {vs : List SV} (k : ∀ v ∈ vs, Vf v) (n : Nat) : clL n vs = true := by
  rw [clL_all, List.all_eq_true]
  exact fun v hv => k v hv n
/-- a comprehension whose items draw -/
theorem wp_lcP {α : Type} {fi : FI} {it : SIt} {e : F} {η : Sl} {h h1 : SH} {i : Nat} {tl : List SO} (as : List α) (em : α → SV) (V : SV → Prop) (hV : ∀ v, V v → Vf v) (T : Tn k tl) (hn : h.nx = k + tl.length)
    (hi : fi η h = .ok it h1) (P1 : PH k tl h1) (walk : it.vals = some (as.map em)) (hl : as.length ≤ sizeLine)
    (he : ∀ a ∈ as, ∀ tl h, PH k tl h → Tn k tl → wp (e ((wipeS η [i]).set i (some (em a))) h) fun v h' => V v ∧ ∃ ex, PH k (tl ++ ex) h' ∧ Tn k (tl ++ ex)) :
    wp (fFz (fLc fi (gtName i) (fun _ h => .ok true h) e [i]) η h) fun v h' => ∃ vs, v = .ls vs ∧ vs.length = as.length ∧ (∀ v ∈ vs, V v) ∧ PH k tl h' := by
  unfold fFz fLc
  rw [hi]
  simp only [bok]
  have go : ∀ (rest : List α) (f j : Nat) (acc : List SV) (ex : List SO) (h : SH), as.drop j = rest → rest.length < f → acc.length + rest.length ≤ sizeLine → (∀ v ∈ acc, V v) → PH k (tl ++ .lst acc :: ex) h → Tn k (tl ++ .lst acc :: ex) →
      wp (lcLoop it (gtName i) (fun _ h => .ok true h) e (k + tl.length) (wipeS η [i]) f j h) fun _ h' => ∃ vs ex, vs.length = acc.length + rest.length ∧ (∀ v ∈ vs, V v) ∧ PH k (tl ++ .lst vs :: ex) h' := by
    intro rest
    induction rest with
    | nil =>
      intro f j acc ex h ed hf hl' ha P T'
      cases f with
      | zero => exact absurd hf (Nat.not_lt_zero _)
      | succ f =>
        unfold lcLoop
        rw [SIt.at_vals walk]
        have : (as.map em)[j]? = none := by
          rw [List.getElem?_eq_none]
          have := congrArg List.length ed
          simp at this ⊢
          omega
        rw [this]
        exact .ok ⟨acc, ex, by simp, ha, P⟩
    | cons a rest ih =>
      intro f j acc ex h ed hf hl' ha P T'
      cases f with
      | zero => exact absurd hf (Nat.not_lt_zero _)
      | succ f =>
        unfold lcLoop
        rw [SIt.at_vals walk]
        have e1 : as[j]? = some a := by
          have := congrArg (fun l => l[0]?) ed
          simpa using this
        have hx : a ∈ as := List.mem_of_getElem? e1
        have e0 : (as.map em)[j]? = some (em a) := by rw [List.getElem?_map, e1]; rfl
        rw [e0]
        have e2 : as.drop (j + 1) = rest := by
          have := congrArg List.tail ed
          simpa using this
        simp only [gtName, bok, if_true]
        rw [wp_bind]
        refine (he a hx _ _ P T').mono fun v h2 ⟨hv, ex2, P2, T2⟩ => ?_
        have eA : tl ++ .lst acc :: ex ++ ex2 = tl ++ .lst acc :: (ex ++ ex2) := by simp
        rw [eA] at P2 T2
        simp only [P2.get]
        rw [if_pos (by simp at hl'; omega)]
        have hv' : ∀ w ∈ acc ++ [v], V w := fun w hw => by
          rcases List.mem_append.mp hw with hw | hw
          · exact ha w hw
          · have : w = v := by simpa using hw
            subst this
            exact hv
        refine (ih f (j + 1) (acc ++ [v]) (ex ++ ex2) _ e2 (by simp at hf; omega) (by simp at hl' ⊢; omega) hv' P2.set (T2.put fun n => ?_)).mono fun _ h' ⟨vs, ex, l, k, P'⟩ => ⟨vs, ex, by simp at l ⊢; omega, k, P'⟩
        show clL n _ = true
        exact Vf.all (fun w hw => hV w (hv' w hw)) n
  have w := SIt.size_vals walk h1
  rw [List.length_map] at w
  have e3 : h1.nx = k + tl.length := P1.nx
  rw [e3]
  obtain ⟨u, h', eo, vs, ex, l, kk, P'⟩ := (go as (it.size h1 + 100000) 0 [] [] (h1.new (.lst [])) rfl (by omega) (by simpa using hl) (by simp) (P1.new _) (T.new rfl)).get
  rw [eo]
  simp only
  have hc := Vf.all (fun w hw => hV w (kk w hw)) (k + tl.length)
  rw [hn, P'.cutO T (fzV_loc P'.get (Nat.le_refl _) hc)]
  exact .ok ⟨vs, rfl, by simpa using l, kk, P'.cut⟩
/-! ### draws -/
theorem ix_loc {h : SH} {p : Nat} {xs : List SV} {i : Int} (n : Nat) (hi : i = (n : Int)) {x : SV} (g : h.get p = some (.lst xs)) (e : xs[n]? = some x) : gIx (.loc p) (.int i) h = .ok x h := by
  subst hi
  unfold gIx items
  simp only [g, atI_nat e]
theorem setL_loc {h : SH} {p : Nat} {xs : List SV} {v : SV} (i : Int) (j : Nat) (g : h.get p = some (.lst xs)) (e : L2.ixN xs.length i = some j) : gSetL (.loc p) (.int i) v h = .ok () (h.set p (.lst (xs.set j v))) := by
  unfold gSetL
  simp only [g, e]
theorem mulU_ok {h : SH} {i j : Int} (c : -(2 ^ 64) < j ∧ j < 2 ^ 64) : gMulU (.int i) (.int j) h = .ok (.int (i * j)) h := by
  have e : gMulU (.int i) (.int j) h = gMul (.int i) (.int j) h := rfl
  rw [e]
  unfold gMul gI
  simp only
  rw [if_pos]
  simp only [Bool.or_eq_true, Bool.and_eq_true, decide_eq_true_eq]
  exact .inr c
theorem mod_ok {h : SH} {i j : Int} (c : 0 < j) : gMod (.int i) (.int j) h = .ok (.int (i % j)) h := by
  unfold gMod gI
  simp only
  rw [if_pos (by simpa using c)]
theorem div_ok {h : SH} {i j : Int} (c : 0 < j) (c2 : j < 1073741824) : gDiv (.int i) (.int j) h = .ok (.int (i / j)) h := by
  unfold gDiv gI
  simp only
  rw [if_pos (by simp [c, c2])]
theorem _root_.Fv.wp.via {α : Type} {o : Out α} {S : α → SH → Prop} (w : ∀ P : α → SH → Prop, (∀ a h, S a h → P a h) → wp o P) : wp o S := w S fun _ _ z => z
theorem ix0 {h : SH} {p : Nat} {x : SV} {xs : List SV} (g : h.get p = some (.lst (x :: xs))) : gIx (.loc p) (.int 0) h = .ok x h := ix_loc 0 rfl g rfl
theorem ix1 {h : SH} {p : Nat} {x y : SV} {xs : List SV} (g : h.get p = some (.lst (x :: y :: xs))) : gIx (.loc p) (.int 1) h = .ok y h := ix_loc 1 rfl g rfl
theorem setL0 {h : SH} {p : Nat} {a b v : SV} (g : h.get p = some (.lst [a, b])) : gSetL (.loc p) (.int 0) v h = .ok () (h.set p (.lst [v, b])) := setL_loc 0 0 g rfl
theorem setL1 {h : SH} {p : Nat} {a b v : SV} (g : h.get p = some (.lst [a, b])) : gSetL (.loc p) (.int 1) v h = .ok () (h.set p (.lst [a, v])) := setL_loc 1 1 g rfl
theorem rel_int (f : Int → Int → Bool) (g : List Nat → List Nat → Bool) (i j : Int) (h : SH) : gRelU f g (.int i) (.int j) h = .ok (.bl (f i j)) h := rfl
theorem faC1 {a : F} {η : Sl} {h : SH} : faC a faN η h = (a η h).bind fun x h => .ok [x] h := rfl
theorem faC2 {a b : F} {η : Sl} {h : SH} : faC a (faC b faN) η h = (a η h).bind fun x h => (b η h).bind fun y h => .ok [x, y] h := by
  show (a η h).bind (fun x h => ((b η h).bind fun y h => Out.ok [y] h).bind fun xs h => .ok (x :: xs) h) = _
  cases a η h with
  | ok x h1 => simp only [bok]; cases b η h1 <;> rfl
  | _ => rfl
theorem rng_vals (n : Nat) : (SIt.rng 0 n).vals = some ((List.range n).map fun i : Nat => SV.int (0 + i)) := rfl
/-- over range(a), a drawn -/
theorem wp_rngP {a : F} {e : F} {η : Sl} {h : SH} {i : Nat} {tl : List SO} (lo hi : Nat) (V : SV → Prop) (hV : ∀ v, V v → Vf v) (P : PH k tl h) (T : Tn k tl) (hhi : hi ≤ 1000000)
    (wa : wp (a η h) fun v h' => ∃ n : Nat, v = .int (n : Int) ∧ lo ≤ n ∧ n ≤ hi ∧ PH k tl h')
    (he : ∀ j : Nat, ∀ tl h, PH k tl h → Tn k tl → wp (e ((wipeS η [i]).set i (some (.int (0 + (j : Int))))) h) fun v h' => V v ∧ ∃ ex, PH k (tl ++ ex) h' ∧ Tn k (tl ++ ex)) :
    wp (fFz (fLc (fiRng1 (faC a faN)) (gtName i) (fun _ h => .ok true h) e [i]) η h) fun v h' => ∃ vs, v = .ls vs ∧ lo ≤ vs.length ∧ vs.length ≤ hi ∧ (∀ v ∈ vs, V v) ∧ PH k tl h' := by
  have hs := sizeLine_eq
  obtain ⟨v, h1, e1, n, rfl, l1, l2, P1⟩ := wa.get
  have hi : fiRng1 (faC a faN) η h = .ok (.rng 0 n) h1 := by
    unfold fiRng1 faC faN
    rw [e1]
    simp only [bok]
    rw [if_pos (by unfold small62; simp; omega)]
    simp
  refine (wp_lcP (List.range n) (fun j : Nat => .int (0 + (j : Int))) V hV T P.nx hi P1 (rng_vals n) (by simp; omega) fun j _ tl h P T => he j tl h P T).mono fun v h' ⟨vs, e, l, k, P'⟩ => ?_
  rw [List.length_range] at l
  exact ⟨vs, e, by omega, by omega, k, P'⟩
end Fv
/-! Fv24: the same kind and number, part by part (the helper that most laws bring). -/
namespace Fv
open PySem
def fbSame (r : Nat → FF) : FS := fSeq (fIfS (fTst (fOp (gIsN false) (fVar 1) (fC .non))) (fRet (fOp (gIsN false) (fVar 0) (fC .non))) (fNx)) (fSeq (fIfS (fTru (fCa gIsi1 (faC (fVar 1) (faC (fC (.ty .bool)) (faN))))) (fRet (fAnd (fCa gIsi1 (faC (fVar 0) (faC (fC (.ty .bool)) (faN)))) (fOp (gEq false) (fVar 0) (fVar 1)))) (fNx)) (fSeq (fIfS (fTru (fCa gIsi1 (faC (fVar 1) (faC (fC (.ty .str)) (faN))))) (fRet (fAnd (fCa gIsi1 (faC (fVar 0) (faC (fC (.ty .str)) (faN)))) (fOp (gEq false) (fVar 0) (fVar 1)))) (fNx)) (fSeq (fIfS (fTru (fCa gIsi1 (faC (fVar 1) (faC (fC (.ty .int)) (faN))))) (fRet (fAnd (fCa gIsi1 (faC (fVar 0) (faC (fC (.ty .int)) (faN)))) (fAnd (fNot (fCa gIsi1 (faC (fVar 0) (faC (fC (.ty .bool)) (faN))))) (fOp (gEq false) (fVar 0) (fVar 1))))) (fNx)) (fSeq (fIfS (fTru (fCa gIsi1 (faC (fVar 1) (faC (fC (.ty .tuple)) (faN))))) (fSeq (fIfS (fOrT (fNotT (fTru (fCa gIsi1 (faC (fVar 0) (faC (fC (.ty .tuple)) (faN)))))) (fTst (fOp (gEq true) (fCa gLen (faC (fVar 0) (faN))) (fCa gLen (faC (fVar 1) (faN)))))) (fRet (fC (.bl false))) (fNx)) (fRet (fCa gAll (faC (fFz (fLc (fiZip (faC (fVar 0) (faC (fVar 1) (faN)))) (gtTup 2 (gtCons (gtName 2) (gtCons (gtName 3) (gtNil)))) (fun _ h => .ok true h) (fCall 2 (r 0) (faC (fVar 2) (faC (fVar 3) (faN)))) [2, 3])) (faN))))) (fNx)) (fSeq (fIfS (fTru (fCa gIsi1 (faC (fVar 1) (faC (fC (.ty .list)) (faN))))) (fSeq (fIfS (fOrT (fNotT (fTru (fCa gIsi1 (faC (fVar 0) (faC (fC (.ty .list)) (faN)))))) (fTst (fOp (gEq true) (fCa gLen (faC (fVar 0) (faN))) (fCa gLen (faC (fVar 1) (faN)))))) (fRet (fC (.bl false))) (fNx)) (fRet (fCa gAll (faC (fFz (fLc (fiZip (faC (fVar 0) (faC (fVar 1) (faN)))) (gtTup 2 (gtCons (gtName 2) (gtCons (gtName 3) (gtNil)))) (fun _ h => .ok true h) (fCall 2 (r 0) (faC (fVar 2) (faC (fVar 3) (faN)))) [2, 3])) (faN))))) (fNx)) (fRet (fOp (gEq false) (fVar 0) (fVar 1))))))))
def rcSame : Nat → Nat → FF
  | 0 => fun _ _ _ => .bad
  | k + 1 => fun j => match j with
    | 0 => fBody 4 (fbSame (rcSame k))
    | _ => fun _ _ => .bad
/-- any iterator, its items known at all heaps on the way -/
theorem fz_lcI {fi : FI} {it : SIt} {t : GT} {e : F} {η : Sl} {h : SH} {vs : List Nat} (items : List SV) (ft : SV → Sl) (fe : SV → SV) (C : Cn h)
    (hi : fi η h = .ok it h) (hat : ∀ acc j, it.at j (h.new (.lst acc)) = some items[j]?) (hsz : items.length ≤ it.size h + 1000) (hl : items.length ≤ sizeLine)
    (ht : ∀ x ∈ items, ∀ acc, t x (wipeS η vs) (h.new (.lst acc)) = .ok (ft x) (h.new (.lst acc)))
    (he : ∀ x ∈ items, ∀ acc, clL h.nx acc = true → e (ft x) (h.new (.lst acc)) = .ok (fe x) (h.new (.lst acc))) (hcl : ∀ x ∈ items, clV h.nx (fe x) = true) :
    fFz (fLc fi t (fun _ h => .ok true h) e vs) η h = .ok (.ls (items.map fe)) h := by
  unfold fFz fLc
  rw [hi]
  simp only [bok]
  have go : ∀ (rest : List SV) (f j : Nat) (acc : List SV), items.drop j = rest → rest.length < f → acc.length + rest.length ≤ sizeLine → clL h.nx acc = true →
      lcLoop it t (fun _ h => .ok true h) e h.nx (wipeS η vs) f j (h.new (.lst acc)) = .ok () (h.new (.lst (acc ++ rest.map fe))) := by
    intro rest
    induction rest with
    | nil =>
      intro f j acc ed hf hl' ha
      cases f with
      | zero => exact absurd hf (Nat.not_lt_zero _)
      | succ f =>
        unfold lcLoop
        rw [hat]
        have : items[j]? = none := by
          rw [List.getElem?_eq_none]
          have := congrArg List.length ed
          simp at this ⊢
          omega
        rw [this]
        simp
    | cons a rest ih =>
      intro f j acc ed hf hl' ha
      cases f with
      | zero => exact absurd hf (Nat.not_lt_zero _)
      | succ f =>
        unfold lcLoop
        rw [hat]
        have e1 : items[j]? = some a := by
          have := congrArg (fun l => l[0]?) ed
          simpa using this
        have hx : a ∈ items := List.mem_of_getElem? e1
        rw [e1]
        have e2 : items.drop (j + 1) = rest := by
          have := congrArg List.tail ed
          simpa using this
        simp only [ht a hx, bok, if_true]
        rw [he a hx acc ha]
        simp only [bok, get_new_same]
        rw [if_pos (by simp at hl'; omega), SH.new_set]
        have := ih f (j + 1) (acc ++ [fe a]) e2 (by simp at hf; omega) (by simp at hl' ⊢; omega) (by simp [ha, hcl a hx])
        simpa using this
  rw [go items (it.size h + 100000) 0 [] rfl (by omega) (by simpa using hl) rfl]
  simp only [List.nil_append]
  exact cut_new C (clL_map _ _ _ hcl)
def tupOf : SV → Option (List SV)
  | .tup xs => some xs
  | .tp xs => some xs
  | _ => none
/-- alike, part by part -/
inductive Sm (h : SH) : Nat → SV → SV → Prop
  | non (d : Nat) : Sm h (d + 1) .non .non
  | bl (d : Nat) (b : Bool) : Sm h (d + 1) (.bl b) (.bl b)
  | int (d : Nat) (b : Int) : Sm h (d + 1) (.int b) (.int b)
  | str (d : Nat) (b : List Nat) : Sm h (d + 1) (.str b) (.str b)
  | tup {d : Nat} {v w : SV} {xs ys : List SV} : tupOf v = some xs → tupOf w = some ys → xs.length = ys.length → ys.length ≤ sizeLine → (∀ (i : Nat) (x y : SV), xs[i]? = some x → ys[i]? = some y → Sm h d x y) → Sm h (d + 1) v w
  | lst {d : Nat} {v w : SV} {xs ys : List SV} : lstOf h v = some xs → lstOf h w = some ys → xs.length = ys.length → ys.length ≤ sizeLine → (∀ (i : Nat) (x y : SV), xs[i]? = some x → ys[i]? = some y → Sm h d x y) → Sm h (d + 1) v w
theorem lstOf_new {h : SH} {v : SV} {xs : List SV} (e : lstOf h v = some xs) (o : SO) : lstOf (h.new o) v = some xs := by
  unfold lstOf at e ⊢
  cases v with
  | loc p =>
    simp only at e ⊢
    cases q : h.get p with
    | none => rw [q] at e; cases e
    | some oo =>
      rw [q] at e
      have : (h.new o).get p = some oo := by
        rw [SH.get_new, if_neg, q]
        intro z
        subst z
        unfold SH.get SH.nx at q
        rw [List.getElem?_eq_none (Nat.le_refl _)] at q
        cases q
      rw [this]
      exact e
  | ls ys => exact e
  | _ => cases e
theorem Sm.new {h : SH} {d : Nat} {v w : SV} (s : Sm h d v w) (o : SO) : Sm (h.new o) d v w := by
  induction s with
  | non d => exact .non d
  | bl d b => exact .bl d b
  | int d b => exact .int d b
  | str d b => exact .str d b
  | tup e1 e2 l l2 _ ih => exact .tup e1 e2 l l2 ih
  | lst e1 e2 l l2 _ ih => exact .lst (lstOf_new e1 o) (lstOf_new e2 o) l l2 ih
theorem getElem_zip2 {α β γ : Type} (f : α → β → γ) {xs : List α} {ys : List β} (i : Nat) : (List.zipWith f xs ys)[i]? = match xs[i]?, ys[i]? with | some a, some b => some (f a b) | _, _ => none := List.getElem?_zipWith
/-- the comprehension of the helper -/
theorem same_lc {d : Nat} {v w : SV} {h : SH} {xs ys : List SV} {a b : SZ} (ih : ∀ v w h, Sm h d v w → Cn h → rcSame d 0 [v, w] h = .ok (.bl true) h) (C : Cn h)
    (ea : szOf v h = some a) (eb : szOf w h = some b) (ha : ∀ acc i, a.at i (h.new (.lst acc)) = some xs[i]?) (hb : ∀ acc i, b.at i (h.new (.lst acc)) = some ys[i]?) (hz : xs.length ≤ a.size h)
    (l : xs.length = ys.length) (l2 : ys.length ≤ sizeLine) (k : ∀ (i : Nat) (x y : SV), xs[i]? = some x → ys[i]? = some y → Sm h d x y) :
    fFz (fLc (fiZip (faC (fVar 0) (faC (fVar 1) (faN)))) (gtTup 2 (gtCons (gtName 2) (gtCons (gtName 3) (gtNil)))) (fun _ h => .ok true h) (fCall 2 (rcSame d 0) (faC (fVar 2) (faC (fVar 3) (faN)))) [2, 3]) [some v, some w, none, none] h = .ok (.ls ((List.replicate xs.length true).map .bl)) h := by
  have hi : fiZip (faC (fVar 0) (faC (fVar 1) faN)) [some v, some w, none, none] h = .ok (.zip a b) h := by
    unfold fiZip
    rw [faC2]
    simp only [fVar, slot, bok, ea, eb]
  have q := fz_lcI (fi := fiZip (faC (fVar 0) (faC (fVar 1) faN))) (it := .zip a b) (t := gtTup 2 (gtCons (gtName 2) (gtCons (gtName 3) (gtNil)))) (e := fCall 2 (rcSame d 0) (faC (fVar 2) (faC (fVar 3) (faN)))) (η := [some v, some w, none, none]) (h := h) (vs := [2, 3])
    (List.zipWith (fun x y => SV.tup [x, y]) xs ys) (fun x => match x with | .tup [x, y] => [some v, some w, some x, some y] | _ => []) (fun _ => .bl true) C hi ?_ ?_ ?_ ?_ ?_ ?_
  · rw [q]
    congr 2
    apply List.ext_getElem?
    intro i
    simp only [List.getElem?_map, getElem_zip2, List.getElem?_replicate]
    by_cases c : i < xs.length
    · rw [List.getElem?_eq_getElem c, List.getElem?_eq_getElem (by omega)]
      simp [c]
    · rw [List.getElem?_eq_none (by omega)]
      simp [c]
  · intro acc j
    unfold SIt.at
    simp only [ha, hb, getElem_zip2]
    by_cases c : j < xs.length
    · rw [List.getElem?_eq_getElem c, List.getElem?_eq_getElem (by omega : j < ys.length)]
    · rw [List.getElem?_eq_none (by omega), List.getElem?_eq_none (by omega : ys.length ≤ j)]
  · unfold SIt.size
    simp only [List.length_zipWith]
    omega
  · simp only [List.length_zipWith]
    omega
  · intro x hx acc
    obtain ⟨i, hi⟩ := List.mem_iff_getElem?.mp hx
    rw [getElem_zip2] at hi
    cases q1 : xs[i]? with
    | none => simp [q1] at hi
    | some x1 =>
      cases q2 : ys[i]? with
      | none => simp [q1, q2] at hi
      | some y1 =>
        simp only [q1, q2, Option.some.injEq] at hi
        subst hi
        rfl
  · intro x hx acc hacc
    obtain ⟨i, hi⟩ := List.mem_iff_getElem?.mp hx
    rw [getElem_zip2] at hi
    cases q1 : xs[i]? with
    | none => simp [q1] at hi
    | some x1 =>
      cases q2 : ys[i]? with
      | none => simp [q1, q2] at hi
      | some y1 =>
        simp only [q1, q2, Option.some.injEq] at hi
        subst hi
        rw [call2]
        simp only [fVar, slot, bok]
        exact ih _ _ _ ((k i x1 y1 q1 q2).new _) (C.newL hacc)
  · intro x hx
    simp
theorem rep_all (n : Nat) : (List.replicate n true).all id = true := by simp
theorem isi {v : SV} {h : SH} {t b : BT} (e : tyOf h v = some t) (hb : b ≠ .none) : gIsi1 [v, .ty b] h = .ok (.bl (t.sub b)) h := by
  unfold gIsi1 gIsi
  simp only [e]
theorem ty_tup {v : SV} {h : SH} {xs : List SV} (e : tupOf v = some xs) : tyOf h v = some .tuple := by
  cases v <;> first | rfl | cases e
theorem lst_get {h : SH} {p : Nat} {xs : List SV} (e : lstOf h (.loc p) = some xs) : h.get p = some (.lst xs) := by
  unfold lstOf at e
  simp only at e
  cases q : h.get p with
  | none => rw [q] at e; cases e
  | some o =>
    rw [q] at e
    cases o with
    | lst ys => cases e; rfl
    | dic ys => cases e
theorem ty_lst {v : SV} {h : SH} {xs : List SV} (e : lstOf h v = some xs) : tyOf h v = some .list := by
  cases v with
  | loc p =>
    have g := lst_get e
    unfold tyOf
    simp only [g]
  | ls xs => rfl
  | _ => cases e
theorem len_t {v : SV} {h : SH} {xs : List SV} (e : tupOf v = some xs) : gLen [v] h = .ok (.int xs.length) h := by
  cases v <;> cases e <;> rfl
theorem len_l {v : SV} {h : SH} {xs : List SV} (e : lstOf h v = some xs) : gLen [v] h = .ok (.int xs.length) h := by
  cases v with
  | loc p =>
    have g := lst_get e
    unfold gLen
    simp only [g]
  | ls xs => cases e; rfl
  | _ => cases e
theorem sz_t {v : SV} {h : SH} {xs : List SV} (e : tupOf v = some xs) : ∃ a : SZ, szOf v h = some a ∧ (∀ acc i, a.at i (h.new (.lst acc)) = some xs[i]?) ∧ xs.length ≤ a.size h := by
  cases v <;> cases e
  · exact ⟨_, rfl, fun _ _ => rfl, Nat.le_refl _⟩
  · exact ⟨_, rfl, fun _ _ => rfl, Nat.le_refl _⟩
theorem sz_l {v : SV} {h : SH} {xs : List SV} (e : lstOf h v = some xs) : ∃ a : SZ, szOf v h = some a ∧ (∀ acc i, a.at i (h.new (.lst acc)) = some xs[i]?) ∧ xs.length ≤ a.size h := by
  cases v with
  | loc p =>
    have g := lst_get e
    have g2 := fun acc => lst_get (lstOf_new e (.lst acc))
    refine ⟨.lst p, ?_, fun acc i => ?_, ?_⟩
    · unfold szOf
      simp only [g]
    · unfold SZ.at
      simp only [g2 acc]
    · unfold SZ.size
      simp only [g]
      exact Nat.le_refl _
  | ls ys => cases e; exact ⟨.fl xs, rfl, fun _ _ => rfl, Nat.le_refl _⟩
  | _ => cases e
theorem isN_ty {v : SV} {h : SH} {t : BT} (e : tyOf h v = some t) (n : t ≠ .none) : isNon v = false := by
  cases v <;> first | rfl | (cases e; exact absurd rfl n)
theorem same_ok : ∀ (d : Nat) (v w : SV) (h : SH), Sm h d v w → Cn h → rcSame d 0 [v, w] h = .ok (.bl true) h
  | d + 1, v, w, h, s, C => by
    have ih := same_ok d
    cases s with
    | non => rfl
    | bl d b => cases b <;> rfl
    | int d b =>
      show fBody 4 (fbSame (rcSame d)) [_, _] h = _
      unfold fbSame
      have t : tyOf h (.int b) = some .int := rfl
      have hn : isNon (.int b) = false := rfl
      have i1 : gIsi1 [.int b, .ty .bool] h = .ok (.bl false) h := isi t nofun
      have i2 : gIsi1 [.int b, .ty .str] h = .ok (.bl false) h := isi t nofun
      have i3 : gIsi1 [.int b, .ty .int] h = .ok (.bl true) h := isi t nofun
      simp only [fBody, startS, List.length_cons, List.length_nil, List.map_cons, List.map_nil, List.replicate, List.cons_append, List.nil_append, Nat.reduceAdd, Nat.reduceSub]
      (simp only [fBody, startS, fSeq, fSet, fVar, fC, slot, fNx, fRet, fRetN, fDrop, fIfS, fOp, fUn, fTst, fTru, truS, fAndT, fOrT, fNotT, fAnd, fOr, fNot, fIf, faN, faC, fCa, gIsN, bok, if_true, if_false, Bool.false_eq_true, Bool.not_true, Bool.not_false, decide_true, decide_false, reduceCtorEq, List.length_cons, List.length_nil, Nat.reduceAdd, List.map_cons, List.map_nil, List.replicate, List.cons_append, List.nil_append, Nat.reduceSub, List.set_cons_zero, List.set_cons_succ])
      simp only [hn]
      (simp only [fBody, startS, fSeq, fSet, fVar, fC, slot, fNx, fRet, fRetN, fDrop, fIfS, fOp, fUn, fTst, fTru, truS, fAndT, fOrT, fNotT, fAnd, fOr, fNot, fIf, faN, faC, fCa, gIsN, bok, if_true, if_false, Bool.false_eq_true, Bool.not_true, Bool.not_false, decide_true, decide_false, reduceCtorEq, List.length_cons, List.length_nil, Nat.reduceAdd, List.map_cons, List.map_nil, List.replicate, List.cons_append, List.nil_append, Nat.reduceSub, List.set_cons_zero, List.set_cons_succ])
      simp only [i1]
      (simp only [fBody, startS, fSeq, fSet, fVar, fC, slot, fNx, fRet, fRetN, fDrop, fIfS, fOp, fUn, fTst, fTru, truS, fAndT, fOrT, fNotT, fAnd, fOr, fNot, fIf, faN, faC, fCa, gIsN, bok, if_true, if_false, Bool.false_eq_true, Bool.not_true, Bool.not_false, decide_true, decide_false, reduceCtorEq, List.length_cons, List.length_nil, Nat.reduceAdd, List.map_cons, List.map_nil, List.replicate, List.cons_append, List.nil_append, Nat.reduceSub, List.set_cons_zero, List.set_cons_succ])
      simp only [i2]
      (simp only [fBody, startS, fSeq, fSet, fVar, fC, slot, fNx, fRet, fRetN, fDrop, fIfS, fOp, fUn, fTst, fTru, truS, fAndT, fOrT, fNotT, fAnd, fOr, fNot, fIf, faN, faC, fCa, gIsN, bok, if_true, if_false, Bool.false_eq_true, Bool.not_true, Bool.not_false, decide_true, decide_false, reduceCtorEq, List.length_cons, List.length_nil, Nat.reduceAdd, List.map_cons, List.map_nil, List.replicate, List.cons_append, List.nil_append, Nat.reduceSub, List.set_cons_zero, List.set_cons_succ])
      simp only [i3]
      (simp only [fBody, startS, fSeq, fSet, fVar, fC, slot, fNx, fRet, fRetN, fDrop, fIfS, fOp, fUn, fTst, fTru, truS, fAndT, fOrT, fNotT, fAnd, fOr, fNot, fIf, faN, faC, fCa, gIsN, bok, if_true, if_false, Bool.false_eq_true, Bool.not_true, Bool.not_false, decide_true, decide_false, reduceCtorEq, List.length_cons, List.length_nil, Nat.reduceAdd, List.map_cons, List.map_nil, List.replicate, List.cons_append, List.nil_append, Nat.reduceSub, List.set_cons_zero, List.set_cons_succ])
      simp only [i3]
      (simp only [fBody, startS, fSeq, fSet, fVar, fC, slot, fNx, fRet, fRetN, fDrop, fIfS, fOp, fUn, fTst, fTru, truS, fAndT, fOrT, fNotT, fAnd, fOr, fNot, fIf, faN, faC, fCa, gIsN, bok, if_true, if_false, Bool.false_eq_true, Bool.not_true, Bool.not_false, decide_true, decide_false, reduceCtorEq, List.length_cons, List.length_nil, Nat.reduceAdd, List.map_cons, List.map_nil, List.replicate, List.cons_append, List.nil_append, Nat.reduceSub, List.set_cons_zero, List.set_cons_succ])
      simp only [i1]
      (simp only [fBody, startS, fSeq, fSet, fVar, fC, slot, fNx, fRet, fRetN, fDrop, fIfS, fOp, fUn, fTst, fTru, truS, fAndT, fOrT, fNotT, fAnd, fOr, fNot, fIf, faN, faC, fCa, gIsN, bok, if_true, if_false, Bool.false_eq_true, Bool.not_true, Bool.not_false, decide_true, decide_false, reduceCtorEq, List.length_cons, List.length_nil, Nat.reduceAdd, List.map_cons, List.map_nil, List.replicate, List.cons_append, List.nil_append, Nat.reduceSub, List.set_cons_zero, List.set_cons_succ])
      rw [eq_int]
      simp
    | str d b =>
      show fBody 4 (fbSame (rcSame d)) [_, _] h = _
      unfold fbSame
      have t : tyOf h (.str b) = some .str := rfl
      have hn : isNon (.str b) = false := rfl
      have i1 : gIsi1 [.str b, .ty .bool] h = .ok (.bl false) h := isi t nofun
      have i2 : gIsi1 [.str b, .ty .str] h = .ok (.bl true) h := isi t nofun
      (simp only [fBody, startS, fSeq, fSet, fVar, fC, slot, fNx, fRet, fRetN, fDrop, fIfS, fOp, fUn, fTst, fTru, truS, fAndT, fOrT, fNotT, fAnd, fOr, fNot, fIf, faN, faC, fCa, gIsN, bok, if_true, if_false, Bool.false_eq_true, Bool.not_true, Bool.not_false, decide_true, decide_false, reduceCtorEq, List.length_cons, List.length_nil, Nat.reduceAdd, List.map_cons, List.map_nil, List.replicate, List.cons_append, List.nil_append, Nat.reduceSub, List.set_cons_zero, List.set_cons_succ])
      simp only [hn]
      (simp only [fBody, startS, fSeq, fSet, fVar, fC, slot, fNx, fRet, fRetN, fDrop, fIfS, fOp, fUn, fTst, fTru, truS, fAndT, fOrT, fNotT, fAnd, fOr, fNot, fIf, faN, faC, fCa, gIsN, bok, if_true, if_false, Bool.false_eq_true, Bool.not_true, Bool.not_false, decide_true, decide_false, reduceCtorEq, List.length_cons, List.length_nil, Nat.reduceAdd, List.map_cons, List.map_nil, List.replicate, List.cons_append, List.nil_append, Nat.reduceSub, List.set_cons_zero, List.set_cons_succ])
      simp only [i1]
      (simp only [fBody, startS, fSeq, fSet, fVar, fC, slot, fNx, fRet, fRetN, fDrop, fIfS, fOp, fUn, fTst, fTru, truS, fAndT, fOrT, fNotT, fAnd, fOr, fNot, fIf, faN, faC, fCa, gIsN, bok, if_true, if_false, Bool.false_eq_true, Bool.not_true, Bool.not_false, decide_true, decide_false, reduceCtorEq, List.length_cons, List.length_nil, Nat.reduceAdd, List.map_cons, List.map_nil, List.replicate, List.cons_append, List.nil_append, Nat.reduceSub, List.set_cons_zero, List.set_cons_succ])
      simp only [i2]
      (simp only [fBody, startS, fSeq, fSet, fVar, fC, slot, fNx, fRet, fRetN, fDrop, fIfS, fOp, fUn, fTst, fTru, truS, fAndT, fOrT, fNotT, fAnd, fOr, fNot, fIf, faN, faC, fCa, gIsN, bok, if_true, if_false, Bool.false_eq_true, Bool.not_true, Bool.not_false, decide_true, decide_false, reduceCtorEq, List.length_cons, List.length_nil, Nat.reduceAdd, List.map_cons, List.map_nil, List.replicate, List.cons_append, List.nil_append, Nat.reduceSub, List.set_cons_zero, List.set_cons_succ])
      simp only [i2]
      (simp only [fBody, startS, fSeq, fSet, fVar, fC, slot, fNx, fRet, fRetN, fDrop, fIfS, fOp, fUn, fTst, fTru, truS, fAndT, fOrT, fNotT, fAnd, fOr, fNot, fIf, faN, faC, fCa, gIsN, bok, if_true, if_false, Bool.false_eq_true, Bool.not_true, Bool.not_false, decide_true, decide_false, reduceCtorEq, List.length_cons, List.length_nil, Nat.reduceAdd, List.map_cons, List.map_nil, List.replicate, List.cons_append, List.nil_append, Nat.reduceSub, List.set_cons_zero, List.set_cons_succ])
      rw [eq_str]
      simp
    | tup e1 e2 l l2 k =>
      rename_i xs ys
      show fBody 4 (fbSame (rcSame d)) [v, w] h = _
      have hlc := fun (a b : SZ) ea eb ha hb hz => same_lc (d := d) (v := v) (w := w) (h := h) (xs := xs) (ys := ys) (a := a) (b := b) ih C ea eb ha hb hz l l2 k
      obtain ⟨a, a1, a2, a3⟩ := sz_t (h := h) e1
      obtain ⟨b, b1, b2, b3⟩ := sz_t (h := h) e2
      have hlc := hlc a b a1 b1 a2 b2 a3
      have t1 := ty_tup (h := h) e1
      have t2 := ty_tup (h := h) e2
      have hn : isNon w = false := isN_ty t2 nofun
      have i1 : gIsi1 [w, .ty .bool] h = .ok (.bl false) h := isi t2 nofun
      have i2 : gIsi1 [w, .ty .str] h = .ok (.bl false) h := isi t2 nofun
      have i3 : gIsi1 [w, .ty .int] h = .ok (.bl false) h := isi t2 nofun
      have i4 : gIsi1 [w, .ty .tuple] h = .ok (.bl true) h := isi t2 nofun
      have j4 : gIsi1 [v, .ty .tuple] h = .ok (.bl true) h := isi t1 nofun
      unfold fbSame
      revert hlc
      generalize fFz (fLc (fiZip (faC (fVar 0) (faC (fVar 1) (faN)))) (gtTup 2 (gtCons (gtName 2) (gtCons (gtName 3) (gtNil)))) (fun _ h => .ok true h) (fCall 2 (rcSame d 0) (faC (fVar 2) (faC (fVar 3) (faN)))) [2, 3]) = F
      intro hlc
      (simp only [fBody, startS, fSeq, fSet, fVar, fC, slot, fNx, fRet, fRetN, fDrop, fIfS, fOp, fUn, fTst, fTru, truS, fAndT, fOrT, fNotT, fAnd, fOr, fNot, fIf, faN, faC, fCa, gIsN, bok, if_true, if_false, Bool.false_eq_true, Bool.not_true, Bool.not_false, decide_true, decide_false, reduceCtorEq, List.length_cons, List.length_nil, Nat.reduceAdd, List.map_cons, List.map_nil, List.replicate, List.cons_append, List.nil_append, Nat.reduceSub, List.set_cons_zero, List.set_cons_succ])
      simp only [hn]
      (simp only [fBody, startS, fSeq, fSet, fVar, fC, slot, fNx, fRet, fRetN, fDrop, fIfS, fOp, fUn, fTst, fTru, truS, fAndT, fOrT, fNotT, fAnd, fOr, fNot, fIf, faN, faC, fCa, gIsN, bok, if_true, if_false, Bool.false_eq_true, Bool.not_true, Bool.not_false, decide_true, decide_false, reduceCtorEq, List.length_cons, List.length_nil, Nat.reduceAdd, List.map_cons, List.map_nil, List.replicate, List.cons_append, List.nil_append, Nat.reduceSub, List.set_cons_zero, List.set_cons_succ])
      simp only [i1]
      (simp only [fBody, startS, fSeq, fSet, fVar, fC, slot, fNx, fRet, fRetN, fDrop, fIfS, fOp, fUn, fTst, fTru, truS, fAndT, fOrT, fNotT, fAnd, fOr, fNot, fIf, faN, faC, fCa, gIsN, bok, if_true, if_false, Bool.false_eq_true, Bool.not_true, Bool.not_false, decide_true, decide_false, reduceCtorEq, List.length_cons, List.length_nil, Nat.reduceAdd, List.map_cons, List.map_nil, List.replicate, List.cons_append, List.nil_append, Nat.reduceSub, List.set_cons_zero, List.set_cons_succ])
      simp only [i2]
      (simp only [fBody, startS, fSeq, fSet, fVar, fC, slot, fNx, fRet, fRetN, fDrop, fIfS, fOp, fUn, fTst, fTru, truS, fAndT, fOrT, fNotT, fAnd, fOr, fNot, fIf, faN, faC, fCa, gIsN, bok, if_true, if_false, Bool.false_eq_true, Bool.not_true, Bool.not_false, decide_true, decide_false, reduceCtorEq, List.length_cons, List.length_nil, Nat.reduceAdd, List.map_cons, List.map_nil, List.replicate, List.cons_append, List.nil_append, Nat.reduceSub, List.set_cons_zero, List.set_cons_succ])
      simp only [i3]
      (simp only [fBody, startS, fSeq, fSet, fVar, fC, slot, fNx, fRet, fRetN, fDrop, fIfS, fOp, fUn, fTst, fTru, truS, fAndT, fOrT, fNotT, fAnd, fOr, fNot, fIf, faN, faC, fCa, gIsN, bok, if_true, if_false, Bool.false_eq_true, Bool.not_true, Bool.not_false, decide_true, decide_false, reduceCtorEq, List.length_cons, List.length_nil, Nat.reduceAdd, List.map_cons, List.map_nil, List.replicate, List.cons_append, List.nil_append, Nat.reduceSub, List.set_cons_zero, List.set_cons_succ])
      simp only [i4]
      (simp only [fBody, startS, fSeq, fSet, fVar, fC, slot, fNx, fRet, fRetN, fDrop, fIfS, fOp, fUn, fTst, fTru, truS, fAndT, fOrT, fNotT, fAnd, fOr, fNot, fIf, faN, faC, fCa, gIsN, bok, if_true, if_false, Bool.false_eq_true, Bool.not_true, Bool.not_false, decide_true, decide_false, reduceCtorEq, List.length_cons, List.length_nil, Nat.reduceAdd, List.map_cons, List.map_nil, List.replicate, List.cons_append, List.nil_append, Nat.reduceSub, List.set_cons_zero, List.set_cons_succ])
      simp only [j4]
      (simp only [fBody, startS, fSeq, fSet, fVar, fC, slot, fNx, fRet, fRetN, fDrop, fIfS, fOp, fUn, fTst, fTru, truS, fAndT, fOrT, fNotT, fAnd, fOr, fNot, fIf, faN, faC, fCa, gIsN, bok, if_true, if_false, Bool.false_eq_true, Bool.not_true, Bool.not_false, decide_true, decide_false, reduceCtorEq, List.length_cons, List.length_nil, Nat.reduceAdd, List.map_cons, List.map_nil, List.replicate, List.cons_append, List.nil_append, Nat.reduceSub, List.set_cons_zero, List.set_cons_succ])
      simp only [len_t e1]
      (simp only [fBody, startS, fSeq, fSet, fVar, fC, slot, fNx, fRet, fRetN, fDrop, fIfS, fOp, fUn, fTst, fTru, truS, fAndT, fOrT, fNotT, fAnd, fOr, fNot, fIf, faN, faC, fCa, gIsN, bok, if_true, if_false, Bool.false_eq_true, Bool.not_true, Bool.not_false, decide_true, decide_false, reduceCtorEq, List.length_cons, List.length_nil, Nat.reduceAdd, List.map_cons, List.map_nil, List.replicate, List.cons_append, List.nil_append, Nat.reduceSub, List.set_cons_zero, List.set_cons_succ])
      simp only [len_t e2]
      (simp only [fBody, startS, fSeq, fSet, fVar, fC, slot, fNx, fRet, fRetN, fDrop, fIfS, fOp, fUn, fTst, fTru, truS, fAndT, fOrT, fNotT, fAnd, fOr, fNot, fIf, faN, faC, fCa, gIsN, bok, if_true, if_false, Bool.false_eq_true, Bool.not_true, Bool.not_false, decide_true, decide_false, reduceCtorEq, List.length_cons, List.length_nil, Nat.reduceAdd, List.map_cons, List.map_nil, List.replicate, List.cons_append, List.nil_append, Nat.reduceSub, List.set_cons_zero, List.set_cons_succ])
      rw [eq_int]
      have e0 : decide ((xs.length : Int) = (ys.length : Int)) = true := decide_eq_true (by rw [l])
      simp only [e0, if_true]
      (simp only [fBody, startS, fSeq, fSet, fVar, fC, slot, fNx, fRet, fRetN, fDrop, fIfS, fOp, fUn, fTst, fTru, truS, fAndT, fOrT, fNotT, fAnd, fOr, fNot, fIf, faN, faC, fCa, gIsN, bok, if_true, if_false, Bool.false_eq_true, Bool.not_true, Bool.not_false, decide_true, decide_false, reduceCtorEq, List.length_cons, List.length_nil, Nat.reduceAdd, List.map_cons, List.map_nil, List.replicate, List.cons_append, List.nil_append, Nat.reduceSub, List.set_cons_zero, List.set_cons_succ])
      simp only [hlc]
      (simp only [fBody, startS, fSeq, fSet, fVar, fC, slot, fNx, fRet, fRetN, fDrop, fIfS, fOp, fUn, fTst, fTru, truS, fAndT, fOrT, fNotT, fAnd, fOr, fNot, fIf, faN, faC, fCa, gIsN, bok, if_true, if_false, Bool.false_eq_true, Bool.not_true, Bool.not_false, decide_true, decide_false, reduceCtorEq, List.length_cons, List.length_nil, Nat.reduceAdd, List.map_cons, List.map_nil, List.replicate, List.cons_append, List.nil_append, Nat.reduceSub, List.set_cons_zero, List.set_cons_succ])
      rw [all_bls, rep_all]
      (simp only [fBody, startS, fSeq, fSet, fVar, fC, slot, fNx, fRet, fRetN, fDrop, fIfS, fOp, fUn, fTst, fTru, truS, fAndT, fOrT, fNotT, fAnd, fOr, fNot, fIf, faN, faC, fCa, gIsN, bok, if_true, if_false, Bool.false_eq_true, Bool.not_true, Bool.not_false, decide_true, decide_false, reduceCtorEq, List.length_cons, List.length_nil, Nat.reduceAdd, List.map_cons, List.map_nil, List.replicate, List.cons_append, List.nil_append, Nat.reduceSub, List.set_cons_zero, List.set_cons_succ])
    | lst e1 e2 l l2 k =>
      rename_i xs ys
      show fBody 4 (fbSame (rcSame d)) [v, w] h = _
      have hlc := fun (a b : SZ) ea eb ha hb hz => same_lc (d := d) (v := v) (w := w) (h := h) (xs := xs) (ys := ys) (a := a) (b := b) ih C ea eb ha hb hz l l2 k
      obtain ⟨a, a1, a2, a3⟩ := sz_l (h := h) e1
      obtain ⟨b, b1, b2, b3⟩ := sz_l (h := h) e2
      have hlc := hlc a b a1 b1 a2 b2 a3
      have t1 := ty_lst (h := h) e1
      have t2 := ty_lst (h := h) e2
      have hn : isNon w = false := isN_ty t2 nofun
      have i1 : gIsi1 [w, .ty .bool] h = .ok (.bl false) h := isi t2 nofun
      have i2 : gIsi1 [w, .ty .str] h = .ok (.bl false) h := isi t2 nofun
      have i3 : gIsi1 [w, .ty .int] h = .ok (.bl false) h := isi t2 nofun
      have i4 : gIsi1 [w, .ty .tuple] h = .ok (.bl false) h := isi t2 nofun
      have i5 : gIsi1 [w, .ty .list] h = .ok (.bl true) h := isi t2 nofun
      have j5 : gIsi1 [v, .ty .list] h = .ok (.bl true) h := isi t1 nofun
      unfold fbSame
      revert hlc
      generalize fFz (fLc (fiZip (faC (fVar 0) (faC (fVar 1) (faN)))) (gtTup 2 (gtCons (gtName 2) (gtCons (gtName 3) (gtNil)))) (fun _ h => .ok true h) (fCall 2 (rcSame d 0) (faC (fVar 2) (faC (fVar 3) (faN)))) [2, 3]) = F
      intro hlc
      (simp only [fBody, startS, fSeq, fSet, fVar, fC, slot, fNx, fRet, fRetN, fDrop, fIfS, fOp, fUn, fTst, fTru, truS, fAndT, fOrT, fNotT, fAnd, fOr, fNot, fIf, faN, faC, fCa, gIsN, bok, if_true, if_false, Bool.false_eq_true, Bool.not_true, Bool.not_false, decide_true, decide_false, reduceCtorEq, List.length_cons, List.length_nil, Nat.reduceAdd, List.map_cons, List.map_nil, List.replicate, List.cons_append, List.nil_append, Nat.reduceSub, List.set_cons_zero, List.set_cons_succ])
      simp only [hn]
      (simp only [fBody, startS, fSeq, fSet, fVar, fC, slot, fNx, fRet, fRetN, fDrop, fIfS, fOp, fUn, fTst, fTru, truS, fAndT, fOrT, fNotT, fAnd, fOr, fNot, fIf, faN, faC, fCa, gIsN, bok, if_true, if_false, Bool.false_eq_true, Bool.not_true, Bool.not_false, decide_true, decide_false, reduceCtorEq, List.length_cons, List.length_nil, Nat.reduceAdd, List.map_cons, List.map_nil, List.replicate, List.cons_append, List.nil_append, Nat.reduceSub, List.set_cons_zero, List.set_cons_succ])
      simp only [i1]
      (simp only [fBody, startS, fSeq, fSet, fVar, fC, slot, fNx, fRet, fRetN, fDrop, fIfS, fOp, fUn, fTst, fTru, truS, fAndT, fOrT, fNotT, fAnd, fOr, fNot, fIf, faN, faC, fCa, gIsN, bok, if_true, if_false, Bool.false_eq_true, Bool.not_true, Bool.not_false, decide_true, decide_false, reduceCtorEq, List.length_cons, List.length_nil, Nat.reduceAdd, List.map_cons, List.map_nil, List.replicate, List.cons_append, List.nil_append, Nat.reduceSub, List.set_cons_zero, List.set_cons_succ])
      simp only [i2]
      (simp only [fBody, startS, fSeq, fSet, fVar, fC, slot, fNx, fRet, fRetN, fDrop, fIfS, fOp, fUn, fTst, fTru, truS, fAndT, fOrT, fNotT, fAnd, fOr, fNot, fIf, faN, faC, fCa, gIsN, bok, if_true, if_false, Bool.false_eq_true, Bool.not_true, Bool.not_false, decide_true, decide_false, reduceCtorEq, List.length_cons, List.length_nil, Nat.reduceAdd, List.map_cons, List.map_nil, List.replicate, List.cons_append, List.nil_append, Nat.reduceSub, List.set_cons_zero, List.set_cons_succ])
      simp only [i3]
      (simp only [fBody, startS, fSeq, fSet, fVar, fC, slot, fNx, fRet, fRetN, fDrop, fIfS, fOp, fUn, fTst, fTru, truS, fAndT, fOrT, fNotT, fAnd, fOr, fNot, fIf, faN, faC, fCa, gIsN, bok, if_true, if_false, Bool.false_eq_true, Bool.not_true, Bool.not_false, decide_true, decide_false, reduceCtorEq, List.length_cons, List.length_nil, Nat.reduceAdd, List.map_cons, List.map_nil, List.replicate, List.cons_append, List.nil_append, Nat.reduceSub, List.set_cons_zero, List.set_cons_succ])
      simp only [i4]
      (simp only [fBody, startS, fSeq, fSet, fVar, fC, slot, fNx, fRet, fRetN, fDrop, fIfS, fOp, fUn, fTst, fTru, truS, fAndT, fOrT, fNotT, fAnd, fOr, fNot, fIf, faN, faC, fCa, gIsN, bok, if_true, if_false, Bool.false_eq_true, Bool.not_true, Bool.not_false, decide_true, decide_false, reduceCtorEq, List.length_cons, List.length_nil, Nat.reduceAdd, List.map_cons, List.map_nil, List.replicate, List.cons_append, List.nil_append, Nat.reduceSub, List.set_cons_zero, List.set_cons_succ])
      simp only [i5]
      (simp only [fBody, startS, fSeq, fSet, fVar, fC, slot, fNx, fRet, fRetN, fDrop, fIfS, fOp, fUn, fTst, fTru, truS, fAndT, fOrT, fNotT, fAnd, fOr, fNot, fIf, faN, faC, fCa, gIsN, bok, if_true, if_false, Bool.false_eq_true, Bool.not_true, Bool.not_false, decide_true, decide_false, reduceCtorEq, List.length_cons, List.length_nil, Nat.reduceAdd, List.map_cons, List.map_nil, List.replicate, List.cons_append, List.nil_append, Nat.reduceSub, List.set_cons_zero, List.set_cons_succ])
      simp only [j5]
      (simp only [fBody, startS, fSeq, fSet, fVar, fC, slot, fNx, fRet, fRetN, fDrop, fIfS, fOp, fUn, fTst, fTru, truS, fAndT, fOrT, fNotT, fAnd, fOr, fNot, fIf, faN, faC, fCa, gIsN, bok, if_true, if_false, Bool.false_eq_true, Bool.not_true, Bool.not_false, decide_true, decide_false, reduceCtorEq, List.length_cons, List.length_nil, Nat.reduceAdd, List.map_cons, List.map_nil, List.replicate, List.cons_append, List.nil_append, Nat.reduceSub, List.set_cons_zero, List.set_cons_succ])
      simp only [len_l e1]
      (simp only [fBody, startS, fSeq, fSet, fVar, fC, slot, fNx, fRet, fRetN, fDrop, fIfS, fOp, fUn, fTst, fTru, truS, fAndT, fOrT, fNotT, fAnd, fOr, fNot, fIf, faN, faC, fCa, gIsN, bok, if_true, if_false, Bool.false_eq_true, Bool.not_true, Bool.not_false, decide_true, decide_false, reduceCtorEq, List.length_cons, List.length_nil, Nat.reduceAdd, List.map_cons, List.map_nil, List.replicate, List.cons_append, List.nil_append, Nat.reduceSub, List.set_cons_zero, List.set_cons_succ])
      simp only [len_l e2]
      (simp only [fBody, startS, fSeq, fSet, fVar, fC, slot, fNx, fRet, fRetN, fDrop, fIfS, fOp, fUn, fTst, fTru, truS, fAndT, fOrT, fNotT, fAnd, fOr, fNot, fIf, faN, faC, fCa, gIsN, bok, if_true, if_false, Bool.false_eq_true, Bool.not_true, Bool.not_false, decide_true, decide_false, reduceCtorEq, List.length_cons, List.length_nil, Nat.reduceAdd, List.map_cons, List.map_nil, List.replicate, List.cons_append, List.nil_append, Nat.reduceSub, List.set_cons_zero, List.set_cons_succ])
      rw [eq_int]
      have e0 : decide ((xs.length : Int) = (ys.length : Int)) = true := decide_eq_true (by rw [l])
      simp only [e0, if_true]
      (simp only [fBody, startS, fSeq, fSet, fVar, fC, slot, fNx, fRet, fRetN, fDrop, fIfS, fOp, fUn, fTst, fTru, truS, fAndT, fOrT, fNotT, fAnd, fOr, fNot, fIf, faN, faC, fCa, gIsN, bok, if_true, if_false, Bool.false_eq_true, Bool.not_true, Bool.not_false, decide_true, decide_false, reduceCtorEq, List.length_cons, List.length_nil, Nat.reduceAdd, List.map_cons, List.map_nil, List.replicate, List.cons_append, List.nil_append, Nat.reduceSub, List.set_cons_zero, List.set_cons_succ])
      simp only [hlc]
      (simp only [fBody, startS, fSeq, fSet, fVar, fC, slot, fNx, fRet, fRetN, fDrop, fIfS, fOp, fUn, fTst, fTru, truS, fAndT, fOrT, fNotT, fAnd, fOr, fNot, fIf, faN, faC, fCa, gIsN, bok, if_true, if_false, Bool.false_eq_true, Bool.not_true, Bool.not_false, decide_true, decide_false, reduceCtorEq, List.length_cons, List.length_nil, Nat.reduceAdd, List.map_cons, List.map_nil, List.replicate, List.cons_append, List.nil_append, Nat.reduceSub, List.set_cons_zero, List.set_cons_succ])
      rw [all_bls, rep_all]
      (simp only [fBody, startS, fSeq, fSet, fVar, fC, slot, fNx, fRet, fRetN, fDrop, fIfS, fOp, fUn, fTst, fTru, truS, fAndT, fOrT, fNotT, fAnd, fOr, fNot, fIf, faN, faC, fCa, gIsN, bok, if_true, if_false, Bool.false_eq_true, Bool.not_true, Bool.not_false, decide_true, decide_false, reduceCtorEq, List.length_cons, List.length_nil, Nat.reduceAdd, List.map_cons, List.map_nil, List.replicate, List.cons_append, List.nil_append, Nat.reduceSub, List.set_cons_zero, List.set_cons_succ])
def SmL (h : SH) (d : Nat) (xs ys : List SV) : Prop := xs.length = ys.length ∧ ∀ (i : Nat) (x y : SV), xs[i]? = some x → ys[i]? = some y → Sm h d x y
theorem SmL.nil {h : SH} {d : Nat} : SmL h d [] [] := ⟨rfl, fun i x y e => by simp at e⟩
theorem SmL.cons {h : SH} {d : Nat} {x y : SV} {xs ys : List SV} (s : Sm h d x y) (t : SmL h d xs ys) : SmL h d (x :: xs) (y :: ys) := by
  refine ⟨by simp [t.1], fun i a b ea eb => ?_⟩
  cases i with
  | zero => cases ea; cases eb; exact s
  | succ i => exact t.2 i a b (by simpa using ea) (by simpa using eb)
theorem Sm.ls {h : SH} {d : Nat} {xs ys : List SV} (s : SmL h d xs ys) (l : ys.length ≤ sizeLine) : Sm h (d + 1) (.ls xs) (.ls ys) := .lst rfl rfl s.1 l s.2
theorem Sm.lc {h : SH} {d : Nat} {p : Nat} {xs ys : List SV} (g : h.get p = some (.lst xs)) (s : SmL h d xs ys) (l : ys.length ≤ sizeLine) : Sm h (d + 1) (.loc p) (.ls ys) := .lst (by unfold lstOf; simp only [g]) rfl s.1 l s.2
/-- a value that is told as it is -/
def dp : Nat → SV → Bool
  | 0, _ => false
  | d + 1, v => match v with
    | .non => true
    | .bl _ => true
    | .int _ => true
    | .str _ => true
    | .tup xs => decide (xs.length ≤ sizeLine) && xs.all (dp d)
    | .tp xs => decide (xs.length ≤ sizeLine) && xs.all (dp d)
    | .ls xs => decide (xs.length ≤ sizeLine) && xs.all (dp d)
    | _ => false
theorem dp_sm {h : SH} : ∀ (d : Nat) (v : SV), dp d v = true → Sm h d v v
  | d + 1, v, e => by
    have key : ∀ xs : List SV, (decide (xs.length ≤ sizeLine) && xs.all (dp d)) = true → xs.length ≤ sizeLine ∧ ∀ (i : Nat) (x y : SV), xs[i]? = some x → xs[i]? = some y → Sm h d x y := fun xs e => by
      rw [Bool.and_eq_true, decide_eq_true_eq, List.all_eq_true] at e
      refine ⟨e.1, fun i x y e1 e2 => ?_⟩
      rw [e1] at e2
      cases e2
      exact dp_sm d x (e.2 x (List.mem_of_getElem? e1))
    cases v with
    | non => exact .non d
    | bl b => exact .bl d b
    | int b => exact .int d b
    | str b => exact .str d b
    | tup xs =>
      have := key xs (by unfold dp at e; exact e)
      exact .tup rfl rfl rfl this.1 this.2
    | tp xs =>
      have := key xs (by unfold dp at e; exact e)
      exact .tup rfl rfl rfl this.1 this.2
    | ls xs =>
      have := key xs (by unfold dp at e; exact e)
      exact .lst rfl rfl rfl this.1 this.2
    | _ => unfold dp at e; cases e
theorem dp_map {α : Type} {d : Nat} (f : α → SV) (k : ∀ a, dp d (f a) = true) (as : List α) : (as.map f).all (dp d) = true := by
  rw [List.all_map, List.all_eq_true]
  exact fun a _ => k a
theorem smL_map {α : Type} {h : SH} {d : Nat} (f : α → SV) (k : ∀ a, dp d (f a) = true) (as : List α) : SmL h d (as.map f) (as.map f) := by
  refine ⟨rfl, fun i x y e1 e2 => ?_⟩
  rw [e1] at e2
  cases e2
  rw [List.getElem?_map] at e1
  cases q : as[i]? with
  | none => simp [q] at e1
  | some a =>
    simp [q] at e1
    subst e1
    exact dp_sm d _ (k a)
end Fv
/-! Fv25: one statement at a time. -/
namespace Fv
open PySem
def seqK (b : FS) (P : Fl → SH → Prop) : Fl → SH → Prop
  | .nx η, h => wp (b η h) P
  | .rt v, h => P (.rt v) h
  | .bk η, h => P (.bk η) h
  | .ct η, h => P (.ct η) h
theorem wp_seq {a b : FS} {η : Sl} {h : SH} {P : Fl → SH → Prop} : wp (fSeq a b η h) P = wp (a η h) (seqK b P) := by
  unfold fSeq
  rw [wp_bind]
  congr 1
  funext fl h
  cases fl with
  | nx η => rfl
  | rt v => rw [wp_ok]; rfl
  | bk v => rw [wp_ok]; rfl
  | ct v => rw [wp_ok]; rfl
theorem seqK_nx {b : FS} {P : Fl → SH → Prop} {η : Sl} {h : SH} : seqK b P (.nx η) h = wp (b η h) P := rfl
theorem seqK_rt {b : FS} {P : Fl → SH → Prop} {v : SV} {h : SH} : seqK b P (.rt v) h = P (.rt v) h := rfl
theorem wp_set {i : Nat} {a : F} {η : Sl} {h : SH} {P : Fl → SH → Prop} : wp (fSet i a η h) P = wp (a η h) fun v h => P (.nx (η.set i (some v))) h := by
  unfold fSet
  rw [wp_bind]
  simp only [wp_ok]
theorem wp_ret {a : F} {η : Sl} {h : SH} {P : Fl → SH → Prop} : wp (fRet a η h) P = wp (a η h) fun v h => P (.rt v) h := by
  unfold fRet
  rw [wp_bind]
  simp only [wp_ok]
theorem wp_ifS {c : FT} {a b : FS} {η : Sl} {h : SH} {P : Fl → SH → Prop} : wp (fIfS c a b η h) P = wp (c η h) fun k h => if k = true then wp (a η h) P else wp (b η h) P := by
  unfold fIfS
  rw [wp_bind]
  congr 1
  funext k h
  cases k <;> rfl
theorem wp_nx {η : Sl} {h : SH} {P : Fl → SH → Prop} : wp (fNx η h) P = P (.nx η) h := wp_ok
theorem wp_op {g : G2} {a b : F} {η : Sl} {h : SH} {P : SV → SH → Prop} : wp (fOp g a b η h) P = wp (a η h) fun x h => wp (b η h) fun y h => wp (g x y h) P := by
  unfold fOp
  rw [wp_bind]
  congr 1
  funext x h
  rw [wp_bind]
theorem wp_var {i : Nat} {v : SV} {η : Sl} {h : SH} {P : SV → SH → Prop} (e : slot η i = some v) : wp (fVar i η h) P = P v h := by
  unfold fVar
  rw [e]
  exact wp_ok
theorem wp_c {v : SV} {η : Sl} {h : SH} {P : SV → SH → Prop} : wp (fC v η h) P = P v h := wp_ok
theorem wp_call1 {fe : FF} {a : F} {η : Sl} {h : SH} {P : SV → SH → Prop} : wp (fCall 1 fe (faC a faN) η h) P = wp (a η h) fun x h => wp (fe [x] h) P := by
  rw [call1, wp_bind]
theorem wp_call2 {fe : FF} {a b : F} {η : Sl} {h : SH} {P : SV → SH → Prop} : wp (fCall 2 fe (faC a (faC b faN)) η h) P = wp (a η h) fun x h => wp (b η h) fun y h => wp (fe [x, y] h) P := by
  rw [call2, wp_bind]
  congr 1
  funext x h
  rw [wp_bind]
theorem callK1 {fe : FF} {a : F} {η : Sl} {h : SH} : fCallK 0 1 1 fe faN (faC a faN) η h = (a η h).bind fun x h => fe [x] h := by
  unfold fCallK faN faC
  simp only [bok]
  cases a η h <;> rfl
theorem wp_asg {a : F} {t : GT} {η : Sl} {h : SH} {P : Fl → SH → Prop} : wp (fAsg a t η h) P = wp (a η h) fun v h => wp (t v η h) fun η h => P (.nx η) h := by
  unfold fAsg
  rw [wp_bind]
  congr 1
  funext x h
  rw [wp_bind]
  simp only [wp_ok]
theorem wp_faC {a : F} {b : FA} {η : Sl} {h : SH} {P : List SV → SH → Prop} : wp (faC a b η h) P = wp (a η h) fun x h => wp (b η h) fun xs h => P (x :: xs) h := by
  unfold faC
  rw [wp_bind]
  congr 1
  funext x h
  rw [wp_bind]
  simp only [wp_ok]
theorem wp_faN {η : Sl} {h : SH} {P : List SV → SH → Prop} : wp (faN η h) P = P [] h := wp_ok
theorem wp_tup {a : FA} {η : Sl} {h : SH} {P : SV → SH → Prop} (w : wp (a η h) fun xs h => xs.length ≤ sizeLine ∧ P (.tup xs) h) : wp (fTup a η h) P := by
  unfold fTup
  rw [wp_bind]
  refine w.mono fun xs h ⟨l, p⟩ => ?_
  rw [if_pos l]
  exact .ok p
theorem wp_tru {a : F} {η : Sl} {h : SH} {P : Bool → SH → Prop} (w : wp (a η h) fun v h => ∃ k, v = .bl k ∧ P k h) : wp (fTru a η h) P := by
  unfold fTru
  rw [wp_bind]
  refine w.mono fun v h ⟨k, e, p⟩ => ?_
  subst e
  exact .ok p
theorem wp_tst {a : F} {η : Sl} {h : SH} {P : Bool → SH → Prop} (w : wp (a η h) fun v h => ∃ k, v = .bl k ∧ P k h) : wp (fTst a η h) P := by
  unfold fTst
  rw [wp_bind]
  refine w.mono fun v h ⟨k, e, p⟩ => ?_
  subst e
  exact .ok p
theorem wp_notT {a : FT} {η : Sl} {h : SH} {P : Bool → SH → Prop} : wp (fNotT a η h) P = wp (a η h) fun k h => P (!k) h := by
  unfold fNotT
  rw [wp_bind]
  simp only [wp_ok]
theorem wp_ifE {c : FT} {a b : F} {η : Sl} {h : SH} {P : SV → SH → Prop} : wp (fIf c a b η h) P = wp (c η h) fun k h => if k = true then wp (a η h) P else wp (b η h) P := by
  unfold fIf
  rw [wp_bind]
  congr 1
  funext k h
  cases k <;> rfl
theorem wp_eq {α : Type} {o : Out α} {a : α} {h : SH} {P : α → SH → Prop} (e : o = .ok a h) : wp o P = P a h := by rw [e, wp_ok]
/-- unless two are alike: return False -/
theorem wp_guard {fe : FF} {a b : F} {s : FS} {η : Sl} {h : SH} {P : Fl → SH → Prop} {v w : SV} (ea : a η h = .ok v h) (eb : b η h = .ok w h) (ef : fe [v, w] h = .ok (.bl true) h) :
    wp (fIfS (fNotT (fTru (fCall 2 fe (faC a (faC b faN))))) s fNx η h) P = P (.nx η) h := by
  rw [wp_ifS, wp_notT]
  have : fTru (fCall 2 fe (faC a (faC b faN))) η h = .ok true h := by
    unfold fTru
    rw [call2, ea, bok, eb, bok, ef, bok]
    rfl
  rw [wp_eq this]
  simp only [Bool.not_true, Bool.false_eq_true, if_false]
  exact wp_nx
/-! ### equations from parts -/
theorem faC_ok {a : F} {b : FA} {η : Sl} {h h1 h2 : SH} {v : SV} {vs : List SV} (e : a η h = .ok v h1) (e2 : b η h1 = .ok vs h2) : faC a b η h = .ok (v :: vs) h2 := by
  unfold faC
  rw [e, bok, e2, bok]
theorem faN_ok {η : Sl} {h : SH} : faN η h = .ok [] h := rfl
theorem c_ok {v : SV} {η : Sl} {h : SH} : fC v η h = .ok v h := rfl
theorem var_ok {i : Nat} {v : SV} {η : Sl} {h : SH} (e : slot η i = some v) : fVar i η h = .ok v h := by
  unfold fVar
  rw [e]
theorem op_ok {g : G2} {a b : F} {η : Sl} {h h1 h2 : SH} {x y : SV} {o : Out SV} (e : a η h = .ok x h1) (e2 : b η h1 = .ok y h2) (e3 : g x y h2 = o) : fOp g a b η h = o := by
  unfold fOp
  rw [e, bok, e2, bok, e3]
theorem un_ok {g : G1} {a : F} {η : Sl} {h h1 : SH} {x : SV} {o : Out SV} (e : a η h = .ok x h1) (e3 : g x h1 = o) : fUn g a η h = o := by
  unfold fUn
  rw [e, bok, e3]
theorem ca_ok {g : GL} {a : FA} {η : Sl} {h h1 : SH} {xs : List SV} {o : Out SV} (e : a η h = .ok xs h1) (e3 : g xs h1 = o) : fCa g a η h = o := by
  unfold fCa
  rw [e, bok, e3]
theorem call1_ok {fe : FF} {a : F} {η : Sl} {h h1 : SH} {x : SV} {o : Out SV} (e : a η h = .ok x h1) (e2 : fe [x] h1 = o) : fCall 1 fe (faC a faN) η h = o := by
  rw [call1, e, bok, e2]
theorem call2_ok {fe : FF} {a b : F} {η : Sl} {h h1 h2 : SH} {x y : SV} {o : Out SV} (e : a η h = .ok x h1) (e2 : b η h1 = .ok y h2) (e3 : fe [x, y] h2 = o) : fCall 2 fe (faC a (faC b faN)) η h = o := by
  rw [call2, e, bok, e2, bok, e3]
theorem callK1_ok {fe : FF} {a : F} {η : Sl} {h h1 : SH} {x : SV} {o : Out SV} (e : a η h = .ok x h1) (e2 : fe [x] h1 = o) : fCallK 0 1 1 fe faN (faC a faN) η h = o := by
  rw [callK1, e, bok, e2]
theorem tup_ok {a : FA} {η : Sl} {h h1 : SH} {xs : List SV} (e : a η h = .ok xs h1) (l : xs.length ≤ sizeLine) : fTup a η h = .ok (.tup xs) h1 := by
  unfold fTup
  rw [e, bok, if_pos l]
theorem tst_ok {a : F} {η : Sl} {h h1 : SH} {b : Bool} (e : a η h = .ok (.bl b) h1) : fTst a η h = .ok b h1 := by
  unfold fTst
  rw [e, bok]
theorem tru_ok {a : F} {η : Sl} {h h1 : SH} {b : Bool} (e : a η h = .ok (.bl b) h1) : fTru a η h = .ok b h1 := by
  unfold fTru
  rw [e, bok]
  rfl
theorem mt_ok {T : String} {g : SV → List SV → SH → Out SV} {a : F} {b : FA} {η : Sl} {h h1 h2 : SH} {x : SV} {xs : List SV} {o : Out SV} (e : a η h = .ok x h1) (t : isTy T x h1 = true) (e2 : b η h1 = .ok xs h2) (e3 : g x xs h2 = o) : fMt T g a b η h = o := by
  unfold fMt
  rw [e, bok, if_pos t, e2, bok, e3]
theorem fz_lst' {a : FA} {η : Sl} {h : SH} {xs : List SV} (C : Cn h) (e : a η h = .ok xs h) (c : clL h.nx xs = true) (hl : xs.length ≤ sizeLine) : fFz (fLst a) η h = .ok (.ls xs) h := by
  refine fz_new C ?_ c
  unfold fLst
  rw [e, bok, if_pos hl]
theorem ifE_ok {c : FT} {a b : F} {η : Sl} {h h1 : SH} {k : Bool} {o : Out SV} (e : c η h = .ok k h1) (e1 : k = true → a η h1 = o) (e2 : k = false → b η h1 = o) : fIf c a b η h = o := by
  unfold fIf
  rw [e, bok]
  cases k with
  | true => rw [if_pos rfl]; exact e1 rfl
  | false => rw [if_neg Bool.false_ne_true]; exact e2 rfl
theorem and_ok {a b : F} {η : Sl} {h h1 : SH} {k : Bool} {o : Out SV} (e : a η h = .ok (.bl k) h1) (e1 : k = true → b η h1 = o) (e2 : k = false → .ok (.bl false) h1 = o) : fAnd a b η h = o := by
  unfold fAnd
  rw [e, bok]
  cases k with
  | true => exact e1 rfl
  | false => exact e2 rfl
theorem oN_ok {η : Sl} {h : SH} : foN η h = .ok none h := rfl
theorem oS_ok {a : F} {η : Sl} {h h1 : SH} {i : Int} (e : a η h = .ok (.int i) h1) : foS a η h = .ok (some i) h1 := by
  unfold foS
  rw [e, bok]
theorem sl_ok {g : GS} {a : F} {b c : FO} {η : Sl} {h h1 h2 h3 : SH} {x : SV} {i j : Option Int} {o : Out SV} (e : a η h = .ok x h1) (e1 : b η h1 = .ok i h2) (e2 : c η h2 = .ok j h3) (e3 : g x i j h3 = o) : fSl g a b c η h = o := by
  unfold fSl
  rw [e, bok, e1, bok, e2, bok, e3]
theorem it_rng (n : Nat) (η : Sl) (h : SH) (hn : n < 1000000 := by decide) : fiRng1 (faC (fC (.int (n : Int))) faN) η h = .ok (.rng 0 n) h := by
  unfold fiRng1
  rw [faC_ok c_ok faN_ok, bok]
  simp only
  rw [if_pos (by unfold small62; simp; omega)]
  simp
theorem wp_drop {a : F} {η : Sl} {h : SH} {P : Fl → SH → Prop} : wp (fDrop a η h) P = wp (a η h) fun _ h => P (.nx η) h := by
  unfold fDrop
  rw [wp_bind]
  simp only [wp_ok]
theorem sl_ls_to {xs : List SV} (hl : xs.length ≤ sizeLine) (b : Nat) (h : SH) : gSl (.ls xs) none (some (b : Int)) h = .ok (.loc h.nx) (h.new (.lst (xs.take b))) := by
  have e : gSl (.ls xs) none (some (b : Int)) h = .ok (.loc h.nx) (h.new (.lst (cutL xs none (some (b : Int))))) := rfl
  rw [e, cutL_to]
theorem add_ls {a b : List SV} (hl : a.length + b.length ≤ sizeLine) (h : SH) : gAdd (.ls a) (.ls b) h = .ok (.loc h.nx) (h.new (.lst (a ++ b))) := by
  unfold gAdd lstOf
  simp only
  rw [if_pos hl]
end Fv
/-! Fv26: values that are data. -/
namespace Fv
open PySem
/-- data, k deep -/
def dvB : Nat → SV → Bool
  | _, .non => true
  | _, .bl _ => true
  | _, .int _ => true
  | _, .str l => PyData.strOk ⟨⟨l⟩⟩
  | k + 1, .tup xs => xs.all (dvB k)
  | k + 1, .tp xs => xs.all (dvB k)
  | k + 1, .ls xs => xs.all (dvB k)
  | _, _ => false
def pd : Nat → SV → PyData
  | _, .non => .none
  | _, .bl b => .bool b
  | _, .int i => .int i
  | _, .str l => .str ⟨⟨l⟩⟩
  | k + 1, .tup xs => .tuple (xs.map (pd k))
  | k + 1, .tp xs => .tuple (xs.map (pd k))
  | k + 1, .ls xs => .list (xs.map (pd k))
  | _, _ => .none
theorem mapO_map {α β : Type} {f : α → Option β} {g : α → β} : ∀ {xs : List α}, (∀ x ∈ xs, f x = some (g x)) → mapO f xs = some (xs.map g)
  | [], _ => rfl
  | x :: xs, k => by
    unfold mapO
    rw [k x (List.mem_cons_self ..), mapO_map (fun y hy => k y (List.mem_cons_of_mem _ hy))]
    rfl
theorem toD_dv (h : SH) : ∀ (k n : Nat) (v : SV), dvB k v = true → k ≤ n → toD h n v = some (pd k v) := by
  intro k
  induction k with
  | zero =>
    intro n v e _
    cases v <;> first | (cases n <;> rfl) | (unfold dvB at e; cases e)
  | succ k ih =>
    intro n v e l
    obtain ⟨m, rfl⟩ : ∃ m, n = m + 1 := ⟨n - 1, by omega⟩
    have key : ∀ xs : List SV, xs.all (dvB k) = true → mapO (toD h m) xs = some (xs.map (pd k)) := fun xs e => by
      rw [List.all_eq_true] at e
      exact mapO_map fun x hx => ih m x (e x hx) (by omega)
    cases v with
    | tup xs => unfold toD pd; rw [key xs (by unfold dvB at e; exact e)]; rfl
    | tp xs => unfold toD pd; rw [key xs (by unfold dvB at e; exact e)]; rfl
    | ls xs => unfold toD pd; rw [key xs (by unfold dvB at e; exact e)]; rfl
    | _ => first | rfl | (unfold dvB at e; cases e)
theorem layA {f : SV → PyData} {k : Nat} : ∀ {xs : List SV}, (∀ x ∈ xs, (f x).canLay0 = true ∧ (f x).depth ≤ k) → PyData.canLayAll0 (xs.map f) = true ∧ PyData.depthAll (xs.map f) ≤ k
  | [], _ => ⟨rfl, Nat.zero_le _⟩
  | x :: xs, h => by
    obtain ⟨a, b⟩ := layA (xs := xs) fun y hy => h y (List.mem_cons_of_mem _ hy)
    obtain ⟨c, d⟩ := h x (List.mem_cons_self ..)
    simp only [List.map_cons, PyData.canLayAll0, PyData.depthAll, a, c, Bool.and_self, true_and]
    omega
theorem lay_dv : ∀ (k : Nat) (v : SV), dvB k v = true → (pd k v).canLay0 = true ∧ (pd k v).depth ≤ k := by
  intro k
  induction k with
  | zero =>
    intro v e
    cases v <;> first | (exact ⟨rfl, Nat.le_refl _⟩) | (exact ⟨e, Nat.le_refl _⟩) | (unfold dvB at e; cases e)
  | succ k ih =>
    intro v e
    have key : ∀ xs : List SV, xs.all (dvB k) = true → PyData.canLayAll0 (xs.map (pd k)) = true ∧ PyData.depthAll (xs.map (pd k)) ≤ k := fun xs e => by
      rw [List.all_eq_true] at e
      exact layA fun x hx => ih x (e x hx)
    cases v with
    | tup xs =>
      obtain ⟨a, b⟩ := key xs (by unfold dvB at e; exact e)
      unfold pd
      simp only [PyData.canLay0, PyData.depth, a, true_and]
      omega
    | tp xs =>
      obtain ⟨a, b⟩ := key xs (by unfold dvB at e; exact e)
      unfold pd
      simp only [PyData.canLay0, PyData.depth, a, true_and]
      omega
    | ls xs =>
      obtain ⟨a, b⟩ := key xs (by unfold dvB at e; exact e)
      unfold pd
      simp only [PyData.canLay0, PyData.depth, a, true_and]
      omega
    | str l => exact ⟨e, Nat.zero_le _⟩
    | non => exact ⟨rfl, Nat.zero_le _⟩
    | bl b => exact ⟨rfl, Nat.zero_le _⟩
    | int b => exact ⟨rfl, Nat.zero_le _⟩
    | _ => unfold dvB at e; cases e
theorem shaped_dv {k : Nat} {v : SV} (e : dvB k v = true) (l : k ≤ 64) : SeqAt.shaped (pd k v) = true := by
  obtain ⟨a, b⟩ := lay_dv k v e
  unfold SeqAt.shaped
  rw [a, Bool.true_and, decide_eq_true_eq]
  omega
/-- equal, of data -/
theorem eq_dv {k : Nat} {v w : SV} {b : Bool} (neg : Bool) (h : SH) (e1 : dvB k v = true) (e2 : dvB k w = true) (l : k ≤ 60) (n : eqSc v w = none) (hb : PyData.eqv (pd k v) (pd k w) = b) : gEq neg v w h = .ok (.bl (if neg then !b else b)) h := by
  unfold gEq eqDt
  rw [n, toD_dv h k 60 v e1 l, toD_dv h k 60 w e2 l]
  simp only [shaped_dv e1 (by omega), shaped_dv e2 (by omega), Bool.and_self, if_true, hb]
theorem pd_none : ∀ (k : Nat) (v : SV), dvB k v = true → PyData.eqv (pd k v) .none = isNon v := by
  intro k v e
  cases k <;> cases v <;> first | rfl | (unfold pd; simp only [PyData.eqv]; rfl) | (unfold dvB at e; cases e)
theorem eqF_none (v : SV) : eqF v .non = isNon v := by cases v <;> rfl
/-- None in a list of data -/
theorem in_none {k : Nat} {xs : List SV} (neg : Bool) (h : SH) (e : xs.all (dvB k) = true) (l : k ≤ 58) : gInD neg .non (.ls xs) h = .ok (.bl (if neg then !xs.any isNon else xs.any isNon)) h := by
  unfold gInD
  by_cases c : xs.all flatS = true
  · have : gIn neg .non (.ls xs) h = .ok (.bl (if neg then !xs.any isNon else xs.any isNon)) h := by
      unfold gIn items
      simp only
      rw [if_pos (by rw [c]; rfl)]
      simp only [eqF_none]
    rw [this]
  · have : gIn neg .non (.ls xs) h = .bad := by
      unfold gIn items
      simp only
      rw [if_neg (by intro z; rw [Bool.and_eq_true] at z; exact c z.2)]
    rw [this]
    simp only
    have e1 : dvB (k + 1) (.ls xs) = true := by unfold dvB; exact e
    have s := shaped_dv e1 (by omega)
    rw [toD_dv h 0 60 .non rfl (by omega), toD_dv h (k + 1) 60 _ e1 (by omega)]
    have e2 : pd (k + 1) (.ls xs) = .list (xs.map (pd k)) := rfl
    rw [e2] at s ⊢
    simp only [s]
    have s0 : SeqAt.shaped (pd 0 .non) = true := rfl
    rw [s0]
    simp only [Bool.and_self, if_true]
    have : (xs.map (pd k)).any (fun z => PyData.eqv z (pd 0 .non)) = xs.any isNon := by
      rw [List.any_map]
      rw [List.all_eq_true] at e
      clear s e1 e2 this c
      induction xs with
      | nil => rfl
      | cons x xs ih =>
        rw [List.any_cons, List.any_cons, ih (fun y hy => e y (List.mem_cons_of_mem _ hy))]
        congr 1
        exact pd_none k x (e x (List.mem_cons_self ..))
    rw [this]
theorem eq_empty {k : Nat} {xs : List SV} (neg : Bool) (h : SH) (e : xs.all (dvB k) = true) (l : k ≤ 58) : gEq neg (.tup xs) (.tup []) h = .ok (.bl (if neg then !xs.isEmpty else xs.isEmpty)) h := by
  refine eq_dv (k := k + 1) neg h (by unfold dvB; exact e) (by rfl) (by omega) rfl ?_
  unfold pd
  cases xs <;> simp [PyData.eqv, PyData.eqvAll]
theorem dv_ints (k : Nat) (ns : List Int) : (ns.map SV.int).all (dvB k) = true := by
  rw [List.all_map, List.all_eq_true]
  intro _ _
  cases k <;> rfl
theorem dv_tup {k : Nat} {xs : List SV} (e : xs.all (dvB k) = true) : dvB (k + 1) (.tup xs) = true := by unfold dvB; exact e
/-! ### tests -/
theorem or_t {a b : FT} {η : Sl} {h h1 : SH} (e : a η h = .ok true h1) : fOrT a b η h = .ok true h1 := by
  unfold fOrT
  rw [e, bok]
  rfl
theorem or_f {a b : FT} {η : Sl} {h h1 : SH} {o : Out Bool} (e : a η h = .ok false h1) (e2 : b η h1 = o) : fOrT a b η h = o := by
  unfold fOrT
  rw [e, bok, ← e2]
  rfl
theorem or_b {a b : FT} {η : Sl} {h : SH} {x y : Bool} (e : a η h = .ok x h) (e2 : x = false → b η h = .ok y h) : fOrT a b η h = .ok (x || y) h := by
  cases x with
  | true => exact or_t e
  | false => exact or_f e (e2 rfl)
theorem and_b {a b : FT} {η : Sl} {h : SH} {x y : Bool} (e : a η h = .ok x h) (e2 : x = true → b η h = .ok y h) : fAndT a b η h = .ok (x && y) h := by
  unfold fAndT
  rw [e, bok]
  cases x with
  | true => rw [if_pos rfl, e2 rfl]; rfl
  | false => rfl
theorem not_b {a : FT} {η : Sl} {h h1 : SH} {x : Bool} (e : a η h = .ok x h1) : fNotT a η h = .ok (!x) h1 := by
  unfold fNotT
  rw [e, bok]
theorem chain_ok {g g' : G2} {a b c : F} {η : Sl} {h : SH} {x y z : SV} {p q : Bool} (ea : a η h = .ok x h) (eb : b η h = .ok y h) (e1 : g x y h = .ok (.bl p) h) (ec : c η h = .ok z h) (e2 : g' y z h = .ok (.bl q) h) : fChain g g' a b c η h = .ok (.bl (p && q)) h := by
  unfold fChain
  rw [ea, bok, eb, bok, e1, bok]
  cases p with
  | true => simp only [ec, bok, e2, Bool.true_and]
  | false => rfl
theorem andE_b {a b : F} {η : Sl} {h : SH} {x y : Bool} (e : a η h = .ok (.bl x) h) (e2 : x = true → b η h = .ok (.bl y) h) : fAnd a b η h = .ok (.bl (x && y)) h := by
  cases x with
  | true => exact and_ok e (fun _ => by rw [e2 rfl]; rfl) (fun z => Bool.noConfusion z)
  | false => exact and_ok e (fun z => Bool.noConfusion z) (fun _ => rfl)
theorem notE_b {a : F} {η : Sl} {h : SH} {x : Bool} (e : a η h = .ok (.bl x) h) : fNot a η h = .ok (.bl (!x)) h := by
  unfold fNot
  rw [e, bok]
theorem isN_ok {a b : F} {η : Sl} {h h1 : SH} {v : SV} (neg : Bool) (e : a η h = .ok v h1) (e2 : b η h1 = .ok .non h1) : fOp (gIsN neg) a b η h = .ok (.bl (if neg then !isNon v else isNon v)) h1 := op_ok e e2 rfl
theorem isN_f {a b : F} {η : Sl} {h h1 : SH} (v : SV) (e : a η h = .ok v h1) (e2 : b η h1 = .ok .non h1) : fTst (fOp (gIsN false) a b) η h = .ok (isNon v) h1 := tst_ok (op_ok e e2 rfl)
theorem isN_t {a b : F} {η : Sl} {h h1 : SH} (v : SV) (e : a η h = .ok v h1) (e2 : b η h1 = .ok .non h1) : fTst (fOp (gIsN true) a b) η h = .ok (!isNon v) h1 := tst_ok (op_ok e e2 rfl)
theorem wp_if_t {c : FT} {a b : FS} {η : Sl} {h : SH} {P : Fl → SH → Prop} (e : c η h = .ok true h) : wp (fIfS c a b η h) P = wp (a η h) P := by
  rw [wp_ifS, wp_eq e]
  rfl
theorem wp_if_f {c : FT} {a b : FS} {η : Sl} {h : SH} {P : Fl → SH → Prop} (e : c η h = .ok false h) : wp (fIfS c a b η h) P = wp (b η h) P := by
  rw [wp_ifS, wp_eq e]
  rfl
theorem isi_ok {a : F} {η : Sl} {h h1 : SH} {v : SV} {t b : BT} (e : a η h = .ok v h1) (ht : tyOf h1 v = some t) (hb : b ≠ .none) : fCa gIsi1 (faC a (faC (fC (.ty b)) faN)) η h = .ok (.bl (t.sub b)) h1 :=
  ca_ok (faC_ok e (faC_ok c_ok faN_ok)) (isi ht hb)
/-- one return -/
theorem ret_ok {n : Nat} {a : F} {xs : List SV} {h : SH} {o : Out SV} (e : a (startS n xs) h = o) : fBody n (fRet a) xs h = o := by
  unfold fBody fRet
  rw [e]
  cases o with
  | ok v h => rfl
  | exc _ _ => rfl
  | bad => rfl
end Fv
/-! Fv27: options, and comprehensions whose iterator is a new list. -/
namespace Fv
open PySem
def optV {α : Type} (f : α → SV) (o : Option α) : SV := match o with
  | none => .non
  | some a => f a
def seqO {α : Type} : List (Option α) → Option (List α)
  | [] => some []
  | none :: _ => none
  | some a :: r => match seqO r with
    | none => none
    | some l => some (a :: l)
theorem seqO_some {α : Type} : ∀ {os : List (Option α)} {l : List α}, seqO os = some l → os = l.map some
  | [], l, e => by cases e; rfl
  | none :: r, l, e => by cases e
  | some a :: r, l, e => by
    unfold seqO at e
    cases q : seqO r with
    | none => rw [q] at e; cases e
    | some m =>
      rw [q] at e
      cases e
      rw [seqO_some q]
      rfl
theorem seqO_map {α : Type} : ∀ (l : List α), seqO (l.map some) = some l
  | [] => rfl
  | a :: r => by
    simp only [List.map_cons, seqO, seqO_map r]
theorem any_none {α : Type} (f : α → SV) (hn : ∀ a, isNon (f a) = false) : ∀ os : List (Option α), (os.map (optV f)).any isNon = (seqO os).isNone
  | [] => rfl
  | none :: r => rfl
  | some a :: r => by
    have ih := any_none f hn r
    rw [List.map_cons, List.any_cons, ih]
    have e : seqO (some a :: r) = match seqO r with
      | none => none
      | some l => some (a :: l) := rfl
    have e2 : isNon (optV f (some a)) = false := hn a
    rw [e, e2, Bool.false_or]
    cases seqO r <;> rfl
theorem dv_opts {α : Type} {k : Nat} (f : α → SV) (hf : ∀ a, dvB k (f a) = true) (os : List (Option α)) : (os.map (optV f)).all (dvB k) = true := by
  rw [List.all_map, List.all_eq_true]
  intro o _
  cases o with
  | none => cases k <;> rfl
  | some a => exact hf a
/-- None not in -/
theorem notin_opts {α : Type} {k : Nat} (f : α → SV) (hf : ∀ a, dvB k (f a) = true) (hn : ∀ a, isNon (f a) = false) (l : k ≤ 58) (os : List (Option α)) (h : SH) : gInD true .non (.ls (os.map (optV f))) h = .ok (.bl (seqO os).isSome) h := by
  rw [in_none true h (dv_opts f hf os) l, any_none f hn]
  cases seqO os <;> rfl
theorem in_opts {α : Type} {k : Nat} (f : α → SV) (hf : ∀ a, dvB k (f a) = true) (hn : ∀ a, isNon (f a) = false) (l : k ≤ 58) (os : List (Option α)) (h : SH) : gInD false .non (.ls (os.map (optV f))) h = .ok (.bl (seqO os).isNone) h := by
  rw [in_none false h (dv_opts f hf os) l, any_none f hn]
  cases seqO os <;> rfl
theorem spc_count {c : Nat} : ∀ {k : Nat} {l acc : List Nat}, (spc c k acc l).length ≤ l.length + 1
  | 0, l, acc => by rw [spc_zero]; simp
  | k + 1, [], acc => by simp [spc]
  | k + 1, x :: r, acc => by
    rw [spc]
    by_cases h : x = c
    · rw [if_pos h]
      have := spc_count (c := c) (k := k) (l := r) (acc := [])
      simp only [List.length_cons]
      omega
    · rw [if_neg h]
      have := spc_count (c := c) (k := k + 1) (l := r) (acc := acc ++ [x])
      simp only [List.length_cons]
      omega
theorem spc_ne {c : Nat} : ∀ {k : Nat} {l acc : List Nat}, spc c k acc l ≠ []
  | 0, l, acc => by rw [spc_zero]; simp
  | k + 1, [], acc => by simp [spc]
  | k + 1, x :: r, acc => by
    rw [spc]
    by_cases h : x = c
    · rw [if_pos h]; simp
    · rw [if_neg h]; exact spc_ne
theorem lcI_go {it : SIt} {t : GT} {e : F} {η0 : Sl} {h : SH} {items : List SV} {ft : SV → Sl} {fe : SV → SV} {n : Nat}
    (hat : ∀ acc j, it.at j (h.new (.lst acc)) = some items[j]?)
    (ht : ∀ x ∈ items, ∀ acc, t x η0 (h.new (.lst acc)) = .ok (ft x) (h.new (.lst acc)))
    (he : ∀ x ∈ items, ∀ acc, clL n acc = true → e (ft x) (h.new (.lst acc)) = .ok (fe x) (h.new (.lst acc))) (hcl : ∀ x ∈ items, clV n (fe x) = true) :
    ∀ (rest : List SV) (f j : Nat) (acc : List SV), items.drop j = rest → rest.length < f → acc.length + rest.length ≤ sizeLine → clL n acc = true →
      lcLoop it t (fun _ h => .ok true h) e h.nx η0 f j (h.new (.lst acc)) = .ok () (h.new (.lst (acc ++ rest.map fe))) := by
  intro rest
  induction rest with
  | nil =>
    intro f j acc ed hf hl' ha
    cases f with
    | zero => exact absurd hf (Nat.not_lt_zero _)
    | succ f =>
      unfold lcLoop
      rw [hat]
      have : items[j]? = none := by
        rw [List.getElem?_eq_none]
        have := congrArg List.length ed
        simp at this ⊢
        omega
      rw [this]
      simp
  | cons a rest ih =>
    intro f j acc ed hf hl' ha
    cases f with
    | zero => exact absurd hf (Nat.not_lt_zero _)
    | succ f =>
      unfold lcLoop
      rw [hat]
      have e1 : items[j]? = some a := by
        have := congrArg (fun l => l[0]?) ed
        simpa using this
      have hx : a ∈ items := List.mem_of_getElem? e1
      rw [e1]
      have e2 : items.drop (j + 1) = rest := by
        have := congrArg List.tail ed
        simpa using this
      simp only [ht a hx, bok, if_true]
      rw [he a hx acc ha]
      simp only [bok, get_new_same]
      rw [if_pos (by simp at hl'; omega), SH.new_set]
      have := ih f (j + 1) (acc ++ [fe a]) e2 (by simp at hf; omega) (by simp at hl' ⊢; omega) (by simp [ha, hcl a hx])
      simpa using this
/-- the iterator itself is a new list -/
theorem fz_lcN {fi : FI} {it : SIt} {t : GT} {e : F} {η : Sl} {h : SH} {vs : List Nat} {ys : List SV} (items : List SV) (ft : SV → Sl) (fe : SV → SV) (C : Cn h)
    (hi : fi η h = .ok it (h.new (.lst ys))) (hat : ∀ acc j, it.at j ((h.new (.lst ys)).new (.lst acc)) = some items[j]?) (hsz : items.length ≤ it.size (h.new (.lst ys)) + 1000) (hl : items.length ≤ sizeLine)
    (ht : ∀ x ∈ items, ∀ acc, t x (wipeS η vs) ((h.new (.lst ys)).new (.lst acc)) = .ok (ft x) ((h.new (.lst ys)).new (.lst acc)))
    (he : ∀ x ∈ items, ∀ acc, clL h.nx acc = true → e (ft x) ((h.new (.lst ys)).new (.lst acc)) = .ok (fe x) ((h.new (.lst ys)).new (.lst acc))) (hcl : ∀ x ∈ items, clV h.nx (fe x) = true) :
    fFz (fLc fi t (fun _ h => .ok true h) e vs) η h = .ok (.ls (items.map fe)) h := by
  unfold fFz fLc
  rw [hi]
  simp only [bok]
  rw [lcI_go (n := h.nx) hat ht he hcl items (it.size (h.new (.lst ys)) + 100000) 0 [] rfl (by omega) (by simpa using hl) rfl]
  simp only [List.nil_append]
  unfold cutO
  simp only
  have e1 : ((h.new (.lst ys)).new (.lst (items.map fe))).c.take h.nx = h.c := by
    unfold SH.new SH.nx
    simp
  rw [if_pos ⟨by rw [SH.nx_new, SH.nx_new]; omega, by rw [e1]; exact C⟩, fzV_loc get_new_same (by rw [SH.nx_new]; omega) (clL_map _ _ _ hcl)]
  simp only
  congr 1
  unfold cutH
  rw [e1]
end Fv
/-! Fv28: comprehensions that draw, item by item. -/
namespace Fv
open PySem
variable {k : Nat}
inductive Rel2 {α : Type} (R : α → SV → Prop) : List α → List SV → Prop
  | nil : Rel2 R [] []
  | cons {a : α} {v : SV} {as : List α} {vs : List SV} : R a v → Rel2 R as vs → Rel2 R (a :: as) (v :: vs)
theorem Rel2.len {α : Type} {R : α → SV → Prop} {as : List α} {vs : List SV} (r : Rel2 R as vs) : vs.length = as.length := by
  induction r with
  | nil => rfl
  | cons _ _ ih => simp [ih]
theorem Rel2.app {α : Type} {R : α → SV → Prop} {as bs : List α} {vs ws : List SV} (r : Rel2 R as vs) (s : Rel2 R bs ws) : Rel2 R (as ++ bs) (vs ++ ws) := by
  induction r with
  | nil => exact s
  | cons h _ ih => exact .cons h ih
theorem Rel2.mem {α : Type} {R : α → SV → Prop} {as : List α} {vs : List SV} (r : Rel2 R as vs) : ∀ v ∈ vs, ∃ a ∈ as, R a v := by
  induction r with
  | nil => intro v hv; cases hv
  | cons h _ ih =>
    intro v hv
    rcases List.mem_cons.mp hv with rfl | hv
    · exact ⟨_, List.mem_cons_self .., h⟩
    · obtain ⟨a, ha, hr⟩ := ih v hv
      exact ⟨a, List.mem_cons_of_mem _ ha, hr⟩
/-- a comprehension whose items draw -/
theorem wp_lcR {α : Type} {fi : FI} {it : SIt} {e : F} {η : Sl} {h h1 : SH} {i : Nat} {tl : List SO} (as : List α) (em : α → SV) (R : α → SV → Prop) (hV : ∀ a v, R a v → Vf v) (T : Tn k tl) (hn : h.nx = k + tl.length)
    (hi : fi η h = .ok it h1) (P1 : PH k tl h1) (walk : it.vals = some (as.map em)) (hl : as.length ≤ sizeLine)
    (he : ∀ a ∈ as, ∀ tl h, PH k tl h → Tn k tl → wp (e ((wipeS η [i]).set i (some (em a))) h) fun v h' => R a v ∧ ∃ ex, PH k (tl ++ ex) h' ∧ Tn k (tl ++ ex)) :
    wp (fFz (fLc fi (gtName i) (fun _ h => .ok true h) e [i]) η h) fun v h' => ∃ vs, v = .ls vs ∧ Rel2 R as vs ∧ PH k tl h' := by
  unfold fFz fLc
  rw [hi]
  simp only [bok]
  have go : ∀ (rest : List α) (f j : Nat) (pre : List α) (acc : List SV) (ex : List SO) (h : SH), as = pre ++ rest → j = pre.length → rest.length < f → Rel2 R pre acc → PH k (tl ++ .lst acc :: ex) h → Tn k (tl ++ .lst acc :: ex) →
      wp (lcLoop it (gtName i) (fun _ h => .ok true h) e (k + tl.length) (wipeS η [i]) f j h) fun _ h' => ∃ vs ex, Rel2 R as vs ∧ PH k (tl ++ .lst vs :: ex) h' := by
    intro rest
    induction rest with
    | nil =>
      intro f j pre acc ex h ed ej hf ha P T'
      cases f with
      | zero => exact absurd hf (Nat.not_lt_zero _)
      | succ f =>
        unfold lcLoop
        rw [SIt.at_vals walk]
        have : (as.map em)[j]? = none := by
          rw [List.getElem?_eq_none]
          rw [ed, ej]
          simp
        rw [this]
        exact .ok ⟨acc, ex, by rw [ed]; simpa using ha, P⟩
    | cons a rest ih =>
      intro f j pre acc ex h ed ej hf ha P T'
      cases f with
      | zero => exact absurd hf (Nat.not_lt_zero _)
      | succ f =>
        unfold lcLoop
        rw [SIt.at_vals walk]
        have hx : a ∈ as := by rw [ed]; simp
        have e0 : (as.map em)[j]? = some (em a) := by rw [List.getElem?_map, ed, ej]; simp
        rw [e0]
        simp only [gtName, bok, if_true]
        rw [wp_bind]
        refine (he a hx _ _ P T').mono fun v h2 ⟨hv, ex2, P2, T2⟩ => ?_
        have eA : tl ++ .lst acc :: ex ++ ex2 = tl ++ .lst acc :: (ex ++ ex2) := by simp
        rw [eA] at P2 T2
        simp only [P2.get]
        have ll := ha.len
        have le : as.length = pre.length + (rest.length + 1) := by rw [ed]; simp
        rw [if_pos (by omega)]
        have hr : Rel2 R (pre ++ [a]) (acc ++ [v]) := ha.app (.cons hv .nil)
        refine ih f (j + 1) (pre ++ [a]) (acc ++ [v]) (ex ++ ex2) _ (by rw [ed]; simp) (by rw [ej]; simp) (by simp at hf; omega) hr P2.set (T2.put fun n => ?_)
        show clL n _ = true
        exact Vf.all (fun w hw => by obtain ⟨a, _, q⟩ := hr.mem w hw; exact hV a w q) n
  have w := SIt.size_vals walk h1
  rw [List.length_map] at w
  have e3 : h1.nx = k + tl.length := P1.nx
  rw [e3]
  obtain ⟨u, h', eo, vs, ex, rr, P'⟩ := (go as (it.size h1 + 100000) 0 [] [] [] (h1.new (.lst [])) rfl rfl (by omega) .nil (P1.new _) (T.new rfl)).get
  rw [eo]
  simp only
  have hc := Vf.all (fun w hw => by obtain ⟨a, _, q⟩ := rr.mem w hw; exact hV a w q) (k + tl.length)
  rw [hn, P'.cutO T (fzV_loc P'.get (Nat.le_refl _) hc)]
  exact .ok ⟨vs, rfl, rr, P'.cut⟩
/-- a new list, of what is drawn -/
theorem wp_fz_un {g : G1} {F : F} {η : Sl} {h : SH} {tl : List SO} {P : SV → SH → Prop} (P0 : PH k tl h) (T : Tn k tl) (w : wp (F η h) fun v h' => PH k tl h' ∧ ∃ xs, g v h' = .ok (.loc h'.nx) (h'.new (.lst xs)) ∧ clL h'.nx xs = true ∧ P (.ls xs) h') :
    wp (fFz (fUn g F) η h) P := by
  obtain ⟨v, h', e, P1, xs, e2, c, p⟩ := w.get
  unfold fFz fUn
  rw [e, bok, e2]
  have : h.nx = h'.nx := by rw [P0.nx, P1.nx]
  rw [this, cut_new (P1.cn T) c]
  exact .ok p
theorem wp_ca {g : GL} {a : FA} {η : Sl} {h : SH} {P : SV → SH → Prop} : wp (fCa g a η h) P = wp (a η h) fun xs h => wp (g xs h) P := by
  unfold fCa
  rw [wp_bind]
theorem tupZ_ok {a : FA} {η : Sl} {h h1 : SH} {xs : List SV} (e : a η h = .ok xs h1) (l : xs.length ≤ sizeLine) : fTupZ a η h = .ok (.tp xs) h1 := by
  unfold fTupZ
  rw [e, bok, if_pos l]
theorem callP2_ok {fe : FF} {a b : F} {η : Sl} {h : SH} {x y : SV} {o : Out SV} (e1 : a η h = .ok x h) (e2 : b η h = .ok y h) (e3 : fe [y, x] h = o) : fCallP [1, 0] 0 2 2 fe faN (faC a (faC b faN)) η h = o := by
  unfold fCallP
  rw [faN_ok, bok, faC_ok e1 (faC_ok e2 faN_ok), bok]
  exact e3
end Fv
/-! Fv31: beginnings of texts, positions in lists. -/
namespace Fv
open PySem
theorem starts_eq (a b : List Nat) : Txt.startswith (mkS a) (mkS b) = decide (a.take b.length = b) := by
  unfold Txt.startswith
  rw [StrLaws.subAt_eq]
  have l1 : (mkS a).length = a.length := mkS_len a
  have l2 : (mkS b).length = b.length := mkS_len b
  rw [l1, l2]
  show (decide (0 + b.length ≤ a.length) && ((a.drop 0).take b.length == b)) = _
  rw [List.drop_zero]
  by_cases c : a.take b.length = b
  · have l : b.length ≤ a.length := by
      have := congrArg List.length c
      simp at this
      omega
    rw [decide_eq_true c, decide_eq_true (by omega), c]
    simp
  · rw [decide_eq_false c]
    have : (a.take b.length == b) = false := by simpa using c
    rw [this, Bool.and_false]
theorem startsU_str (a b : List Nat) (h : SH) : gStartsU (.str a) [.str b] h = .ok (.bl (decide (a.take b.length = b))) h := by
  unfold gStartsU
  simp only
  rw [starts_eq]
theorem startsU_tup (a : List Nat) (ls : List (List Nat)) (h : SH) : gStartsU (.str a) [.tup (ls.map .str)] h = .ok (.bl (ls.any fun b => decide (a.take b.length = b))) h := by
  unfold gStartsU
  simp only
  rw [strsOf_map]
  simp only
  congr 2
  rw [List.any_map]
  congr 1
  funext b
  exact starts_eq a b
end Fv
/-! Fv32: calls of three and four, some built-ins at known values. -/
namespace Fv
open PySem
theorem call3_ok {fe : FF} {a b c : F} {η : Sl} {h h1 h2 h3 : SH} {x y z : SV} {o : Out SV} (e : a η h = .ok x h1) (e2 : b η h1 = .ok y h2) (e3 : c η h2 = .ok z h3) (e4 : fe [x, y, z] h3 = o) : fCall 3 fe (faC a (faC b (faC c faN))) η h = o := by
  rw [call3, e, bok, e2, bok, e3, bok, e4]
theorem call4 {fe : FF} {a b c d : F} {η : Sl} {h : SH} : fCall 4 fe (faC a (faC b (faC c (faC d faN)))) η h = (a η h).bind fun x h => (b η h).bind fun y h => (c η h).bind fun z h => (d η h).bind fun w h => fe [x, y, z, w] h := by
  unfold fCall faC faN
  cases a η h with
  | ok x h1 =>
    simp only [bind_ok]
    cases b η h1 with
    | ok y h2 =>
      simp only [bind_ok]
      cases c η h2 with
      | ok z h3 => simp only [bind_ok]; cases d η h3 <;> rfl
      | _ => rfl
    | _ => rfl
  | _ => rfl
theorem wp_call3 {fe : FF} {a b c : F} {η : Sl} {h : SH} {P : SV → SH → Prop} : wp (fCall 3 fe (faC a (faC b (faC c faN))) η h) P = wp (a η h) fun x h => wp (b η h) fun y h => wp (c η h) fun z h => wp (fe [x, y, z] h) P := by
  rw [call3, wp_bind]
  congr 1
  funext x h
  rw [wp_bind]
  congr 1
  funext y h
  rw [wp_bind]
theorem wp_call4 {fe : FF} {a b c d : F} {η : Sl} {h : SH} {P : SV → SH → Prop} : wp (fCall 4 fe (faC a (faC b (faC c (faC d faN)))) η h) P = wp (a η h) fun x h => wp (b η h) fun y h => wp (c η h) fun z h => wp (d η h) fun w h => wp (fe [x, y, z, w] h) P := by
  rw [call4, wp_bind]
  congr 1
  funext x h
  rw [wp_bind]
  congr 1
  funext y h
  rw [wp_bind]
  congr 1
  funext z h
  rw [wp_bind]
theorem callP3_ok {fe : FF} {a b c : F} {η : Sl} {h : SH} {x y z : SV} {o : Out SV} (e1 : a η h = .ok x h) (e2 : b η h = .ok y h) (e3 : c η h = .ok z h) (e4 : fe [z, y, x] h = o) : fCallP [2, 1, 0] 0 3 3 fe faN (faC a (faC b (faC c faN))) η h = o := by
  unfold fCallP
  rw [faN_ok, bok, faC_ok e1 (faC_ok e2 (faC_ok e3 faN_ok)), bok]
  exact e4
theorem sub_int (i j : Int) (h : SH) : gSub (.int i) (.int j) h = .ok (.int (i - j)) h := rfl
theorem max2_ok (i j : Int) (h : SH) : gMax [.int i, .int j] h = .ok (.int (if j > i then j else i)) h := rfl
/-- a fresh list that is spoilt later -/
theorem neg1_ok (η : Sl) (h : SH) : fUn gNeg (fC (.int 1)) η h = .ok (.int (-1)) h := rfl
theorem wp_name {i : Nat} {v : SV} {η : Sl} {h : SH} {P : Sl → SH → Prop} : wp (gtName i v η h) P = P (η.set i (some v)) h := wp_ok
end Fv
/-! Fv35: the top's run looked at in parts, so that no check takes much memory. -/
namespace Fv
open PySem PySem.W PySem.Calls PyProof.Rows HandSHeadRun
theorem obsX_app {n : Nat} {fa1 fa2 : List He.Fa} {fn1 fn2 : List He.DefD} {ex : PySem.W.Frag → Bool} {g : Addr → Option Obj} {w : World} (h1 : He.obsX n fa1 fn1 [] [] ex g = He.valX fn1 [] w) (h2 : He.obsX n fa2 fn2 [] [] (fun _ => true) g = He.valX fn2 [] w) :
    He.obsX n (fa1 ++ fa2) (fn1 ++ fn2) [] [] ex g = He.valX (fn1 ++ fn2) [] w := by
  unfold He.obsX He.valX He.obsT He.valT He.obsD He.valD at h1 h2 ⊢
  simp only [Prod.mk.injEq] at h1 h2
  obtain ⟨⟨⟨a1, b1⟩, c1⟩, d1⟩ := h1
  obtain ⟨⟨⟨a2, b2⟩, c2⟩, d2⟩ := h2
  rw [Bool.and_eq_true] at a1 a2
  refine Prod.ext (Prod.ext (Prod.ext ?_ ?_) rfl) d1
  · show ((fa1 ++ fa2).all _ && (fn1 ++ fn2).all _) = true
    rw [List.all_append, List.all_append, a1.1, a1.2, a2.1, a2.2]
    rfl
  · show (fn1 ++ fn2).map _ = (fn1 ++ fn2).map _
    rw [List.map_append, List.map_append, b1, b2]
noncomputable def runF (r : OpenRow) (M : Nat) (w : World) (os : OsState) : Option SharedT := endF (stepQ (denQ tabQ) r.prog w) M r.prog w os
noncomputable def lookA (r : OpenRow) (w : World) (s : SharedT) : Bool := looksF r.prog (boot_heap w.params) s.abs
noncomputable def lookB (r : OpenRow) (q : Program) (loose : List PySem.Str) (s : SharedT) := seenQ q loose (importedModules r.prog.main.body) (fun s => xlAt q [] s && recOk r.toRowW.records s) s.abs
theorem run_of {r : OpenRow} {q : Program} {H : Hook} {ob : SharedT → H.α} {M : Nat} {loose : List PySem.Str} {w : World}
    (a : ∀ os : OsState, (runF r M w os).map (lookA r w) = some true)
    (a2 : ∀ os : OsState, (runF r M w os).map (lookB r q loose) = some (openGood q loose))
    (b : ∀ (os : OsState) (s : SharedT), runF r M w os = some s → ob s = H.val w) : RunEq r q H ob M loose w := by
  intro os
  have h := a os
  have h2 := a2 os
  have h3 := b os
  show (runF r M w os).map _ = _
  cases e : runF r M w os with
  | none => rw [e] at h; cases h
  | some s =>
    rw [e] at h h2
    have k1 := Option.some.inj h
    have k2 := Option.some.inj h2
    show some (_, _, _) = some _
    rw [h3 s e]
    exact congrArg some (Prod.ext k1 (Prod.ext k2 rfl))
theorem part_of {α : Type} {r : OpenRow} {M : Nat} {w : World} {ob : SharedT → α} {v : α} (a : ∀ os : OsState, (runF r M w os).map ob = some v) : ∀ (os : OsState) (s : SharedT), runF r M w os = some s → ob s = v := fun os s e => by
  have h := a os
  rw [e] at h
  exact Option.some.inj h
end Fv
/-! Fv33: exceptions of own classes with one field: made, raised, let through, caught. -/
namespace Fv
open PySem PySem.Spec PyProof.Rows L2
def RepFs (G : Gd) (ρ : Rho) (H : Hp) (fs : List (Str × SV)) (fs' : List (Str × V)) : Prop := ∀ f v, fs.lookup f = some v → ∃ v', fs'.lookup f = some v' ∧ Rep G ρ H v v'
/-- what a def may let out; cl: the class of each number -/
def WFx (G : Gd) (cl : Nat → Option Addr) (E : XK) : XW := fun x h ρ H => ∀ (C d : Addr) (fs : List (Str × V)), cl x.k = some C → H d = some (.xd fs) → RepFs G ρ H x.fs fs → E (.ref C) (some d) H
/-! ### making -/
def spInit (K : PySem.W.Frag) (f : Str) : Sp := fun vs H Q _ => ∃ (a C : Addr) (y : V), vs = [.ref a, y] ∧ OexC K C ∧ PySem.W.findIn K (.ref C) f = some none ∧ H a = some (exo a C none) ∧ ∀ dx, H dx = none → dx ≠ a → Q .non (upd (upd H dx (exd dx [(f, y)])) a (exo a C (some dx)))
theorem init_ok {P : Program} {w : World} {K : PySem.W.Frag} {mg : Str → Option Value} {base : Heap} {x qual v f : Str} {params : Arguments} {scope : Scope} {fI : Addr} {fd : FuncData} {p1 p2 p3 p4 : Pos}
    (F : FunD K x qual params [.Assign [.Attribute (.Name "self" p1) f p2] (.Name v p3) p4] scope [] [] fI fd) (S : FnScope ["self", v] ["self", v] scope) (hv : (v == ("__debug__" : Str)) = false := by decide) (hcv : (v == ("__classdict__" : Str)) = false := by decide) :
    FnOk P w K mg base CX0 1 fI fd ["self", v] (spInit K f) := by
  refine FunD.ok (k := 0) F S (fun vs H Q E h => ?_) fun cdv A outer s H vs Q E hr h => ?_
  · obtain ⟨a, C, y, e, _⟩ := h
    rw [e]
    rfl
  · obtain ⟨a, C, y, e, T, hno, ha, hq⟩ := h
    subst e
    refine ⟨_, pss_one (ps_ost (pe_var (i := 0) rfl ((S.par "self" (by simp)).imp id fun q => .inl q)) (pe_var (i := 1) rfl ((S.par v (by simp)).imp id fun q => .inl q) hv hcv)), ?_⟩
    exact ⟨_, rfl, _, rfl, a, C, rfl, T, hno, .inl ⟨ha, hq⟩⟩
def fRaise (n : Nat) (f : Str) (a : F) : FS := fun η h => (a η h).bind fun v h => .exc ⟨n, [(f, v)]⟩ h
section
variable {X : Cx} {G : Gd} {cl : Nat → Option Addr} {E : XK}
theorem takes_def {P : Program} {w : World} {K : PySem.W.Frag} {mg : Str → Option Value} {base : Heap} {N : List Str} {qual : Str} {scope : Scope} {f : Addr} {cd : Value} {A : Around} {outer : List Env} {s : Shared} {H : Hp} {E : XK} :
    Takes (cxOf (L2.CX P w) P w K mg base N qual scope f cd A outer s H E) (fun cls d _ H => E cls d H) := takes_of (E₁ := fun e' s'' => L2.CX P w outer H s E e' s'') rfl rfl rfl rfl
theorem pass_of (tk : Takes X (fun cls d _ H => E cls d H)) : Passes (L2.CX X.prog X.w) X E := passes_call tk fun _ _ _ _ h => h
theorem s_raise1 {C fI : Addr} {x f v : Str} {fd : FuncData} {n k : Nat} {e : Expr} {fe : F} {p pos pos' : Pos} (hK : X.K = G.K) (T : OexC X.K C) (iC : PySem.W.findIn X.K (.ref C) "__init__" = some (some (.ref fI))) (tI : PySem.W.typeIn X.K (.ref fI) = some (.type "function")) (hno : PySem.W.findIn X.K (.ref C) f = some none)
    (F1 : FnOk X.prog X.w X.K X.mg X.base CX0 k fI fd ["self", v] (spInit X.K f)) (hr : Room (k + 1) X.A) (hb : Binds X.K fd ["self", v] []) (hg : Gl X x) (hm : X.mg x = some (.ref C)) (hc : cl n = some C) (hcalm : X.calm = true) (tk : Takes X (fun cls d _ H => E cls d H)) (ha : PE X e (tE G (WFx G cl E) fe))
    (hdb : (x == ("__debug__" : Str)) = false := by decide) (he : starEach [e] X.env = (false, eval e X.env) :: starEach [] X.env := by rfl) (hpl : (backTo pos (starEach [] X.env)).any (·.1) = false := by rfl) :
    PS X (.Raise (some (.Call (.Name x p) [e] [] pos)) none pos') (tS G (WFx G cl E) (fRaise n f fe)) := by
  refine (ps_raise hcalm tk (pmk_oex (sp := spInit X.K f) T iC tI F1 hr hb .nil (fun _ _ _ _ _ _ _ z => z.elim) hg hm (pa_cons ha pa_nil (hs := he)) hdb he hpl)).impX fun D σ H ⟨ρ, η, h, r, s, g⟩ => ?_
  refine ⟨ρ, η, h, r, s, g.bind fun y h1 ρ1 H1 e1 s1 f1 g1 y' ry => ?_⟩
  refine ⟨by simp, fun a ha => ⟨a, C, y', rfl, T, hno, upd_same, fun dx hdx hne => ?_⟩⟩
  have hd1 : H1 dx = none := by rw [upd_ne hne] at hdx; exact hdx
  refine ⟨rfl, dx, [(f, y')], upd_same, by rw [upd_ne hne, upd_same], hd1, ?_⟩
  have eq : upd (del (upd (upd (upd H1 a (exo a C none)) dx (exd dx [(f, y')])) a (exo a C (some dx))) a) dx (.xd [(f, y')]) = upd H1 dx (.xd [(f, y')]) := by
    funext b
    by_cases hb : b = dx
    · rw [hb, upd_same, upd_same]
    · rw [upd_ne hb, upd_ne hb]
      by_cases hba : b = a
      · rw [hba, del_same, ha]
      · rw [del_ne hba, upd_ne hba, upd_ne hb, upd_ne hba]
  rw [eq]
  refine g1 ρ1 _ (Ext.refl s1) (s1.newT hd1) (frm_new hd1) C dx [(f, y')] hc upd_same fun f' w hw => ?_
  by_cases hf : f' = f
  · subst hf
    have : w = y := by simpa [List.lookup] using hw.symm
    subst this
    exact ⟨y', by simp [List.lookup], ry.mono Sub.refl (frm_new hd1)⟩
  · have e2 : (f' == f) = false := by simpa using hf
    simp [List.lookup, e2] at hw
/-! ### without exceptions -/
def Out.noX {α : Type} : Out α → Out α
  | .exc _ _ => .bad
  | o => o
theorem nx_good {α : Type} {W W' : XW} {ρ : Rho} {H : Hp} {o : Out α} {R : α → Rho → Hp → Prop} (g : Good G W ρ H o.noX R) : Good G W' ρ H o R := by
  cases o with
  | ok a h => exact g
  | exc x h => exact g.elim
  | bad => exact g
def fNX (f : F) : F := fun η h => (f η h).noX
theorem e_nx {W W' : XW} {e : Expr} {f : F} (p : PE X e (tE G W f)) : PE X e (tE G W' (fNX f)) := p.impX fun σ H Q ⟨ρ, η, h, r, s, g⟩ => ⟨ρ, η, h, r, s, nx_good (W := W') g⟩
def fNXT (f : FT) : FT := fun η h => (f η h).noX
theorem t_nx {W W' : XW} {e : Expr} {f : FT} (p : PT X e (tT G W f)) : PT X e (tT G W' (fNXT f)) := p.impX fun σ H Q ⟨ρ, η, h, r, s, g⟩ => ⟨ρ, η, h, r, s, nx_good (W := W') g⟩
def fNXS (f : FS) : FS := fun η h => (f η h).noX
theorem s_nx {W W' : XW} {e : Stmt} {f : FS} (p : PS X e (tS G W f)) : PS X e (tS G W' (fNXS f)) := p.impX fun D σ H ⟨ρ, η, h, r, s, g⟩ => ⟨ρ, η, h, r, s, nx_good (W := W') g⟩
def W0 : XW := fun _ _ _ _ => False
/-! ### try: body, except C as e: return e.f -/
def EW (n : Nat) (W : WX) : XK := fun cls d H => ∀ σ : L2.St, σ.length = n → W cls d σ H
theorem pass_try {W : WX} (tk : Takes X W) : Passes (L2.CX X.prog X.w) X (EW X.N.length W) := fun pins σ H s e s' I c => tk e s' (XE.of_call I (fun cls d H' h => h σ I.len) c)
def fTryF (n : Nat) (f : Str) (b : FS) : FS := fun η h => match b η h with
  | .exc x h' => if x.k = n then (match x.fs.lookup f with
    | some v => .ok (.rt v) h'
    | none => .bad) else .bad
  | o => o
theorem s_tryF {W : XW} {body : List Stmt} {x e f : Str} {C : Addr} {n i : Nat} {fb : FS} {p1 p2 p3 p4 p5 pos : Pos} (hN : X.N.Nodup) (hi : X.N[i]? = some e) (hln : X.env.kindOf e = some .local) (hv : Vis X.env.scope e) (hs : X.stack = X.env :: X.outer) (hf : X.env.frame = some X.env.locals)
    (hx : Names X x (.ref C)) (hc : cl n = some C) (hex : PySem.W.exmOne X.K (.ref C) (.ref C) = some true) (T : XfC X.K C) (hno : PySem.W.findIn X.K (.ref C) f = some none)
    (hb : ∀ (W : WX) (pn : List (Addr × Obj)) (xe : Value → Shared → Prop), Takes (X.tr pn xe) W → PSs (X.tr pn xe) body (tS G (WFx G cl (EW X.N.length W)) fb))
    (hd : (e == ("__debug__" : Str)) = false := by decide) (hcd : (e == ("__classdict__" : Str)) = false := by decide) :
    PS X (.Try body [.ExceptHandler (some (.Name x p1)) (some e) [.Return (some (.Attribute (.Name e p2) f p3)) p4] p5] [] [] pos) (tS G W (fTryF n f fb)) := by
  have tk0 : Takes X (fun _ _ _ _ => False) := takes_none5
  refine (ps_try_as (i := i) (tb := fun W => tS G (WFx G cl (EW X.N.length W)) fb) hs hf hN hi hln hx tk0 (fun W pn xe tk _ => hb W pn xe tk) (fun a oe cls d pn hz hfl => pss_one (ps_ret (pe_xf T hno hz hfl (pe_var (X := X.suite a ((a, oe) :: pn)) (i := i) hi hv hd hcd))))).impX fun D σ H ⟨ρ, η, h, r, s, g⟩ => ⟨ρ, η, h, r, s, ?_⟩
  unfold fTryF at g
  cases q : fb η h with
  | ok a h1 => rw [q] at g; exact g
  | bad => rw [q] at g; exact g.elim
  | exc y h1 =>
    rw [q] at g
    have g : Good G W ρ H (if y.k = n then (match y.fs.lookup f with | some v => .ok (.rt v) h1 | none => .bad) else .bad) (FQ G D) := g
    by_cases c : y.k = n
    · rw [if_pos c] at g
      cases ql : y.fs.lookup f with
      | none => rw [ql] at g; exact g.elim
      | some v =>
        rw [ql] at g
        have g : Post G ρ H h1 (FQ G D (.rt v)) := g
        show Post G ρ H h1 _
        refine fun ρ' H' e' s' f' C' d fs hcl hd' hrep σ' hl => ?_
        rw [c, hc] at hcl
        cases hcl
        obtain ⟨v', e1, r1⟩ := hrep f v ql
        refine ⟨true, hex, fun _ a _ => ?_, fun z => Bool.noConfusion z⟩
        refine ⟨.ref a, ?_, rfl, rfl, d, fs, v', rfl, hd', e1, g ρ' H' e' s' f' v' r1⟩
        rw [List.getElem?_set_self]
        rw [hl]
        exact (List.getElem?_eq_some_iff.mp hi).1
    · rw [if_neg c] at g; exact g.elim
/-! ### x += e, of numbers -/
def fAugI (i : Nat) (a : F) : FS := fun η h => match slot η i with
  | some (.int x) => (a η h).bind fun y h => match y with
    | .int y => .ok (.nx (η.set i (some (.int (x + y))))) h
    | _ => .bad
  | _ => .bad
theorem s_augI {W : XW} {x : Str} {i : Nat} {e : Expr} {fe : F} {p pos : Pos} (hN : X.N.Nodup) (hi : X.N[i]? = some x) (hx : Loc X.env.scope x) (he : PE X e (tE G W fe)) (hf : X.fn x = true ∨ X.env.scope.names.lookup x = some .local) : PS X (.AugAssign (.Name x p) .Add e pos) (tS G W (fAugI i fe)) :=
  (ps_aug hN hi hx he ip_add hf).impX fun D σ H ⟨ρ, η, h, r, s, g⟩ => by
    unfold fAugI at g
    cases q : slot η i with
    | none => rw [q] at g; exact g.elim
    | some v =>
      rw [q] at g
      cases v with
      | int k =>
        obtain ⟨v', q1, q2⟩ := r.at_ i _ (slot_eq η i q)
        cases q2
        refine ⟨_, q1, ρ, η, h, r, s, g.bind fun y h1 ρ1 H1 e1 s1 f1 g1 y' ry => ?_⟩
        cases ry with
        | int j => exact ⟨k, j, rfl, rfl, g1.here s1 _ ((r.mono e1 f1).set i (.int _))⟩
        | _ => exact g1.elim
      | _ => exact g.elim
end
end Fv
/-! Fv34: dicts that are read, written, added to. -/
namespace Fv
open PySem PySem.Spec PyProof.Rows L2
/-- d[k] = v, as the layer has it -/
def putM (kvs : List (SV × SV)) (x y : SV) : List (SV × SV) := if (kvs.any fun p => eqKS p.1 x) = true then kvs.map (fun p => if eqKS p.1 x = true then (p.1, y) else p) else kvs ++ [(x, y)]
section
variable {X : Cx} {G : Gd} {W : XW} {pos : Pos}
theorem repP_app {ρ : Rho} {H : Hp} : ∀ {a : List (SV × SV)} {a' : List (Key × V)} {b : List (SV × SV)} {b' : List (Key × V)}, RepP G ρ H a a' → RepP G ρ H b b' → RepP G ρ H (a ++ b) (a' ++ b')
  | [], [], _, _, _, r => r
  | (k, x) :: a, (k', v) :: a', _, _, ⟨h1, h2, h3⟩, r => ⟨h1, h2, repP_app h3 r⟩
theorem repP_any {ρ : Rho} {H : Hp} {x : SV} {k : Key} (rx : Rep G ρ H x (kV k)) : ∀ {kvs : List (SV × SV)} {ks : List (Key × V)}, RepP G ρ H kvs ks → (kvs.any fun p => eqKS p.1 x) = (ks.any fun kv => decide (kv.1 = k))
  | [], [], _ => rfl
  | (a, b) :: r, (a', b') :: r', ⟨h1, _, h3⟩ => by rw [List.any_cons, List.any_cons, eqKS_ok h1 rx, repP_any rx h3]
theorem repP_map {ρ : Rho} {H : Hp} {x y : SV} {k : Key} {v : V} (rx : Rep G ρ H x (kV k)) (ry : Rep G ρ H y v) : ∀ {kvs : List (SV × SV)} {ks : List (Key × V)}, RepP G ρ H kvs ks → RepP G ρ H (kvs.map fun p => if eqKS p.1 x = true then (p.1, y) else p) (ks.map fun kv => if kv.1 = k then (kv.1, v) else kv)
  | [], [], _ => trivial
  | (a, b) :: r, (a', b') :: r', ⟨h1, h2, h3⟩ => by
    have q := eqKS_ok h1 rx
    have ih := repP_map rx ry h3
    rw [List.map_cons, List.map_cons]
    by_cases z : a' = k
    · rw [decide_eq_true z] at q
      simp only [q, z, if_true]
      subst z
      exact ⟨h1, ry, ih⟩
    · rw [decide_eq_false z] at q
      simp only [q, z, if_false, Bool.false_eq_true]
      exact ⟨h1, h2, ih⟩
theorem putM_ok {ρ : Rho} {H : Hp} {x y : SV} {k : Key} {v : V} (rx : Rep G ρ H x (kV k)) (ry : Rep G ρ H y v) {kvs : List (SV × SV)} {ks : List (Key × V)} (r : RepP G ρ H kvs ks) : RepP G ρ H (putM kvs x y) (putK ks k v) := by
  unfold putM putK
  rw [repP_any rx r]
  by_cases c : (ks.any fun kv => decide (kv.1 = k)) = true
  · rw [if_pos c, if_pos c]
    exact repP_map rx ry r
  · rw [if_neg c, if_neg c]
    exact repP_app r ⟨rx, ry, trivial⟩
def fDIx (o k : F) : F := fun η h => (o η h).bind fun x h => (k η h).bind fun y h => match dicOf h x with
  | some kvs => if isKS y = true then (match getS kvs y with
    | some v => .ok v h
    | none => .bad) else .bad
  | none => .bad
theorem e_dix {o i : Expr} {fo fi : F} (hu : X.A.units + 1 < cLine) (ho : PE X o (tE G W fo)) (hi : PE X i (tE G W fi)) (hs : NoSl i) : PE X (.Subscript o i pos) (tE G W (fDIx fo fi)) :=
  (pe_dget hu ho hi hs).impX fun σ H Q ⟨ρ, η, h, r, s, g⟩ => by
    refine ⟨ρ, η, h, r, s, g.bind fun x h1 ρ1 H1 e1 s1 f1 g1 x' rx => ?_⟩
    refine ⟨ρ1, η, h1, r.mono e1 f1, s1, g1.bind fun y h2 ρ2 H2 e2 s2 f2 g2 y' ry => ?_⟩
    have rx2 := rx.mono e2.sub f2
    cases q : dicOf h2 x with
    | none => rw [q] at g2; exact g2.elim
    | some kvs =>
      rw [q] at g2
      simp only at g2
      by_cases ck : isKS y = true
      · rw [if_pos ck] at g2
        obtain ⟨a, vs, rfl, k2, rl⟩ := dicOf_ok s2 rx2 q
        obtain ⟨k, rfl⟩ := key_of ry ck
        obtain ⟨j1, j2⟩ := getS_ok ry rl
        cases z : getS kvs y with
        | none => rw [z] at g2; exact g2.elim
        | some v =>
          obtain ⟨v', j3, rv⟩ := j1 v z
          rw [z] at g2
          refine ⟨a, v', rfl, ?_, g2.here s2 _ rv⟩
          have := DGet.k (k := k) k2
          rw [j3] at this
          exact this
      · rw [if_neg ck] at g2; exact g2.elim
/-- d[k] = v -/
def gDPut (x y w : SV) (h : SH) : Out Unit := match x with
  | .loc p => match h.get p with
    | some (.dic kvs) => if isKS y = true ∧ kvs.length < sizeLine then .ok () (h.set p (.dic (putM kvs y w))) else .bad
    | _ => .bad
  | _ => .bad
theorem dput_ok {ρ : Rho} {h : SH} {H : Hp} {x y w : SV} {x' y' w' : V} {R : Unit → Rho → Hp → Prop} (s : Sim G ρ h H) (rx : Rep G ρ H x x') (ry : Rep G ρ H y y') (rw' : Rep G ρ H w w') (g : Good G W ρ H (gDPut x y w h) R) :
    ∃ a H', x' = .ref a ∧ DPut H a y' w' H' ∧ R () ρ H' := by
  cases rx with
  | loc hp =>
    rename_i p a
    unfold gDPut at g
    simp only at g
    cases q : h.get p with
    | none => rw [q] at g; exact g.elim
    | some o =>
      rw [q] at g
      cases o with
      | lst _ => exact g.elim
      | dic kvs =>
        simp only at g
        by_cases c : isKS y = true ∧ kvs.length < sizeLine
        · rw [if_pos c] at g
          obtain ⟨a', vs, h1, h2, rl⟩ := s.dic q
          rw [hp] at h1; cases h1
          obtain ⟨k, rfl⟩ := key_of ry c.1
          have fu : Frm ρ H (upd H a (.dK (putK vs k w'))) := frm_upd (o := .dK vs) hp (s.mut hp)
          refine ⟨a, _, rfl, .k h2 (by rw [← rl.length]; exact c.2), ?_⟩
          exact g.write (u := .dK (putK vs k w')) s hp trivial ⟨_, upd_same, putM_ok (ry.mono Sub.refl fu) (rw'.mono Sub.refl fu) (RepP.mono Sub.refl fu rl)⟩
        · rw [if_neg c] at g; exact g.elim
  | _ => exact g.elim
def fDPut (o k v : F) : FS := fun η h => (v η h).bind fun w h => (o η h).bind fun x h => (k η h).bind fun y h => (gDPut x y w h).bind fun _ h => .ok (.nx η) h
theorem s_dput {o i value : Expr} {fo fi fv : F} {pos' : Pos} (hu : X.A.units + 1 < cLine) (ho : PE X o (tE G W fo)) (hi : PE X i (tE G W fi)) (hv : PE X value (tE G W fv)) (hs : swapsWith value (some (.Subscript o i pos')) pos.line X.env = pure false := by rfl) :
    PS X (.Assign [.Subscript o i pos'] value pos) (tS G W (fDPut fo fi fv)) :=
  (ps_dput hu ho hi hv hs).impX fun D σ H ⟨ρ, η, h, r, s, g⟩ => by
    refine ⟨ρ, η, h, r, s, g.bind fun w h1 ρ1 H1 e1 s1 f1 g1 w' rw' => ?_⟩
    refine ⟨ρ1, η, h1, r.mono e1 f1, s1, g1.bind fun x h2 ρ2 H2 e2 s2 f2 g2 x' rx => ?_⟩
    refine ⟨ρ2, η, h2, (r.mono e1 f1).mono e2 f2, s2, g2.bind fun y h3 ρ3 H3 e3 s3 f3 g3 y' ry => ?_⟩
    have r3 := ((r.mono e1 f1).mono e2 f2).mono e3 f3
    exact dput_ok (R := fun _ _ H' => D.nx σ H') s3 (rx.mono e3.sub f3) ry ((rw'.mono e2.sub f2).mono e3.sub f3) (g3.bind fun _ h4 ρ4 H4 e4 s4 f4 g4 => g4.here s4 σ (r3.mono e4 f4))
/-- d[k] += v, of numbers -/
def fDAug (f : Int → Int → Int) (o k v : F) : FS := fun η h => (o η h).bind fun x h => (k η h).bind fun y h => match dicOf h x with
  | some kvs => if isKS y = true then (match getS kvs y with
    | some (.int i) => (v η h).bind fun w h => (match w with
      | .int j => (gDPut x y (.int (f i j)) h).bind fun _ h => .ok (.nx η) h
      | _ => .bad)
    | _ => .bad) else .bad
  | none => .bad
theorem s_daug {op : Operator} {f : Int → Int → Int} {o i value : Expr} {fo fi fv : F} {tpos : Pos} (hu : X.A.units + 1 < cLine) (ho : PE X o (tE G W fo)) (hi : PE X i (tE G W fi)) (hv : PE X value (tE G W fv)) (hop : InOp X op (rI0 fun i j => .int (f i j)))
    (ha : ∀ ov iv new, augStore i ov iv new = (do holding [new, ov, iv] (setItem ov iv new); release [new, ov, iv] []; pure .next) := by intros; rfl) : PS X (.AugAssign (.Subscript o i tpos) op value pos) (tS G W (fDAug f fo fi fv)) :=
  (ps_daug hu ho hi hv hop ha).impX fun D σ H ⟨ρ, η, h, r, s, g⟩ => by
    refine ⟨ρ, η, h, r, s, g.bind fun x h1 ρ1 H1 e1 s1 f1 g1 x' rx => ?_⟩
    refine ⟨ρ1, η, h1, r.mono e1 f1, s1, g1.bind fun y h2 ρ2 H2 e2 s2 f2 g2 y' ry => ?_⟩
    have rx2 := rx.mono e2.sub f2
    cases q : dicOf h2 x with
    | none => rw [q] at g2; exact g2.elim
    | some kvs =>
      rw [q] at g2
      simp only at g2
      by_cases ck : isKS y = true
      · rw [if_pos ck] at g2
        obtain ⟨a, vs, rfl, k2, rl⟩ := dicOf_ok s2 rx2 q
        obtain ⟨k, rfl⟩ := key_of ry ck
        obtain ⟨j1, j2⟩ := getS_ok ry rl
        cases z : getS kvs y with
        | none => rw [z] at g2; exact g2.elim
        | some v =>
          obtain ⟨v', j3, rv⟩ := j1 v z
          rw [z] at g2
          cases v with
          | int i =>
            cases rv
            have dg := DGet.k (k := k) k2
            rw [j3] at dg
            refine ⟨a, .int i, rfl, dg, ρ2, η, h2, (r.mono e1 f1).mono e2 f2, s2, g2.bind fun w h3 ρ3 H3 e3 s3 f3 g3 w' rw' => ?_⟩
            cases rw' with
            | int j =>
              refine ⟨i, j, rfl, rfl, ?_⟩
              have r3 := ((r.mono e1 f1).mono e2 f2).mono e3 f3
              obtain ⟨a', H', ea, dp, k'⟩ := dput_ok (R := fun _ _ H' => D.nx σ H') s3 (rx2.mono e3.sub f3) (ry.mono e3.sub f3) (.int (f i j)) (g3.bind fun _ h4 ρ4 H4 e4 s4 f4 g4 => g4.here s4 σ (r3.mono e4 f4))
              cases ea
              exact ⟨H', dp, k'⟩
            | _ => exact g3.elim
          | _ => exact g2.elim
      · rw [if_neg ck] at g2; exact g2.elim
/-- d.update(xs), a list of pairs -/
def rUpd (K : PySem.W.Frag) : V → List V → Hp → VK → Prop := fun x vs H Q => ∃ (d a : Addr) (acc kvs : List (Key × V)) (ps : List Addr), x = .ref d ∧ vs = [.ref a] ∧ H d = some (.dK acc) ∧ SqL K H a (ps.map V.ref) ∧ (∃ zs, H a = some (.lst zs)) ∧ Paired (fun p kv => SqT K H p [kV kv.1, kv.2]) ps kvs ∧
  acc.length + ps.length ≤ 16000000 ∧ Q .non (upd H d (.dK (mergeK acc kvs)))
theorem mt_upd (hcalm : X.calm = true) : MtR X "dict.update" (rUpd X.K) := by
  intro pins s σ H x xs v us Q I rx rs q
  obtain ⟨d, a, acc, kvs, ps, ex, ev, hd, hq, hla, hp, hz, q⟩ := q
  subst ex
  subst ev
  obtain rfl : v = Value.ref d := rx
  obtain ⟨u, eu, ra⟩ := vals1 rs
  subst eu
  cases ra
  have hs := sizeLine_eq
  obtain ⟨zs, hla⟩ := hla
  have hda : d ≠ a := fun e => by
    rw [e, hla] at hd
    cases hd
  obtain ⟨its, rv, pl, hz0⟩ := I.list hq
  have ei := refs_at rv
  subst ei
  rw [List.length_map] at hz0
  obtain ⟨prs, rel, hl, hpr⟩ := pairs_of I hp
  have hex := pairs_stand hl hpr
  obtain ⟨kv, kl, hkv⟩ := hex
  obtain ⟨z, hdm, vs0, rel0, dd⟩ := dk_of I.hok hd
  have hzv : vs0.length ≤ acc.length := by rw [← rel0.length]; exact Nat.le_refl _
  have at_ : ∀ (j : Nat) (k v : Value), kv[j]? = some (k, v) → ∃ b, ps.getD j 0 = b ∧ ps[j]? = some b ∧ IsTup s.heap b #[k, v] := fun j k v e => by
    obtain ⟨b, q', z1, z2, z3, z4, z5⟩ := hkv j k v e
    exact ⟨b, by rw [List.getD_eq_getElem?_getD, z1]; rfl, z1, z4⟩
  refine PySem.call_update_pairs (knd := mixKind X.prog X.w) (acc := vs0) (kvs := prs) (PySem.PairArg.list a (ps.map Value.ref).toArray (fun j => ps.getD j 0) kv) (I.ok.hd hcalm)
    ⟨pl, by simp [kl], fun j k v e => ?_⟩ (fun hm => ?_) ⟨by rw [hl, kl], fun j k v e => ?_⟩ dd (by rw [kl]; omega) fun h' tk hd' k => ?_
  · obtain ⟨b, e1, e2, e3⟩ := at_ j k v e
    show (List.map Value.ref ps).toArray[j]? = some (Value.ref (ps.getD j 0)) ∧ PySem.PairAt s.heap (ps.getD j 0) k v
    rw [e1]
    exact ⟨by simp [e2], .inl e3⟩
  · rcases List.mem_cons.mp hm with e | hm
    · exact hda e
    · obtain ⟨j, hj, e⟩ := List.mem_map.mp hm
      have hj := List.mem_range.mp hj
      obtain ⟨b, e1, e2, e3⟩ := at_ j (kv[j]).1 (kv[j]).2 (List.getElem?_eq_getElem hj)
      have e : ps.getD j 0 = d := e
      rw [e1] at e
      subst e
      obtain ⟨o1, es, ep, ho1, x1, x2, _⟩ := dd
      obtain ⟨o2, ho2, hc2, _⟩ := e3
      rw [ho1] at ho2
      cases ho2
      rw [x1.1] at hc2
      exact absurd hc2 (by decide)
  · obtain ⟨b, q', z1, z2, z3, z4, z5⟩ := hkv j k v e
    subst z3
    exact ⟨q'.1, z2, z5⟩
  · have he : ∃ q, h'.get? d = some q := let ⟨q, _, _, hq, _⟩ := hd'; ⟨q, hq⟩
    have hlen : (mergeK acc kvs).length ≤ sizeLine := by
      refine Nat.le_trans (length_mergeK kvs acc) ?_
      rw [rel.length, hl]
      omega
    exact ⟨.non, _, I.write (t' := tk) (x := d) (e := d) (by rw [hd]; exact True.intro) (.inl rfl) (fun b o hb e => k b o hb (by simp) e) he (dk_new hlen hdm (KV.merge rel rel0) hd'), rfl, q⟩
def mergeM (kvs more : List (SV × SV)) : List (SV × SV) := more.foldl (fun acc kv => putM acc kv.1 kv.2) kvs
theorem mergeM_ok {ρ : Rho} {H : Hp} : ∀ {more : List (SV × SV)} {ms : List (Key × V)} {kvs : List (SV × SV)} {ks : List (Key × V)}, RepP G ρ H more ms → RepP G ρ H kvs ks → RepP G ρ H (mergeM kvs more) (mergeK ks ms)
  | [], [], _, _, _, r => r
  | (a, b) :: m, (a', b') :: m', _, _, ⟨h1, h2, h3⟩, r => mergeM_ok (more := m) (ms := m') h3 (putM_ok h1 h2 r)
def gUpd : SV → List SV → SH → Out SV := fun x vs h => match x, vs with
  | .loc p, [y] => (match h.get p, lstOf h y with
    | some (.dic kvs), some xs => (match pairsS xs with
      | some ps => if kvs.length + ps.length ≤ 16000000 then .ok .non (h.set p (.dic (mergeM kvs ps))) else .bad
      | none => .bad)
    | _, _ => .bad)
  | _, _ => .bad
theorem mg_upd : MtG G W "dict" (rUpd G.K) gUpd := by
  intro ρ h H x x' vs vs' Q s rx rv g
  unfold gUpd at g
  cases rx with
  | loc hp =>
    rename_i p a
    rcases vs with _ | ⟨y, _ | ⟨_, _⟩⟩
    · exact g.elim
    · obtain ⟨v, rfl, r⟩ := rep1 rv
      simp only at g
      cases q1 : h.get p with
      | none => rw [q1] at g; exact g.elim
      | some o =>
        cases o with
        | lst _ => rw [q1] at g; exact g.elim
        | dic kvs =>
          cases q2 : lstOf h y with
          | none => rw [q1, q2] at g; exact g.elim
          | some xs =>
            rw [q1, q2] at g
            simp only at g
            cases q3 : pairsS xs with
            | none => rw [q3] at g; exact g.elim
            | some ps =>
              rw [q3] at g
              simp only at g
              by_cases c : kvs.length + ps.length ≤ 16000000
              · rw [if_pos c] at g
                obtain ⟨a', ks, h1, h2, rl⟩ := s.dic q1
                rw [hp] at h1; cases h1
                obtain ⟨b, zs, rfl, hb, rz⟩ := lstOf_ok s r q2
                obtain ⟨as, kvs', rfl, pd, rp⟩ := pairsS_ok rz q3
                have fu : Frm ρ H (upd H a (.dK (mergeK ks kvs'))) := frm_upd (o := .dK ks) hp (s.mut hp)
                have la : as.length = kvs'.length := by
                  have := Paired.length pd
                  exact this
                refine ⟨a, b, ks, kvs', as, rfl, rfl, h2, .inl (.inl hb), ⟨_, hb⟩, pd, by rw [la, ← rl.length, ← rp.length]; exact c, ?_⟩
                exact g.write (u := .dK (mergeK ks kvs')) s hp trivial ⟨_, upd_same, mergeM_ok (RepP.mono Sub.refl fu rp) (RepP.mono Sub.refl fu rl)⟩ _ .non
              · rw [if_neg c] at g; exact g.elim
    · exact g.elim
  | _ => exact g.elim
theorem m_dict {nm : Str} {id : String} {o e : Expr} {es : List Expr} {fo : F} {fa : FA} {apos cpos : Pos} {rm : V → List V → Hp → VK → Prop} {gm : SV → List SV → SH → Out SV} (hK : X.K = G.K) (slot : Slot "dict" nm id) (hty : typeOf (.builtin id) = pure (.type "method_descriptor")) (hm : MtR X id rm) (mg : MtG G W "dict" rm gm) (ho : PE X o (tE G W fo)) (ha : PA X (e :: es) (tA G W fa))
    (hbase : attributeBase o nm X.env (eval o X.env) = eval o X.env := by rfl)
    (hfew : ((backTo cpos (starEach (e :: es) X.env)).all (fun x => !x.1) && (backToKw cpos (keywordEach [] X.env)).all (fun x => x.1.isSome) && decide ((e :: es).length + ([] : List Keyword).length + (if ([] : List Keyword).isEmpty then 0 else 1) < 30)) = true := by rfl)
    (hline : (apos.endLine == cpos.line) = true := by rfl) (hs : starEach (e :: es) X.env = (false, eval e X.env) :: starEach es X.env := by rfl) (hplain : (backTo cpos (starEach es X.env)).any (·.1) = false := by rfl) :
    PE X (.Call (.Attribute o nm apos) (e :: es) [] cpos) (tE G W (fMt "dict" gm fo fa)) :=
  (pe_bm PySem.F.plainAttrs_dict slot hty hm ho ha hbase hfew hline hs hplain).impX fun _ _ _ t => hK ▸ bm_imp mg t
end
end Fv
/-! Fv36: what is never come to; sorted pairs; facts of exception classes. -/
namespace Fv
open PySem PySem.Spec PyProof.Rows L2
section
variable {X : Cx} {G : Gd} {W : XW}

/-- {} -/
def fNewD : F := fun _ h => .ok (.loc h.nx) (h.new (.dic []))
theorem e_newD {pos : Pos} : PE X (.Dict [] [] pos) (tE G W fNewD) := pe_dnewK.impX fun σ H Q ⟨ρ, η, h, r, s, g⟩ p hp =>
  Good.new (u := .dK []) s g hp trivial (repO_dic s hp) _ (.loc radd_same)
/-! ### sorted(xs), xs pairs of ints -/
def ltQ (p q : Int × Int) : Bool := decide (p.1 < q.1) || (decide (p.1 = q.1) && decide (p.2 < q.2))
def insQ (x : Int × Int) : List (Int × Int) → List (Int × Int)
  | [] => [x]
  | y :: r => if ltQ y x = true then y :: insQ x r else x :: y :: r
def sortQ : List (Int × Int) → List (Int × Int)
  | [] => []
  | x :: r => insQ x (sortQ r)
theorem insQ_perm (x : Int × Int) : ∀ l, (insQ x l).Perm (x :: l)
  | [] => .refl _
  | y :: r => by
    unfold insQ
    split
    · exact ((insQ_perm x r).cons y).trans (List.Perm.swap ..)
    · exact .refl _
theorem sortQ_perm : ∀ l, (sortQ l).Perm l
  | [] => .refl _
  | x :: r => (insQ_perm x _).trans ((sortQ_perm r).cons x)
theorem ltQ_iff {p q : Int × Int} : ltQ p q = true ↔ p.1 < q.1 ∨ (p.1 = q.1 ∧ p.2 < q.2) := by
  unfold ltQ
  simp
def OrdQ (l : List (Int × Int)) : Prop := l.Pairwise fun x y => ltQ y x = false
theorem ltQ_no {p q : Int × Int} : ltQ p q = false ↔ ¬ (p.1 < q.1 ∨ (p.1 = q.1 ∧ p.2 < q.2)) := by
  rw [← ltQ_iff]
  simp
theorem insQ_ord (x : Int × Int) : ∀ {l}, OrdQ l → OrdQ (insQ x l)
  | [], _ => by simp [insQ, OrdQ]
  | y :: r, h => by
    obtain ⟨h1, h2⟩ := List.pairwise_cons.mp h
    unfold insQ
    split
    · rename_i c
      refine List.pairwise_cons.mpr ⟨fun z hz => ?_, insQ_ord x h2⟩
      rcases List.mem_cons.mp ((insQ_perm x r).mem_iff.mp hz) with rfl | hz
      · have a := ltQ_iff.mp c
        refine ltQ_no.mpr ?_
        omega
      · exact h1 z hz
    · rename_i c
      have c : ltQ y x = false := by simpa using c
      refine List.pairwise_cons.mpr ⟨fun z hz => ?_, h⟩
      rcases List.mem_cons.mp hz with rfl | hz
      · exact c
      · have a := ltQ_no.mp c
        have b := ltQ_no.mp (h1 z hz)
        refine ltQ_no.mpr ?_
        omega
theorem sortQ_ord : ∀ l, OrdQ (sortQ l)
  | [] => List.Pairwise.nil
  | x :: r => insQ_ord x (sortQ_ord r)
theorem ord_uniq : ∀ {l m : List (Int × Int)}, OrdQ l → OrdQ m → l.Perm m → l = m
  | [], m, _, _, p => (List.Perm.eq_nil p.symm).symm
  | x :: l, [], _, _, p => absurd p.length_eq (by simp)
  | x :: l, y :: m, h1, h2, p => by
    obtain ⟨a1, a2⟩ := List.pairwise_cons.mp h1
    obtain ⟨b1, b2⟩ := List.pairwise_cons.mp h2
    have e : x = y := by
      have q1 : ltQ x y = false := by
        rcases List.mem_cons.mp (p.mem_iff.mp (List.mem_cons_self (a := x) (l := l))) with e | hx
        · rw [e]; refine ltQ_no.mpr ?_; omega
        · exact b1 x hx
      have q2 : ltQ y x = false := by
        rcases List.mem_cons.mp (p.mem_iff.mpr (List.mem_cons_self (a := y) (l := m))) with e | hy
        · rw [e]; refine ltQ_no.mpr ?_; omega
        · exact a1 y hy
      have z1 := ltQ_no.mp q1
      have z2 := ltQ_no.mp q2
      exact Prod.ext (by omega) (by omega)
    subst e
    rw [ord_uniq a2 b2 p.cons_inv]
theorem lexQ (p q : Int × Int) : SrtO.lexB p q = ltQ p q := by
  cases h : ltQ p q with
  | true => exact SrtO.lexB_iff.mpr (ltQ_iff.mp h)
  | false => exact SrtO.lexB_no.mpr (ltQ_no.mp h)
def IsPr (K : PySem.W.Frag) (H : Hp) (x : V) (p : Int × Int) : Prop := ∃ t, x = .ref t ∧ SqT K H t [.int p.1, .int p.2]
def rSortedQ (K : PySem.W.Frag) : List V → Hp → VK → Prop := fun vs H Q => ∃ (a : Addr) (xs : List V) (ps : List (Int × Int)), vs = [V.ref a] ∧ SqL K H a xs ∧ Paired (IsPr K H) xs ps ∧
  ∀ ys p, Paired (IsPr K H) ys (sortQ ps) → H p = none → Q (.ref p) (upd H p (.lst ys))
/-- what a pair's object holds -/
def prAt (h : Heap) (u : Value) : Int × Int := match u with
  | .ref a => (match h.get? a with
    | some ⟨_, _, .seq its _, _⟩ => (match its.toList with
      | [.int i _, .int j _] => (i, j)
      | _ => (0, 0))
    | _ => (0, 0))
  | _ => (0, 0)
theorem paired_of {α β : Type} {R : α → β → Prop} {f : α → β} : ∀ {l : List α}, (∀ x ∈ l, R x (f x)) → Paired R l (l.map f)
  | [], _ => .nil
  | x :: l, k => .cons (k x (List.mem_cons_self ..)) (paired_of fun y hy => k y (List.mem_cons_of_mem _ hy))
theorem cr_sortedQ : CallR X (.builtin "sorted") (rSortedQ X.K) := by
  intro pins s σ H vs us Q I r h
  obtain ⟨a, xs, ps, rfl, hs, hx, q⟩ := h
  obtain ⟨its, rv, hl, hz⟩ := I.list hs
  obtain ⟨u, rfl, ru⟩ := vals1 r
  cases ru
  have isr : ∀ x ∈ xs, ∃ a, x = V.ref a := by
    intro x hxm
    clear q rv hl hz hs r
    induction hx with
    | nil => cases hxm
    | cons h t ih =>
      rcases List.mem_cons.mp hxm with rfl | hxm
      · obtain ⟨t, e, _⟩ := h
        exact ⟨t, e⟩
      · exact ih hxm
  obtain ⟨e1, e2⟩ := refs_back rv isr
  -- each item: its pair
  have ip : ∀ (x : V) (p : Int × Int) (v : Value), IsPr X.K H x p → x = backV v → (∃ a, v = .ref a) → prAt s.heap v = p ∧ Srt.IsPair s.heap v p.1 p.2 := by
    intro x p v hp hb hv
    obtain ⟨t, rfl⟩ := hv
    obtain ⟨t', e, ht⟩ := hp
    rw [hb] at e
    cases e
    obtain ⟨jts, r2, ⟨o, ho, hc, n, hd⟩, _⟩ := I.tuple ht
    obtain ⟨u1, u2, rfl, ri, rj⟩ := vals2 r2
    obtain ⟨t1, rfl⟩ := ri
    obtain ⟨t2, rfl⟩ := rj
    refine ⟨?_, t, o, t1, t2, n, rfl, ho, hc, hd⟩
    unfold prAt
    obtain ⟨oc, od, dt, sl⟩ := o
    have hd : dt = _ := hd
    subst hd
    simp only [ho]
  have key : ∀ {zs : List V} {qs : List (Int × Int)} {ws : List Value}, Paired (IsPr X.K H) zs qs → zs = ws.map backV → (∀ v ∈ ws, ∃ a, v = Value.ref a) → ws.map (prAt s.heap) = qs ∧ (∀ v ∈ ws, Srt.IsPair s.heap v (prAt s.heap v).1 (prAt s.heap v).2 ∧ IsPr X.K H (backV v) (prAt s.heap v)) := by
    intro zs qs ws hp
    induction hp generalizing ws with
    | nil =>
      intro e _
      cases ws with
      | nil => exact ⟨rfl, by simp⟩
      | cons _ _ => cases e
    | @cons x p zs qs h t ih =>
      intro e k
      cases ws with
      | nil => cases e
      | cons w ws =>
        obtain ⟨ex, ez⟩ := List.cons.inj e
        obtain ⟨i1, i2⟩ := ih ez fun v hv => k v (List.mem_cons_of_mem _ hv)
        obtain ⟨j1, j2⟩ := ip x p w h ex (k w (List.mem_cons_self ..))
        refine ⟨by rw [List.map_cons, i1, j1], fun v hv => ?_⟩
        rcases List.mem_cons.mp hv with rfl | hv
        · rw [j1, ← ex]
          exact ⟨j2, h⟩
        · exact i2 v hv
  obtain ⟨k1, k2⟩ := key hx e1 e2
  refine SrtO.sorted_pairsO (k := prAt s.heap) hl.isList (by rw [← rv.length]; exact hz) (fun v hv => (k2 v hv).1) fun h' d out h1 h2 kp hd hn => ?_
  have om : ∀ v ∈ out, v ∈ its := fun v hv => h2.perm.mem_iff.mp hv
  have h3 : ∀ u ∈ out, ∃ a, u = Value.ref a := fun u hu => e2 u (om u hu)
  obtain ⟨n, hn⟩ := hn
  have so : out.map (prAt s.heap) = sortQ ps := by
    refine ord_uniq ?_ (sortQ_ord ps) ?_
    · refine List.pairwise_map.mpr (h1.imp fun {x y} z => ?_)
      rw [← lexQ]
      exact z
    · rw [← k1]
      exact (h2.perm.map _).trans (sortQ_perm _).symm
  have pd : Paired (IsPr X.K H) (out.map backV) (sortQ ps) := by
    rw [← so]
    clear so h1 h2 hn
    induction out with
    | nil => exact .nil
    | cons v out ih => exact .cons (k2 v (om v (List.mem_cons_self ..))).2 (ih (fun w hw => om w (List.mem_cons_of_mem _ hw)) fun w hw => h3 w (List.mem_cons_of_mem _ hw))
  refine ⟨.ref d, upd H d (.lst (out.map backV)), I.laid (t' := s.toks) kp hd ⟨?_, out, n, vals_back h3, hn⟩, rfl, q _ d pd (I.hok.fresh hd)⟩
  rw [List.length_map, h2.perm.length_eq, ← rv.length]
  exact hz
def pairI : SV → Option (Int × Int)
  | .tup [.int i, .int j] => some (i, j)
  | _ => none
def gSortQ : GL := fun xs h => match xs with
  | [x] => (match lstOf h x with
    | some ys => (match mapO pairI ys with
      | some ps => .ok (.loc h.nx) (h.new (.lst ((sortQ ps).map fun p => .tup [.int p.1, .int p.2])))
      | none => .bad)
    | none => .bad)
  | _ => .bad
theorem pairI_ok {ρ : Rho} {H : Hp} : ∀ {ys : List SV} {vs : List V} {ps : List (Int × Int)}, RepL G ρ H ys vs → mapO pairI ys = some ps → Paired (IsPr G.K H) vs ps
  | _, _, _, .nil, e => by cases e; exact .nil
  | x :: xs, v :: vs, ps, .cons r t, e => by
    unfold mapO at e
    cases q : pairI x with
    | none => simp [q] at e
    | some p =>
      simp [q] at e
      cases q2 : mapO pairI xs with
      | none => simp [q2] at e
      | some qs =>
        simp [q2] at e
        subst e
        refine .cons ?_ (pairI_ok t q2)
        unfold pairI at q
        split at q
        · rename_i i j
          cases q
          cases r with
          | tup sq rl =>
            obtain ⟨a, b, rfl, r1, r2⟩ := rep2 rl
            cases r1
            cases r2
            exact ⟨_, rfl, sq⟩
        · cases q
theorem pairI_back {ρ : Rho} {H : Hp} : ∀ {vs : List V} {ps : List (Int × Int)}, Paired (IsPr G.K H) vs ps → RepL G ρ H (ps.map fun p => .tup [.int p.1, .int p.2]) vs
  | _, _, .nil => .nil
  | _, _, .cons h t => by
    obtain ⟨a, rfl, sq⟩ := h
    exact .cons (.tup sq (.cons (.int _) (.cons (.int _) .nil))) (pairI_back t)
theorem cg_sortQ : CaG G W (rSortedQ G.K) gSortQ := by
  intro ρ h H xs xs' Q s rx g
  unfold gSortQ at g
  rcases xs with _ | ⟨x, _ | ⟨_, _⟩⟩
  · exact g.elim
  · obtain ⟨v, rfl, r⟩ := rep1 rx
    simp only at g
    cases q : lstOf h x with
    | none => rw [q] at g; exact g.elim
    | some ys =>
      rw [q] at g
      simp only at g
      cases q2 : mapO pairI ys with
      | none => rw [q2] at g; exact g.elim
      | some ps =>
        rw [q2] at g
        obtain ⟨a, vs, rfl, ha, rl⟩ := lstOf_ok s r q
        refine ⟨a, vs, ps, rfl, .inl (.inl ha), pairI_ok rl q2, fun zs p pd hp => ?_⟩
        exact g.new (u := .lst zs) s hp trivial (repO_lst s hp (pairI_back pd)) _ (.loc radd_same)
  · exact g.elim
end
/-! ### exception classes -/
def oexB (K : PySem.W.Frag) (C : Addr) : Bool := (match K.lookup C with
  | some ⟨.type "type", _, .cls cd, sl⟩ => (match cd.mro, sl.toList with
    | .ref C' :: bm, [_, _, _, _, some (.builtin n), _] => decide (C' = C) && (decide (n = "ValueError.__new__") && (!cd.hasDel && (cd.hasDict && PySem.HandSPX.refsVE bm)))
    | _, _ => false)
  | _ => false) && (decide (PySem.W.findIn K (.ref C) "__setattr__" = some (some (.builtin "object.__setattr__"))) && (decide (PySem.W.subIn K (.ref C) (.type "BaseException") = some true) && (decide (PySem.W.typeIn K (.ref C) = some (.type "type")) && PySem.W.keepIn K (.ref C))))
theorem oexB_ok {K : PySem.W.Frag} {C : Addr} (h : oexB K C = true) : OexC K C := by
  unfold oexB at h
  simp only [Bool.and_eq_true, decide_eq_true_eq] at h
  obtain ⟨h1, h2, h3, h4, h5⟩ := h
  refine ⟨?_, h2, h3, h4, h5⟩
  split at h1
  · rename_i dd cd sl ho
    split at h1
    · rename_i C' bm k0 k1 k2 k3 n k5 hm hs
      simp only [Bool.and_eq_true, decide_eq_true_eq, Bool.not_eq_true'] at h1
      obtain ⟨e1, e2, e3, e4, e5⟩ := h1
      subst e1
      subst e2
      obtain ⟨nm, bs, mro, ns, qn, hd, sn, sb, ab, col, dl⟩ := cd
      dsimp only at hm e3 e4
      subst hm
      subst e3
      subst e4
      obtain ⟨l⟩ := sl
      simp only at hs
      subst hs
      exact ⟨nm, qn, ns, bs, bm, sn, sb, ab, col, dd, k0, k1, k2, k3, k5, ho, e5⟩
    · cases h1
  · cases h1
/-- a class that may be raised and caught, its field f -/
structure ExF (K : PySem.W.Frag) (mg : Str → Option Value) (C fI : Addr) (x f : Str) : Prop where
  T : OexC K C
  iC : PySem.W.findIn K (.ref C) "__init__" = some (some (.ref fI))
  tI : PySem.W.typeIn K (.ref fI) = some (.type "function")
  no : PySem.W.findIn K (.ref C) f = some none
  m : mg x = some (.ref C)
  ex : PySem.W.exmOne K (.ref C) (.ref C) = some true
  xf : XfC K C
def exB1 (K : PySem.W.Frag) (x f : Str) : Bool := oexB K (He.ga K x) && (xfB K (He.ga K x) && (decide (PySem.W.findIn K (.ref (He.ga K x)) f = some none) && (decide (PySem.W.exmOne K (.ref (He.ga K x)) (.ref (He.ga K x)) = some true) && (He.Fa.meth x "__init__").ok K)))
theorem exB1_ok {K : PySem.W.Frag} {mg : Str → Option Value} {x f : Str} (h : exB1 K x f = true) (m : mg x = some (.ref (He.ga K x))) : ExF K mg (He.ga K x) (He.ma K (He.ga K x) "__init__") x f := by
  unfold exB1 at h
  simp only [Bool.and_eq_true, decide_eq_true_eq] at h
  obtain ⟨h1, h2, h3, h4, h5⟩ := h
  have M := He.meth_ok h5
  refine ⟨oexB_ok h1, M.at_, ?_, h3, m, h4, xfB_ok h2⟩
  have := M.fn
  unfold PySem.W.isFn at this
  exact eq_of_beq this
end Fv
/-! Fv37: a text again and again; tuples of ints in order; how often a text lies in a text. -/
namespace Fv
open PySem PySem.Spec PyProof.Rows L2
section
variable {X : Cx} {G : Gd} {W : XW}
theorem foldl_arr : ∀ (L : List (Array Nat)) (acc : Array Nat), (L.foldl (· ++ ·) acc).toList = acc.toList ++ (L.map Array.toList).flatten
  | [], acc => by simp
  | a :: L, acc => by
    rw [List.foldl_cons, foldl_arr L]
    simp
theorem mul_list (x : Str) (n : Int) (h1 : 2 ≤ n) (h2 : 1 ≤ x.length) : Txt.mul x n = mkS (List.replicate n.toNat x.cps.toList).flatten := by
  unfold Txt.mul
  have a1 : ¬ n < 1 := by omega
  have a2 : (n == 1) = false := by
    have : n ≠ 1 := by omega
    simpa using this
  have a3 : (x.length == 0) = false := by
    have : x.length ≠ 0 := by omega
    simpa using this
  rw [if_neg a1, a2, a3, if_neg (by decide)]
  have e : ((List.replicate n.toNat x.cps).foldl (· ++ ·) #[]) = ⟨(List.replicate n.toNat x.cps.toList).flatten⟩ := by
    apply Array.ext'
    rw [foldl_arr, List.map_replicate]
    rfl
  rw [e]
def rRepS : R2 := fun x y H Q => ∃ (a : Str) (k : Int), x = .str a ∧ y = .int k ∧ 2 ≤ k ∧ k ≤ 65536 ∧ 1 ≤ a.length ∧ a.length ≤ 256 ∧ Q (.str (mkS (List.replicate k.toNat a.cps.toList).flatten)) H
theorem op_repS : OpR X (binaryOp .Mult) rRepS := by
  intro pins s σ H x y v u Q I rx ry h
  obtain ⟨a, k, rfl, rfl, h1, h2, h3, h4, q⟩ := h
  obtain ⟨t, rfl⟩ := rx
  obtain ⟨t', rfl⟩ := ry
  refine SB.mul (mulOk_of 256 65536 h4 h2 (by omega) (by decide) (by decide)) fun t2 k2 => ?_
  rw [mul_list a k h1 h3]
  exact ⟨.str _, H, I.tok _, ⟨_, rfl⟩, q⟩
def gMulS : G2 := fun x y h => match x, y with
  | .str a, .int k => if (decide (2 ≤ k) && (decide (k ≤ 65536) && (decide (1 ≤ a.length) && decide (a.length ≤ 256)))) = true then .ok (.str (List.replicate k.toNat a).flatten) h else .bad
  | _, _ => .bad
theorem og_mulS : OpG G W rRepS gMulS := by
  intro ρ h H x y x' y' Q s rx ry g
  unfold gMulS at g
  cases rx with
  | str a =>
    cases ry with
    | int k =>
      simp only at g
      by_cases c : (decide (2 ≤ k) && (decide (k ≤ 65536) && (decide (1 ≤ a.length) && decide (a.length ≤ 256)))) = true
      · rw [if_pos c] at g
        simp only [Bool.and_eq_true, decide_eq_true_eq] at c
        exact ⟨mkS a, k, rfl, rfl, c.1, c.2.1, c.2.2.1, c.2.2.2, g.here s _ (.str _)⟩
      · rw [if_neg c] at g; exact g.elim
    | _ => exact g.elim
  | _ => exact g.elim
abbrev gCountS : SV → List SV → SH → Out SV := gS2 fun a b => .int (Txt.count (mkS a) (mkS b))
theorem mg_countS : MtG G W "str" (fun x xs H Q => ∃ a b, x = .str a ∧ xs = [.str b] ∧ Q (.int (Txt.count a b)) H) gCountS := mg_S2i fun a b => Txt.count a b
/-- the ints of a tuple -/
def intI : SV → Option Int
  | .int i => some i
  | _ => none
theorem intI_ok {ρ : Rho} {H : Hp} : ∀ {ys : List SV} {vs : List V} {ns : List Int}, RepL G ρ H ys vs → mapO intI ys = some ns → vs = ns.map V.int
  | _, _, _, .nil, e => by cases e; rfl
  | x :: xs, v :: vs, ns, .cons r t, e => by
    unfold mapO at e
    cases q : intI x with
    | none => simp [q] at e
    | some i =>
      simp [q] at e
      cases q2 : mapO intI xs with
      | none => simp [q2] at e
      | some is =>
        simp [q2] at e
        subst e
        rw [intI_ok t q2]
        unfold intI at q
        split at q
        · cases q
          cases r
          rfl
        · cases q
def gLtT : G2 := fun x y h => match x, y with
  | .tup xs, .tup ys => (match mapO intI xs, mapO intI ys with
    | some ns, some ms => .ok (.bl (HT.lexLt ns ms)) h
    | _, _ => .bad)
  | _, _ => .bad
theorem og_ltT : OpG G W (rLtT G.K) gLtT := by
  intro ρ h H x y x' y' Q s rx ry g
  unfold gLtT at g
  cases rx with
  | tup sx rlx =>
    cases ry with
    | tup sy rly =>
      simp only at g
      cases e1 : mapO intI _ with
      | none => rw [e1] at g; exact g.elim
      | some ns =>
        rw [e1] at g
        cases e2 : mapO intI _ with
        | none => rw [e2] at g; exact g.elim
        | some ms =>
          rw [e2] at g
          have v1 := intI_ok rlx e1
          have v2 := intI_ok rly e2
          exact ⟨_, _, ns, ms, rfl, rfl, v1 ▸ sx, v2 ▸ sy, g.here s _ (.bl _)⟩
    | _ => exact g.elim
  | _ => exact g.elim
theorem units0_of {k : Nat} {A : Around} (hr : Room k A) : A.units < cLine := by have := hr.units; omega
end
end Fv
namespace K11
open PySem Fv
def tup_CLOSED : List SV := [.str (("let" : PySem.Str).cps.toList), .str (("put" : PySem.Str).cps.toList), .str (("drop" : PySem.Str).cps.toList), .str (("if" : PySem.Str).cps.toList), .str (("else" : PySem.Str).cps.toList), .str (("repeat" : PySem.Str).cps.toList), .str (("each" : PySem.Str).cps.toList), .str (("in" : PySem.Str).cps.toList), .str (("by" : PySem.Str).cps.toList), .str (("from" : PySem.Str).cps.toList), .str (("to" : PySem.Str).cps.toList), .str (("where" : PySem.Str).cps.toList), .str (("answer" : PySem.Str).cps.toList), .str (("give" : PySem.Str).cps.toList), .str (("up" : PySem.Str).cps.toList), .str (("sum" : PySem.Str).cps.toList), .str (("count" : PySem.Str).cps.toList), .str (("of" : PySem.Str).cps.toList), .str (("has" : PySem.Str).cps.toList), .str (("and" : PySem.Str).cps.toList), .str (("or" : PySem.Str).cps.toList), .str (("not" : PySem.Str).cps.toList), .str (("deed" : PySem.Str).cps.toList), .str (("table" : PySem.Str).cps.toList), .str (("index" : PySem.Str).cps.toList)]
def tup_DOUBLES : List SV := [.str (("<=" : PySem.Str).cps.toList), .str ((">=" : PySem.Str).cps.toList), .str (("<>" : PySem.Str).cps.toList)]
def tup_STARTS : List SV := [.str (("let" : PySem.Str).cps.toList), .str (("NAME" : PySem.Str).cps.toList), .str (("put" : PySem.Str).cps.toList), .str (("drop" : PySem.Str).cps.toList), .str (("answer" : PySem.Str).cps.toList), .str (("give" : PySem.Str).cps.toList), .str (("if" : PySem.Str).cps.toList), .str (("repeat" : PySem.Str).cps.toList), .str (("each" : PySem.Str).cps.toList)]
def fb__law_pot : FS := fSeq (fSet 2 (fOp gAdd (fOp gAdd (fOp gMulU (fC (.int 839)) (fVar 1)) (fC (.int 431))) (fOp gMod (fCa gInt (faC (fCa gAbs (faC (fCa gSum (faC (fFz (fSl gSl (fVar 0) (foN) (foS (fC (.int 1))))) (faN))) (faN))) (faN))) (fC (.int 1000003))))) (fSeq (fSet 3 (fIf (fTst (fOp gLtU (fVar 1) (fCa gLen (faC (fVar 0) (faN))))) (fCa gAbs (faC (fOp gIx (fVar 0) (fVar 1)) (faN))) (fVar 2))) (fRet (fLst (faC (fCa gMax (faC (fC (.int 0)) (faC (fOp gSub (fVar 3) (fOp gPow (fC (.int 10)) (fC (.int 18)))) (faN)))) (faC (fOp gAdd (fOp gMod (fCa gInt (faC (fOp gAdd (fOp gAdd (fOp gMulU (fOp gMod (fCa gInt (faC (fVar 3) (faN))) (fC (.int 2147483579))) (fC (.int 40127))) (fOp gMulU (fC (.int 6329)) (fVar 1))) (fC (.int 431))) (faN))) (fC (.int 2147483563))) (fC (.int 1))) (faN))))))
def fe__law_pot : FF := fBody 4 fb__law_pot
def fb__law_same (r : Nat → FF) : FS := fSeq (fIfS (fTst (fOp (gIsN false) (fVar 1) (fC .non))) (fRet (fOp (gIsN false) (fVar 0) (fC .non))) (fNx)) (fSeq (fIfS (fTru (fCa gIsi1 (faC (fVar 1) (faC (fC (.ty .bool)) (faN))))) (fRet (fAnd (fCa gIsi1 (faC (fVar 0) (faC (fC (.ty .bool)) (faN)))) (fOp (gEq false) (fVar 0) (fVar 1)))) (fNx)) (fSeq (fIfS (fTru (fCa gIsi1 (faC (fVar 1) (faC (fC (.ty .str)) (faN))))) (fRet (fAnd (fCa gIsi1 (faC (fVar 0) (faC (fC (.ty .str)) (faN)))) (fOp (gEq false) (fVar 0) (fVar 1)))) (fNx)) (fSeq (fIfS (fTru (fCa gIsi1 (faC (fVar 1) (faC (fC (.ty .int)) (faN))))) (fRet (fAnd (fCa gIsi1 (faC (fVar 0) (faC (fC (.ty .int)) (faN)))) (fAnd (fNot (fCa gIsi1 (faC (fVar 0) (faC (fC (.ty .bool)) (faN))))) (fOp (gEq false) (fVar 0) (fVar 1))))) (fNx)) (fSeq (fIfS (fTru (fCa gIsi1 (faC (fVar 1) (faC (fC (.ty .tuple)) (faN))))) (fSeq (fIfS (fOrT (fNotT (fTru (fCa gIsi1 (faC (fVar 0) (faC (fC (.ty .tuple)) (faN)))))) (fTst (fOp (gEq true) (fCa gLen (faC (fVar 0) (faN))) (fCa gLen (faC (fVar 1) (faN)))))) (fRet (fC (.bl false))) (fNx)) (fRet (fCa gAll (faC (fFz (fLc (fiZip (faC (fVar 0) (faC (fVar 1) (faN)))) (gtTup 2 (gtCons (gtName 2) (gtCons (gtName 3) (gtNil)))) (fun _ h => .ok true h) (fCall 2 (r 0) (faC (fVar 2) (faC (fVar 3) (faN)))) [2, 3])) (faN))))) (fNx)) (fSeq (fIfS (fTru (fCa gIsi1 (faC (fVar 1) (faC (fC (.ty .list)) (faN))))) (fSeq (fIfS (fOrT (fNotT (fTru (fCa gIsi1 (faC (fVar 0) (faC (fC (.ty .list)) (faN)))))) (fTst (fOp (gEq true) (fCa gLen (faC (fVar 0) (faN))) (fCa gLen (faC (fVar 1) (faN)))))) (fRet (fC (.bl false))) (fNx)) (fRet (fCa gAll (faC (fFz (fLc (fiZip (faC (fVar 0) (faC (fVar 1) (faN)))) (gtTup 2 (gtCons (gtName 2) (gtCons (gtName 3) (gtNil)))) (fun _ h => .ok true h) (fCall 2 (r 0) (faC (fVar 2) (faC (fVar 3) (faN)))) [2, 3])) (faN))))) (fNx)) (fRet (fOp (gEq false) (fVar 0) (fVar 1))))))))
def rc__law_same : Nat → Nat → FF
  | 0 => fun _ _ _ => .bad
  | k + 1 => fun j => match j with
    | 0 => fBody 4 (fb__law_same (rc__law_same k))
    | _ => fun _ _ => .bad
def fe__law_same : FF := rc__law_same 12 0
def fb_check_text : FS := fIfS (fNotT (fTru (fCa gIsi1 (faC (fVar 0) (faC (fC (.ty .str)) (faN)))))) (fNever) (fNx)
def fe_check_text : FF := fBody 1 fb_check_text
def fb_places_of : FS := fSeq (fPar3 1 2 3 (faC (fLst (faN)) (faC (fC (.int 1)) (faC (fC (.int 1)) (faN))))) (fSeq (fFor (fiAny (fVar 0)) (gtName 4) (fSeq (fDrop (fMt "list" gAppend (fVar 1) (faC (fTup (faC (fVar 2) (faC (fVar 3) (faN)))) (faN)))) (fAsg (fIf (fTst (fOp (gEq false) (fVar 4) (fC (.str (("\n" : PySem.Str).cps.toList))))) (fTup (faC (fOp gAdd (fVar 2) (fC (.int 1))) (faC (fC (.int 1)) (faN)))) (fTup (faC (fVar 2) (faC (fOp gAdd (fVar 3) (fC (.int 1))) (faN))))) (gtTup 2 (gtCons (gtName 2) (gtCons (gtName 3) (gtNil))))))) (fRet (fFz (fOp gAdd (fVar 1) (fFz (fLst (faC (fTup (faC (fVar 2) (faC (fVar 3) (faN)))) (faN))))))))
def fe_places_of : FF := fBody 5 fb_places_of
def fb_stretch_from : FS := fSeq (fSet 3 (fVar 1)) (fSeq (fWhile (fAndT (fTst (fOp gLtU (fVar 3) (fCa gLen (faC (fVar 0) (faN))))) (fTst (fOp (gInD false) (fOp gIx (fVar 0) (fVar 3)) (fVar 2)))) (fAug 3 gAddI (fC (.int 1)))) (fRet (fSl gSl (fVar 0) (foS (fVar 1)) (foS (fVar 3)))))
def fe_stretch_from : FF := fBody 4 fb_stretch_from
def fb_token_from : FS := fSeq (fIfS (fTst (fOp (gInD false) (fOp gIx (fVar 0) (fVar 1)) (fC (.str (("abcdefghijklmnopqrstuvwxyz" : PySem.Str).cps.toList))))) (fRet (fCall 3 fe_stretch_from (faC (fVar 0) (faC (fVar 1) (faC (fC (.str (("abcdefghijklmnopqrstuvwxyz" : PySem.Str).cps.toList))) (faN)))))) (fNx)) (fSeq (fIfS (fTst (fOp (gInD false) (fOp gIx (fVar 0) (fVar 1)) (fC (.str (("0123456789" : PySem.Str).cps.toList))))) (fRet (fCall 3 fe_stretch_from (faC (fVar 0) (faC (fVar 1) (faC (fC (.str (("0123456789" : PySem.Str).cps.toList))) (faN)))))) (fNx)) (fRet (fIf (fTst (fOp (gInD false) (fSl gSl (fVar 0) (foS (fVar 1)) (foS (fOp gAdd (fVar 1) (fC (.int 2))))) (fC (.tup tup_DOUBLES)))) (fSl gSl (fVar 0) (foS (fVar 1)) (foS (fOp gAdd (fVar 1) (fC (.int 2))))) (fOp gIx (fVar 0) (fVar 1)))))
def fe_token_from : FF := fBody 2 fb_token_from
def fb_is_lettered : FS := fRet (fOr (fOp (gInD false) (fOp gIx (fVar 0) (fC (.int 0))) (fC (.str (("abcdefghijklmnopqrstuvwxyz" : PySem.Str).cps.toList)))) (fOp (gInD false) (fOp gIx (fVar 0) (fC (.int 0))) (fC (.str (("0123456789" : PySem.Str).cps.toList)))))
def fe_is_lettered : FF := fBody 1 fb_is_lettered
def fb_wrong_with : FS := fSeq (fSet 2 (fLst (faN))) (fSeq (fIfS (fAndT (fNotT (fTru (fCall 1 fe_is_lettered (faC (fVar 0) (faN))))) (fTst (fOp (gInD true) (fOp gIx (fVar 0) (fC (.int 0))) (fC (.str (("{}()[],;=<>+-*." : PySem.Str).cps.toList)))))) (fDrop (fMt "list" gAppend (fVar 2) (faC (fC (.str (("sign" : PySem.Str).cps.toList))) (faN)))) (fNx)) (fSeq (fIfS (fAndT (fTst (fOp (gInD false) (fOp gIx (fVar 0) (fC (.int 0))) (fC (.str (("0123456789" : PySem.Str).cps.toList))))) (fOrT (fTst (fOp gGtU (fCa gLen (faC (fVar 0) (faN))) (fC (.int 12)))) (fAndT (fTst (fOp (gEq false) (fOp gIx (fVar 0) (fC (.int 0))) (fC (.str (("0" : PySem.Str).cps.toList))))) (fTst (fOp (gEq true) (fVar 0) (fC (.str (("0" : PySem.Str).cps.toList)))))))) (fDrop (fMt "list" gAppend (fVar 2) (faC (fC (.str (("numeral" : PySem.Str).cps.toList))) (faN)))) (fNx)) (fSeq (fSet 3 (fAnd (fOp (gIsN true) (fVar 1) (fC .non)) (fAnd (fCall 1 fe_is_lettered (faC (fVar 1) (faN))) (fCall 1 fe_is_lettered (faC (fVar 0) (faN)))))) (fSeq (fIfS (fOrT (fAndT (fTst (fOp (gInD false) (fOp gIx (fVar 0) (fC (.int 0))) (fC (.str (("abcdefghijklmnopqrstuvwxyz" : PySem.Str).cps.toList))))) (fTst (fOp gGtU (fCa gLen (faC (fVar 0) (faN))) (fC (.int 8))))) (fTru (fVar 3))) (fDrop (fMt "list" gAppend (fVar 2) (faC (fC (.str (("word" : PySem.Str).cps.toList))) (faN)))) (fNx)) (fRet (fVar 2))))))
def fe_wrong_with : FF := fBody 4 fb_wrong_with
def fb_tokens_by : FS := fSeq (fPar3 1 2 3 (faC (fLst (faN)) (faC (fC (.int 0)) (faC (fC .non) (faN))))) (fSeq (fWhile (fTst (fOp gLtU (fVar 2) (fCa gLen (faC (fVar 0) (faN))))) (fIfS (fTst (fOp (gInD false) (fOp gIx (fVar 0) (fVar 2)) (fC (.str ((" \n" : PySem.Str).cps.toList))))) (fPar 2 3 (faC (fOp gAdd (fVar 2) (fC (.int 1))) (faC (fC .non) (faN)))) (fSeq (fSet 4 (fCall 2 fe_token_from (faC (fVar 0) (faC (fVar 2) (faN))))) (fSeq (fSet 5 (fFz (fCall 2 fe_wrong_with (faC (fVar 4) (faC (fVar 3) (faN)))))) (fSeq (fIfS (fTst (fOp (gEq true) (fVar 5) (fFz (fLst (faN))))) (fRet (fTup (faC (fVar 1) (faC (fVar 2) (faC (fOp gIx (fVar 5) (fC (.int 0))) (faN)))))) (fNx)) (fSeq (fDrop (fMt "list" gAppend (fVar 1) (faC (fTup (faC (fVar 4) (faC (fVar 2) (faN)))) (faN)))) (fPar 2 3 (faC (fOp gAdd (fVar 2) (fCa gLen (faC (fVar 4) (faN)))) (faC (fVar 4) (faN)))))))))) (fRet (fTup (faC (fVar 1) (faC (fVar 2) (faC (fC .non) (faN)))))))
def fe_tokens_by : FF := fBody 6 fb_tokens_by
def fb_read_signs : FS := fSeq (fSet 1 (fFz (fCall 1 fe_places_of (faC (fVar 0) (faN))))) (fSeq (fAsg (fFz (fCall 1 fe_tokens_by (faC (fVar 0) (faN)))) (gtTup 3 (gtCons (gtName 2) (gtCons (gtName 3) (gtCons (gtName 4) (gtNil)))))) (fSeq (fIfS (fAndT (fTst (fOp gGtU (fCa gLen (faC (fVar 0) (faN))) (fC (.int 4000)))) (fOrT (fTst (fOp (gIsN false) (fVar 4) (fC .non))) (fTst (fOp gGtU (fVar 3) (fC (.int 4000)))))) (fAsg (fTup (faC (fC (.int 4000)) (faC (fC (.str (("long" : PySem.Str).cps.toList))) (faN)))) (gtTup 2 (gtCons (gtName 3) (gtCons (gtName 4) (gtNil))))) (fNx)) (fSeq (fSet 5 (fLc (fiAny (fVar 2)) (gtTup 2 (gtCons (gtName 6) (gtCons (gtName 7) (gtNil)))) (fOrT (fTst (fOp (gIsN false) (fVar 4) (fC .non))) (fTst (fOp gLtU (fVar 7) (fVar 3)))) (fTup (faC (fVar 6) (faC (fOp gIx (fVar 1) (fVar 7)) (faN)))) [6, 7])) (fRet (fTup (faC (fVar 5) (faC (fOp gIx (fVar 1) (fUn gNeg (fC (.int 1)))) (faC (fIf (fTst (fOp (gIsN true) (fVar 4) (fC .non))) (fOp gAdd (fTup (faC (fVar 4) (faN))) (fOp gIx (fVar 1) (fVar 3))) (fC .non)) (faN)))))))))
def fe_read_signs : FF := fBody 8 fb_read_signs
def fb_token_fault : FS := fSeq (fDrop (fCall 1 fe_check_text (faC (fVar 0) (faN)))) (fRet (fOp gIx (fFz (fCall 1 fe_read_signs (faC (fVar 0) (faN)))) (fC (.int 2))))
def fe_token_fault : FF := fBody 1 fb_token_fault
def fb_go_on : FS := fSeq (fAsg (fOp gIx (fDIx (fVar 0) (fC (.str (("tokens" : PySem.Str).cps.toList)))) (fDIx (fVar 0) (fC (.str (("at" : PySem.Str).cps.toList))))) (gtTup 2 (gtCons (gtName 1) (gtCons (gtName 2) (gtNil))))) (fSeq (fDAug (· + ·) (fVar 0) (fC (.str (("at" : PySem.Str).cps.toList))) (fC (.int 1))) (fSeq (fDPut (fVar 0) (fC (.str (("wanted" : PySem.Str).cps.toList))) (fNewD)) (fRet (fTup (faC (fVar 1) (faC (fVar 2) (faN)))))))
def fe_go_on : FF := fBody 3 fb_go_on
def fb_kind_here : FS := fSeq (fSet 1 (fOp gIx (fOp gIx (fDIx (fVar 0) (fC (.str (("tokens" : PySem.Str).cps.toList)))) (fDIx (fVar 0) (fC (.str (("at" : PySem.Str).cps.toList))))) (fC (.int 0)))) (fSeq (fIfS (fTst (fOp (gEq false) (fVar 1) (fC (.str (("" : PySem.Str).cps.toList))))) (fRet (fC (.str (("END" : PySem.Str).cps.toList)))) (fNx)) (fSeq (fIfS (fTst (fOp (gInD false) (fOp gIx (fVar 1) (fC (.int 0))) (fC (.str (("0123456789" : PySem.Str).cps.toList))))) (fRet (fC (.str (("NUMERAL" : PySem.Str).cps.toList)))) (fNx)) (fRet (fIf (fAndT (fTst (fOp (gInD false) (fOp gIx (fVar 1) (fC (.int 0))) (fC (.str (("abcdefghijklmnopqrstuvwxyz" : PySem.Str).cps.toList))))) (fTst (fOp (gInD true) (fVar 1) (fC (.tup tup_CLOSED))))) (fC (.str (("NAME" : PySem.Str).cps.toList))) (fVar 1)))))
def fe_kind_here : FF := fBody 2 fb_kind_here
def fb_looks : FS := fSeq (fDrop (fMt "dict" gUpd (fDIx (fVar 0) (fC (.str (("wanted" : PySem.Str).cps.toList)))) (faC (fFz (fLc (fiAny (fVar 1)) (gtName 2) (fun _ h => .ok true h) (fTup (faC (fVar 2) (faC (fC (.bl true)) (faN)))) [2])) (faN)))) (fRet (fOp (gInD false) (fCall 1 fe_kind_here (faC (fVar 0) (faN))) (fVar 1)))
def fe_looks : FF := fBody 3 fb_looks
def fb_place_here : FS := fRet (fOp gIx (fOp gIx (fDIx (fVar 0) (fC (.str (("tokens" : PySem.Str).cps.toList)))) (fDIx (fVar 0) (fC (.str (("at" : PySem.Str).cps.toList))))) (fC (.int 1)))
def fe_place_here : FF := fBody 1 fb_place_here
def fb_stop : FS := fSeq (fAsg (fNX (fCall 1 fe_place_here (faC (fVar 0) (faN)))) (gtTup 2 (gtCons (gtName 2) (gtCons (gtName 3) (gtNil))))) (fRaise 0 "fault" (fTup (faC (fVar 1) (faC (fVar 2) (faC (fVar 3) (faN))))))
def fe_stop : FF := fBody 4 fb_stop
def fb_take : FS := fSeq (fIfS (fNXT (fNotT (fTru (fCall 2 fe_looks (faC (fVar 0) (faC (fTup (faC (fVar 1) (faN))) (faN))))))) (fDrop (fCall 2 fe_stop (faC (fVar 0) (faC (fC (.str (("syntax" : PySem.Str).cps.toList))) (faN))))) (fNx)) (fRet (fNX (fCall 1 fe_go_on (faC (fVar 0) (faN)))))
def fe_take : FF := fBody 2 fb_take
def fb_open_more : FS := fSeq (fIfS (fTst (fOp (gEq false) (fDIx (fVar 0) (fVar 1)) (fVar 2))) (fDrop (fCall 2 fe_stop (faC (fVar 0) (faC (fC (.str (("deep" : PySem.Str).cps.toList))) (faN))))) (fNx)) (fDAug (· + ·) (fVar 0) (fVar 1) (fC (.int 1)))
def fe_open_more : FF := fBody 3 fb_open_more
def fb_read_step : FS := fSeq (fIfS (fNXT (fNotT (fTru (fCall 2 fe_looks (faC (fVar 0) (faC (fC (.tup tup_STARTS)) (faN))))))) (fDrop (fCall 2 fe_stop (faC (fVar 0) (faC (fC (.str (("syntax" : PySem.Str).cps.toList))) (faN))))) (fNx)) (fSeq (fSet 1 (fNX (fCall 1 fe_kind_here (faC (fVar 0) (faN))))) (fSeq (fIfS (fAndT (fTst (fOp (gInD false) (fVar 1) (fTup (faC (fC (.str (("repeat" : PySem.Str).cps.toList))) (faC (fC (.str (("each" : PySem.Str).cps.toList))) (faN)))))) (fTst (fOp (gEq false) (fDIx (fVar 0) (fC (.str (("loops" : PySem.Str).cps.toList)))) (fC (.int 2))))) (fDrop (fCall 2 fe_stop (faC (fVar 0) (faC (fC (.str (("deep" : PySem.Str).cps.toList))) (faN))))) (fNx)) (fSeq (fIfS (fTst (fOp (gEq false) (fDIx (fVar 0) (fC (.str (("steps" : PySem.Str).cps.toList)))) (fC (.int 60)))) (fDrop (fCall 2 fe_stop (faC (fVar 0) (faC (fC (.str (("long" : PySem.Str).cps.toList))) (faN))))) (fNx)) (fSeq (fDAug (· + ·) (fVar 0) (fC (.str (("steps" : PySem.Str).cps.toList))) (fC (.int 1))) (fSeq (fIfS (fTst (fOp (gInD false) (fVar 1) (fTup (faC (fC (.str (("let" : PySem.Str).cps.toList))) (faC (fC (.str (("NAME" : PySem.Str).cps.toList))) (faN)))))) (fNever) (fNx)) (fSeq (fIfS (fTst (fOp (gInD false) (fVar 1) (fTup (faC (fC (.str (("drop" : PySem.Str).cps.toList))) (faC (fC (.str (("answer" : PySem.Str).cps.toList))) (faC (fC (.str (("give" : PySem.Str).cps.toList))) (faN))))))) (fNever) (fNx)) (fSeq (fIfS (fTst (fOp (gEq false) (fVar 1) (fC (.str (("put" : PySem.Str).cps.toList))))) (fNever) (fNx)) (fRet (fNX (fIf (fTst (fOp (gEq false) (fVar 1) (fC (.str (("if" : PySem.Str).cps.toList))))) (fBad) (fBad)))))))))))
def fe_read_step : FF := fBody 2 fb_read_step
def fb_read_block : FS := fSeq (fIfS (fNXT (fNotT (fTru (fCall 2 fe_looks (faC (fVar 0) (faC (fTup (faC (fC (.str (("{" : PySem.Str).cps.toList))) (faN))) (faN))))))) (fDrop (fCall 2 fe_stop (faC (fVar 0) (faC (fC (.str (("syntax" : PySem.Str).cps.toList))) (faN))))) (fNx)) (fSeq (fDrop (fCall 3 fe_open_more (faC (fVar 0) (faC (fC (.str (("blocks" : PySem.Str).cps.toList))) (faC (fC (.int 4)) (faN)))))) (fSeq (fDrop (fNX (fCall 1 fe_go_on (faC (fVar 0) (faN))))) (fSeq (fSet 1 (fLst (faN))) (fSeq (fWhile (fNXT (fNotT (fTru (fCall 2 fe_looks (faC (fVar 0) (faC (fTup (faC (fC (.str (("}" : PySem.Str).cps.toList))) (faN))) (faN))))))) (fDrop (fMt "list" gAppend (fVar 1) (faC (fCall 1 fe_read_step (faC (fVar 0) (faN))) (faN))))) (fSeq (fDrop (fNX (fCall 1 fe_go_on (faC (fVar 0) (faN))))) (fSeq (fDAug (· - ·) (fVar 0) (fC (.str (("blocks" : PySem.Str).cps.toList))) (fC (.int 1))) (fRet (fCa gTupOf (faC (fVar 1) (faN))))))))))
def fe_read_block : FF := fBody 2 fb_read_block
def fb_tree_by : FS := fSeq (fSet 1 (fOp gIx (fCall 2 fe_take (faC (fVar 0) (faC (fC (.str (("deed" : PySem.Str).cps.toList))) (faN)))) (fC (.int 1)))) (fSeq (fSet 2 (fOp gIx (fCall 2 fe_take (faC (fVar 0) (faC (fC (.str (("NAME" : PySem.Str).cps.toList))) (faN)))) (fC (.int 0)))) (fSeq (fDrop (fCall 2 fe_take (faC (fVar 0) (faC (fC (.str (("(" : PySem.Str).cps.toList))) (faN))))) (fSeq (fSet 3 (fNX (fIf (fNotT (fTru (fCall 2 fe_looks (faC (fVar 0) (faC (fTup (faC (fC (.str ((")" : PySem.Str).cps.toList))) (faN))) (faN)))))) (fBad) (fFz (fLst (faN)))))) (fSeq (fDrop (fCall 2 fe_take (faC (fVar 0) (faC (fC (.str ((")" : PySem.Str).cps.toList))) (faN))))) (fSeq (fSet 4 (fCall 1 fe_read_block (faC (fVar 0) (faN)))) (fSeq (fIfS (fNXT (fNotT (fTru (fCall 2 fe_looks (faC (fVar 0) (faC (fTup (faC (fC (.str (("END" : PySem.Str).cps.toList))) (faN))) (faN))))))) (fDrop (fCall 2 fe_stop (faC (fVar 0) (faC (fC (.str (("syntax" : PySem.Str).cps.toList))) (faN))))) (fNx)) (fRet (fTup (faC (fC (.str (("deed" : PySem.Str).cps.toList))) (faC (fVar 2) (faC (fCa gTupOf (faC (fFz (fLc (fiAny (fVar 3)) (gtTup 2 (gtCons (gtName 5) (gtCons (gtName 6) (gtNil)))) (fun _ h => .ok true h) (fVar 5) [5, 6])) (faN))) (faC (fVar 4) (faC (fVar 1) (faN))))))))))))))
def fe_tree_by : FF := fBody 7 fb_tree_by
def fb_reader_of : FS := fSeq (fAsg (fNX (fFz (fCall 1 fe_read_signs (faC (fVar 0) (faN))))) (gtTup 3 (gtCons (gtName 1) (gtCons (gtName 2) (gtCons (gtName 3) (gtNil)))))) (fSeq (fIfS (fTst (fOp (gIsN true) (fVar 3) (fC .non))) (fRaise 0 "fault" (fVar 3)) (fNx)) (fRet (fDisp ((fC (.str (("tokens" : PySem.Str).cps.toList)), fFz (fOp gAdd (fVar 1) (fFz (fLst (faC (fTup (faC (fC (.str (("" : PySem.Str).cps.toList))) (faC (fVar 2) (faN)))) (faN)))))) :: (fC (.str (("at" : PySem.Str).cps.toList)), fC (.int 0)) :: (fC (.str (("wanted" : PySem.Str).cps.toList)), fNewD) :: (fC (.str (("blocks" : PySem.Str).cps.toList)), fC (.int 0)) :: (fC (.str (("loops" : PySem.Str).cps.toList)), fC (.int 0)) :: (fC (.str (("steps" : PySem.Str).cps.toList)), fC (.int 0)) :: (fC (.str (("nested" : PySem.Str).cps.toList)), fC (.int 0)) :: (fC (.str (("between" : PySem.Str).cps.toList)), fC (.int 0)) :: []))))
def fe_reader_of : FF := fBody 4 fb_reader_of
def fb_tree_of : FS := fRet (fCall 1 fe_tree_by (faC (fCall 1 fe_reader_of (faC (fVar 0) (faN))) (faN)))
def fe_tree_of : FF := fBody 1 fb_tree_of
def fb_deed_fault : FS := fSeq (fDrop (fCall 1 fe_check_text (faC (fVar 0) (faN)))) (fSeq (fTryF 0 "fault" (fDrop (fCall 1 fe_tree_of (faC (fVar 0) (faN))))) (fRet (fC .non)))
def fe_deed_fault : FF := fBody 2 fb_deed_fault
def fb__law_letters : FS := fRet (fC (.str (("abcdefghijklmnopqrstuvwxyz" : PySem.Str).cps.toList)))
def fe__law_letters : FF := fBody 0 fb__law_letters
def fb__law_digits : FS := fRet (fC (.str (("0123456789" : PySem.Str).cps.toList)))
def fe__law_digits : FF := fBody 0 fb__law_digits
def fb__law_end : FS := fSeq (fSet 2 (fIf (fTst (fOp (gInD false) (fOp gIx (fVar 0) (fVar 1)) (fCall 0 fe__law_letters faN))) (fCall 0 fe__law_letters faN) (fIf (fTst (fOp (gInD false) (fOp gIx (fVar 0) (fVar 1)) (fCall 0 fe__law_digits faN))) (fCall 0 fe__law_digits faN) (fC (.str (("" : PySem.Str).cps.toList)))))) (fSeq (fIfS (fTst (fOp (gEq false) (fVar 2) (fC (.str (("" : PySem.Str).cps.toList))))) (fRet (fIf (fTst (fOp (gInD false) (fSl gSl (fVar 0) (foS (fVar 1)) (foS (fOp gAdd (fVar 1) (fC (.int 2))))) (fTup (faC (fC (.str (("<=" : PySem.Str).cps.toList))) (faC (fC (.str ((">=" : PySem.Str).cps.toList))) (faC (fC (.str (("<>" : PySem.Str).cps.toList))) (faN))))))) (fOp gAdd (fVar 1) (fC (.int 2))) (fOp gAdd (fVar 1) (fC (.int 1))))) (fNx)) (fSeq (fSet 3 (fVar 1)) (fSeq (fWhile (fAndT (fTst (fOp gLtU (fVar 3) (fCa gLen (faC (fVar 0) (faN))))) (fTst (fOp (gInD false) (fOp gIx (fVar 0) (fVar 3)) (fVar 2)))) (fSet 3 (fOp gAdd (fVar 3) (fC (.int 1))))) (fRet (fVar 3)))))
def fe__law_end : FF := fBody 4 fb__law_end
def fb__law_place : FS := fRet (fTup (faC (fOp gAdd (fMt "str" gCountS (fSl gSl (fVar 0) (foN) (foS (fVar 1))) (faC (fC (.str (("\n" : PySem.Str).cps.toList))) (faN))) (fC (.int 1))) (faC (fOp gSub (fVar 1) (fMt "str" gRfind (fSl gSl (fVar 0) (foN) (foS (fVar 1))) (faC (fC (.str (("\n" : PySem.Str).cps.toList))) (faN)))) (faN))))
def fe__law_place : FF := fBody 2 fb__law_place
def fb__law_signs : FS := fRet (fC (.str (("{}()[],;=<>+-*." : PySem.Str).cps.toList)))
def fe__law_signs : FF := fBody 0 fb__law_signs
def fb__law_lex : FS := fSeq (fPar3 1 2 3 (faC (fLst (faN)) (faC (fLst (faN)) (faC (fC (.int 0)) (faN))))) (fSeq (fWhile (fTst (fOp gLtU (fVar 3) (fCa gLen (faC (fVar 0) (faN))))) (fSeq (fPar 4 5 (faC (fCall 2 fe__law_end (faC (fVar 0) (faC (fVar 3) (faN)))) (faC (fCall 2 fe__law_place (faC (fVar 0) (faC (fVar 3) (faN)))) (faN)))) (fSeq (fPar 6 7 (faC (fSl gSl (fVar 0) (foS (fVar 3)) (foS (fVar 4))) (faC (fSl gSl (fVar 0) (foS (fOp gSub (fVar 3) (fC (.int 1)))) (foS (fVar 3))) (faN)))) (fSeq (fSet 8 (fAnd (fOp (gEq true) (fVar 7) (fC (.str (("" : PySem.Str).cps.toList)))) (fOr (fAnd (fOp (gInD false) (fOp gIx (fVar 6) (fC (.int 0))) (fCall 0 fe__law_letters faN)) (fOp (gInD false) (fVar 7) (fCall 0 fe__law_digits faN))) (fAnd (fOp (gInD false) (fOp gIx (fVar 6) (fC (.int 0))) (fCall 0 fe__law_digits faN)) (fOp (gInD false) (fVar 7) (fCall 0 fe__law_letters faN)))))) (fSeq (fIfS (fTst (fOp (gInD true) (fOp gIx (fVar 6) (fC (.int 0))) (fOp gAdd (fOp gAdd (fOp gAdd (fCall 0 fe__law_letters faN) (fCall 0 fe__law_digits faN)) (fCall 0 fe__law_signs faN)) (fC (.str ((" \n" : PySem.Str).cps.toList)))))) (fDrop (fMt "list" gAppend (fVar 2) (faC (fOp gAdd (fTup (faC (fC (.str (("sign" : PySem.Str).cps.toList))) (faN))) (fVar 5)) (faN)))) (fNx)) (fSeq (fIfS (fAndT (fTst (fOp (gInD false) (fOp gIx (fVar 6) (fC (.int 0))) (fCall 0 fe__law_digits faN))) (fOrT (fTst (fOp gGtU (fCa gLen (faC (fVar 6) (faN))) (fC (.int 12)))) (fAndT (fTst (fOp (gEq false) (fOp gIx (fVar 6) (fC (.int 0))) (fC (.str (("0" : PySem.Str).cps.toList))))) (fTst (fOp gGtU (fCa gLen (faC (fVar 6) (faN))) (fC (.int 1))))))) (fDrop (fMt "list" gAppend (fVar 2) (faC (fOp gAdd (fTup (faC (fC (.str (("numeral" : PySem.Str).cps.toList))) (faN))) (fVar 5)) (faN)))) (fNx)) (fSeq (fIfS (fOrT (fAndT (fTst (fOp (gInD false) (fOp gIx (fVar 6) (fC (.int 0))) (fCall 0 fe__law_letters faN))) (fTst (fOp gGtU (fCa gLen (faC (fVar 6) (faN))) (fC (.int 8))))) (fTru (fVar 8))) (fDrop (fMt "list" gAppend (fVar 2) (faC (fOp gAdd (fTup (faC (fC (.str (("word" : PySem.Str).cps.toList))) (faN))) (fVar 5)) (faN)))) (fNx)) (fSeq (fIfS (fTst (fOp (gInD false) (fOp gIx (fVar 6) (fC (.int 0))) (fOp gAdd (fOp gAdd (fCall 0 fe__law_letters faN) (fCall 0 fe__law_digits faN)) (fCall 0 fe__law_signs faN)))) (fDrop (fMt "list" gAppend (fVar 1) (faC (fTup (faC (fVar 6) (faC (fVar 5) (faN)))) (faN)))) (fNx)) (fSet 3 (fVar 4)))))))))) (fSeq (fIfS (fTst (fOp gGtU (fCa gLen (faC (fVar 0) (faN))) (fC (.int 4000)))) (fDrop (fMt "list" gAppend (fVar 2) (faC (fOp gAdd (fTup (faC (fC (.str (("long" : PySem.Str).cps.toList))) (faN))) (fCall 2 fe__law_place (faC (fVar 0) (faC (fC (.int 4000)) (faN))))) (faN)))) (fNx)) (fRet (fTup (faC (fVar 1) (faC (fVar 2) (faN)))))))
def fe__law_lex : FF := fBody 9 fb__law_lex
def fb__law_first : FS := fSeq (fSet 1 (fFz (fCa gSortQ (faC (fFz (fLc (fiAny (fVar 0)) (gtName 3) (fun _ h => .ok true h) (fSl gSl (fVar 3) (foS (fC (.int 1))) (foN)) [3])) (faN))))) (fSeq (fIfS (fTst (fOp (gEq false) (fVar 1) (fFz (fLst (faN))))) (fRet (fTup (faC (fC (.bl true)) (faC (fC .non) (faN))))) (fNx)) (fSeq (fSet 2 (fFz (fLc (fiAny (fVar 0)) (gtName 3) (fTst (fOp (gEq false) (fSl gSl (fVar 3) (foS (fC (.int 1))) (foN)) (fOp gIx (fVar 1) (fC (.int 0))))) (fVar 3) [3]))) (fRet (fTup (faC (fOp (gEq false) (fCa gLen (faC (fVar 2) (faN))) (fC (.int 1))) (faC (fOp gIx (fVar 2) (fC (.int 0))) (faN)))))))
def fe__law_first : FF := fBody 4 fb__law_first
def fb_tokens : FS := fSeq (fDrop (fCall 1 fe_check_text (faC (fVar 0) (faN)))) (fRet (fOp gIx (fCall 1 fe_read_signs (faC (fVar 0) (faN))) (fC (.int 0))))
def fe_tokens : FF := fBody 1 fb_tokens
def fb__law_draw : FS := fSeq (fIfS (fTst (fOp gGtU (fOp gIx (fVar 0) (fC (.int 0))) (fC (.int 0)))) (fSeq (fSet 2 (fOp gMod (fCa gInt (faC (fOp gIx (fVar 0) (fC (.int 0))) (faN))) (fVar 1))) (fSeq (fAsg (fOp gDiv (fCa gInt (faC (fOp gIx (fVar 0) (fC (.int 0))) (faN))) (fVar 1)) (gtSub gSetL (fVar 0) (fC (.int 0)))) (fRet (fVar 2)))) (fNx)) (fSeq (fAsg (fOp gMod (fCa gInt (faC (fOp gAdd (fOp gMulU (fOp gIx (fVar 0) (fC (.int 1))) (fC (.int 40127))) (fC (.int 6329))) (faN))) (fC (.int 2147483587))) (gtSub gSetL (fVar 0) (fC (.int 1)))) (fRet (fOp gMod (fCa gInt (faC (fOp gDiv (fOp gMod (fCa gInt (faC (fOp gMulU (fOp gIx (fVar 0) (fC (.int 1))) (fOp gIx (fVar 0) (fC (.int 1)))) (faN))) (fC (.int 2147483549))) (fC (.int 23))) (faN))) (fVar 1))))
def fe__law_draw : FF := fBody 3 fb__law_draw
def fb__law_pick : FS := fRet (fOp gIx (fVar 1) (fCall 2 fe__law_draw (faC (fVar 0) (faC (fCa gLen (faC (fVar 1) (faN))) (faN)))))
def fe__law_pick : FF := fBody 2 fb__law_pick
def fb__law_piece : FS := fSeq (fSet 1 (fCall 2 fe__law_draw (faC (fVar 0) (faC (fC (.int 9)) (faN))))) (fSeq (fIfS (fTst (fOp gLtU (fVar 1) (fC (.int 2)))) (fRet (fCall 2 fe__law_pick (faC (fVar 0) (faC (fFz (fLst (faC (fC (.str (("a" : PySem.Str).cps.toList))) (faC (fC (.str (("deed" : PySem.Str).cps.toList))) (faC (fC (.str (("answer" : PySem.Str).cps.toList))) (faC (fC (.str (("abcdefgh" : PySem.Str).cps.toList))) (faC (fC (.str (("abcdefghi" : PySem.Str).cps.toList))) (faC (fC (.str (("up" : PySem.Str).cps.toList))) (faC (fC (.str (("x" : PySem.Str).cps.toList))) (faN)))))))))) (faN))))) (fNx)) (fSeq (fIfS (fTst (fOp gLtU (fVar 1) (fC (.int 4)))) (fRet (fCall 2 fe__law_pick (faC (fVar 0) (faC (fFz (fLst (faC (fC (.str (("0" : PySem.Str).cps.toList))) (faC (fC (.str (("7" : PySem.Str).cps.toList))) (faC (fC (.str (("42" : PySem.Str).cps.toList))) (faC (fC (.str (("123456789012" : PySem.Str).cps.toList))) (faC (fC (.str (("1234567890123" : PySem.Str).cps.toList))) (faC (fC (.str (("07" : PySem.Str).cps.toList))) (faC (fC (.str (("00" : PySem.Str).cps.toList))) (faN)))))))))) (faN))))) (fNx)) (fSeq (fIfS (fTst (fOp gLtU (fVar 1) (fC (.int 7)))) (fRet (fCall 2 fe__law_pick (faC (fVar 0) (faC (fFz (fLst (faC (fC (.str (("<=" : PySem.Str).cps.toList))) (faC (fC (.str ((">=" : PySem.Str).cps.toList))) (faC (fC (.str (("<>" : PySem.Str).cps.toList))) (faC (fC (.str (("<" : PySem.Str).cps.toList))) (faC (fC (.str ((">" : PySem.Str).cps.toList))) (faC (fC (.str (("=" : PySem.Str).cps.toList))) (faC (fC (.str (("(" : PySem.Str).cps.toList))) (faC (fC (.str ((")" : PySem.Str).cps.toList))) (faC (fC (.str (("[" : PySem.Str).cps.toList))) (faC (fC (.str (("]" : PySem.Str).cps.toList))) (faC (fC (.str (("{" : PySem.Str).cps.toList))) (faC (fC (.str (("}" : PySem.Str).cps.toList))) (faC (fC (.str (("," : PySem.Str).cps.toList))) (faC (fC (.str ((";" : PySem.Str).cps.toList))) (faC (fC (.str (("+" : PySem.Str).cps.toList))) (faC (fC (.str (("-" : PySem.Str).cps.toList))) (faC (fC (.str (("*" : PySem.Str).cps.toList))) (faC (fC (.str (("." : PySem.Str).cps.toList))) (faN))))))))))))))))))))) (faN))))) (fNx)) (fRet (fIf (fTst (fOp (gEq false) (fVar 1) (fC (.int 7)))) (fCall 2 fe__law_pick (faC (fVar 0) (faC (fFz (fLst (faC (fC (.str ((" " : PySem.Str).cps.toList))) (faC (fC (.str (("\n" : PySem.Str).cps.toList))) (faC (fC (.str (("  " : PySem.Str).cps.toList))) (faC (fC (.str ((" \n " : PySem.Str).cps.toList))) (faC (fC (.str (("?" : PySem.Str).cps.toList))) (faC (fC (.str (("A" : PySem.Str).cps.toList))) (faC (fC (.str (("_" : PySem.Str).cps.toList))) (faC (fC (.str (("!" : PySem.Str).cps.toList))) (faN))))))))))) (faN)))) (fC (.str ((" " : PySem.Str).cps.toList))))))))
def fe__law_piece : FF := fBody 2 fb__law_piece
def fb__law_right : FS := fSeq (fSet 2 (fMt "str" gJoin (fC (.str (("" : PySem.Str).cps.toList))) (faC (fFz (fLc (fiRng1 (faC (fCall 2 fe__law_draw (faC (fVar 0) (faC (fC (.int 16)) (faN)))) (faN))) (gtName 10) (fun _ h => .ok true h) (fCall 1 fe__law_piece (faC (fVar 0) (faN))) [10])) (faN)))) (fSeq (fIfS (fTst (fOp (gEq false) (fCall 2 fe__law_draw (faC (fVar 1) (faC (fC (.int 4)) (faN)))) (fC (.int 0)))) (fSeq (fSet 3 (fCall 2 fe__law_draw (faC (fVar 1) (faC (fOp gAdd (fCa gLen (faC (fVar 2) (faN))) (fC (.int 1))) (faN))))) (fSet 2 (fOp gAdd (fOp gAdd (fSl gSl (fVar 2) (foN) (foS (fVar 3))) (fCall 2 fe__law_pick (faC (fVar 1) (faC (fFz (fLst (faC (fC (.str (("<" : PySem.Str).cps.toList))) (faC (fC (.str (("=" : PySem.Str).cps.toList))) (faC (fC (.str (("0" : PySem.Str).cps.toList))) (faC (fC (.str (("9" : PySem.Str).cps.toList))) (faC (fC (.str (("z" : PySem.Str).cps.toList))) (faC (fC (.str (("#" : PySem.Str).cps.toList))) (faC (fC (.str (("\n" : PySem.Str).cps.toList))) (faN)))))))))) (faN))))) (fSl gSl (fVar 2) (foS (fVar 3)) (foN))))) (fNx)) (fSeq (fAsg (fFz (fCall 1 fe__law_lex (faC (fVar 2) (faN)))) (gtTup 2 (gtCons (gtName 4) (gtCons (gtName 5) (gtNil))))) (fSeq (fAsg (fCall 1 fe__law_first (faC (fVar 5) (faN))) (gtTup 2 (gtCons (gtName 6) (gtCons (gtName 7) (gtNil))))) (fSeq (fIfS (fNotT (fTru (fVar 6))) (fRet (fC (.bl true))) (fNx)) (fSeq (fSet 8 (fFz (fLc (fiAny (fVar 4)) (gtName 11) (fOrT (fTst (fOp (gIsN false) (fVar 7) (fC .non))) (fTst (fOp gLtT (fOp gIx (fVar 11) (fC (.int 1))) (fSl gSl (fVar 7) (foS (fC (.int 1))) (foN))))) (fVar 11) [11]))) (fSeq (fSet 9 (fCall 1 fe_tokens (faC (fVar 2) (faN)))) (fSeq (fIfS (fNotT (fTru (fCall 2 fe__law_same (faC (fFz (fLst (faC (fVar 9) (faC (fFz (fCallK 0 1 1 fe_tokens faN (faC (fVar 2) (faN)))) (faC (fCall 1 fe_token_fault (faC (fVar 2) (faN))) (faC (fCallK 0 1 1 fe_token_fault faN (faC (fVar 2) (faN))) (faN))))))) (faC (fFz (fLst (faC (fVar 8) (faC (fVar 8) (faC (fVar 7) (faC (fVar 7) (faN))))))) (faN)))))) (fRet (fC (.bl false))) (fNx)) (fSeq (fDrop (fMt "list" gAppend (fVar 9) (faC (fC .non) (faN)))) (fRet (fAnd (fOp (gEq false) (fFz (fCall 1 fe_tokens (faC (fVar 2) (faN)))) (fVar 8)) (fOr (fOp (gIsN false) (fVar 7) (fC .non)) (fOp (gEq false) (fCall 1 fe_deed_fault (faC (fVar 2) (faN))) (fVar 7)))))))))))))
def fe__law_right : FF := fBody 12 fb__law_right
def fb_law : FS := fSeq (fAsg (fTup (faC (fCall 2 fe__law_pot (faC (fVar 0) (faC (fC (.int 0)) (faN)))) (faC (fCall 2 fe__law_pot (faC (fVar 0) (faC (fC (.int 1)) (faN)))) (faN)))) (gtTup 2 (gtCons (gtName 1) (gtCons (gtName 2) (gtNil))))) (fSeq (fSet 3 (fOp gAdd (fC (.str (("deed a() { " : PySem.Str).cps.toList))) (fOp gMulS (fC (.str (("up " : PySem.Str).cps.toList))) (fC (.int 1328))))) (fSeq (fSet 4 (fOp gAdd (fVar 3) (fOp gMulS (fC (.str (("x" : PySem.Str).cps.toList))) (fOp gSub (fC (.int 4001)) (fCa gLen (faC (fVar 3) (faN))))))) (fSeq (fIfS (fNotT (fTru (fCall 2 fe__law_same (faC (fFz (fLst (faC (fCall 1 fe_token_fault (faC (fVar 4) (faN))) (faC (fCall 1 fe_deed_fault (faC (fVar 4) (faN))) (faC (fCall 1 fe_deed_fault (faC (fSl gSl (fVar 4) (foN) (foS (fC (.int 4000)))) (faN))) (faN)))))) (faC (fFz (fLst (faC (fTup (faC (fC (.str (("long" : PySem.Str).cps.toList))) (faC (fC (.int 1)) (faC (fC (.int 4001)) (faN))))) (faC (fTup (faC (fC (.str (("long" : PySem.Str).cps.toList))) (faC (fC (.int 1)) (faC (fC (.int 4001)) (faN))))) (faC (fTup (faC (fC (.str (("syntax" : PySem.Str).cps.toList))) (faC (fC (.int 1)) (faC (fC (.int 12)) (faN))))) (faN)))))) (faN)))))) (fRet (fC (.bl false))) (fNx)) (fRet (fAnd (fOp (gIsN false) (fCall 1 fe_token_fault (faC (fSl gSl (fVar 4) (foN) (foS (fC (.int 4000)))) (faN))) (fC .non)) (fCa gAll (faC (fFz (fLc (fiRng1 (faC (fC (.int 10)) (faN))) (gtName 5) (fun _ h => .ok true h) (fCall 2 fe__law_right (faC (fVar 1) (faC (fVar 2) (faN)))) [5])) (faN))))))))
def fe_law : FF := fBody 6 fb_law
end K11
namespace K11
open PySem PySem.Spec PyProof.Rows L2 Fv
def top (i : Nat) : Stmt := PySem.Challenge.pw_oneafter_k11_whole_tokens_and_what_is_wr.main.body.getD i (.Pass ⟨0, 0, 0, 0⟩)
abbrev s__law_pot : Stmt := top 69
def d__law_pot : He.DefD := ⟨("_law_pot", none), "_law_pot", "_law_pot", defArgs s__law_pot, defBody s__law_pot, defScope s__law_pot, [], []⟩
abbrev s__law_same : Stmt := top 72
def d__law_same : He.DefD := ⟨("_law_same", none), "_law_same", "_law_same", defArgs s__law_same, defBody s__law_same, defScope s__law_same, [], []⟩
abbrev s_check_text : Stmt := top 21
def d_check_text : He.DefD := ⟨("check_text", none), "check_text", "check_text", defArgs s_check_text, defBody s_check_text, defScope s_check_text, [], []⟩
abbrev s_places_of : Stmt := top 14
def d_places_of : He.DefD := ⟨("places_of", none), "places_of", "places_of", defArgs s_places_of, defBody s_places_of, defScope s_places_of, [], []⟩
abbrev s_stretch_from : Stmt := top 15
def d_stretch_from : He.DefD := ⟨("stretch_from", none), "stretch_from", "stretch_from", defArgs s_stretch_from, defBody s_stretch_from, defScope s_stretch_from, [], []⟩
abbrev s_token_from : Stmt := top 16
def d_token_from : He.DefD := ⟨("token_from", none), "token_from", "token_from", defArgs s_token_from, defBody s_token_from, defScope s_token_from, [], []⟩
abbrev s_is_lettered : Stmt := top 17
def d_is_lettered : He.DefD := ⟨("is_lettered", none), "is_lettered", "is_lettered", defArgs s_is_lettered, defBody s_is_lettered, defScope s_is_lettered, [], []⟩
abbrev s_wrong_with : Stmt := top 18
def d_wrong_with : He.DefD := ⟨("wrong_with", none), "wrong_with", "wrong_with", defArgs s_wrong_with, defBody s_wrong_with, defScope s_wrong_with, [], []⟩
abbrev s_tokens_by : Stmt := top 19
def d_tokens_by : He.DefD := ⟨("tokens_by", none), "tokens_by", "tokens_by", defArgs s_tokens_by, defBody s_tokens_by, defScope s_tokens_by, [], []⟩
abbrev s_read_signs : Stmt := top 20
def d_read_signs : He.DefD := ⟨("read_signs", none), "read_signs", "read_signs", defArgs s_read_signs, defBody s_read_signs, defScope s_read_signs, [], []⟩
abbrev s_token_fault : Stmt := top 23
def d_token_fault : He.DefD := ⟨("token_fault", none), "token_fault", "token_fault", defArgs s_token_fault, defBody s_token_fault, defScope s_token_fault, [], []⟩
abbrev s_go_on : Stmt := top 34
def d_go_on : He.DefD := ⟨("go_on", none), "go_on", "go_on", defArgs s_go_on, defBody s_go_on, defScope s_go_on, [], []⟩
abbrev s_kind_here : Stmt := top 30
def d_kind_here : He.DefD := ⟨("kind_here", none), "kind_here", "kind_here", defArgs s_kind_here, defBody s_kind_here, defScope s_kind_here, [], []⟩
abbrev s_looks : Stmt := top 32
def d_looks : He.DefD := ⟨("looks", none), "looks", "looks", defArgs s_looks, defBody s_looks, defScope s_looks, [], []⟩
abbrev s_place_here : Stmt := top 31
def d_place_here : He.DefD := ⟨("place_here", none), "place_here", "place_here", defArgs s_place_here, defBody s_place_here, defScope s_place_here, [], []⟩
abbrev s_stop : Stmt := top 33
def d_stop : He.DefD := ⟨("stop", none), "stop", "stop", defArgs s_stop, defBody s_stop, defScope s_stop, [], []⟩
abbrev s_take : Stmt := top 35
def d_take : He.DefD := ⟨("take", none), "take", "take", defArgs s_take, defBody s_take, defScope s_take, [], []⟩
abbrev s_open_more : Stmt := top 36
def d_open_more : He.DefD := ⟨("open_more", none), "open_more", "open_more", defArgs s_open_more, defBody s_open_more, defScope s_open_more, [], []⟩
abbrev s_read_step : Stmt := top 62
def d_read_step : He.DefD := ⟨("read_step", none), "read_step", "read_step", defArgs s_read_step, defBody s_read_step, defScope s_read_step, [], []⟩
abbrev s_read_block : Stmt := top 63
def d_read_block : He.DefD := ⟨("read_block", none), "read_block", "read_block", defArgs s_read_block, defBody s_read_block, defScope s_read_block, [], []⟩
abbrev s_tree_by : Stmt := top 65
def d_tree_by : He.DefD := ⟨("tree_by", none), "tree_by", "tree_by", defArgs s_tree_by, defBody s_tree_by, defScope s_tree_by, [], []⟩
abbrev s_reader_of : Stmt := top 29
def d_reader_of : He.DefD := ⟨("reader_of", none), "reader_of", "reader_of", defArgs s_reader_of, defBody s_reader_of, defScope s_reader_of, [], []⟩
abbrev s_tree_of : Stmt := top 66
def d_tree_of : He.DefD := ⟨("tree_of", none), "tree_of", "tree_of", defArgs s_tree_of, defBody s_tree_of, defScope s_tree_of, [], []⟩
abbrev s_deed_fault : Stmt := top 67
def d_deed_fault : He.DefD := ⟨("deed_fault", none), "deed_fault", "deed_fault", defArgs s_deed_fault, defBody s_deed_fault, defScope s_deed_fault, [], []⟩
abbrev s__law_letters : Stmt := top 73
def d__law_letters : He.DefD := ⟨("_law_letters", none), "_law_letters", "_law_letters", defArgs s__law_letters, defBody s__law_letters, defScope s__law_letters, [], []⟩
abbrev s__law_digits : Stmt := top 74
def d__law_digits : He.DefD := ⟨("_law_digits", none), "_law_digits", "_law_digits", defArgs s__law_digits, defBody s__law_digits, defScope s__law_digits, [], []⟩
abbrev s__law_end : Stmt := top 77
def d__law_end : He.DefD := ⟨("_law_end", none), "_law_end", "_law_end", defArgs s__law_end, defBody s__law_end, defScope s__law_end, [], []⟩
abbrev s__law_place : Stmt := top 76
def d__law_place : He.DefD := ⟨("_law_place", none), "_law_place", "_law_place", defArgs s__law_place, defBody s__law_place, defScope s__law_place, [], []⟩
abbrev s__law_signs : Stmt := top 75
def d__law_signs : He.DefD := ⟨("_law_signs", none), "_law_signs", "_law_signs", defArgs s__law_signs, defBody s__law_signs, defScope s__law_signs, [], []⟩
abbrev s__law_lex : Stmt := top 78
def d__law_lex : He.DefD := ⟨("_law_lex", none), "_law_lex", "_law_lex", defArgs s__law_lex, defBody s__law_lex, defScope s__law_lex, [], []⟩
abbrev s__law_first : Stmt := top 80
def d__law_first : He.DefD := ⟨("_law_first", none), "_law_first", "_law_first", defArgs s__law_first, defBody s__law_first, defScope s__law_first, [], []⟩
abbrev s_tokens : Stmt := top 22
def d_tokens : He.DefD := ⟨("tokens", none), "tokens", "tokens", defArgs s_tokens, defBody s_tokens, defScope s_tokens, [], []⟩
abbrev s__law_draw : Stmt := top 70
def d__law_draw : He.DefD := ⟨("_law_draw", none), "_law_draw", "_law_draw", defArgs s__law_draw, defBody s__law_draw, defScope s__law_draw, [], []⟩
abbrev s__law_pick : Stmt := top 71
def d__law_pick : He.DefD := ⟨("_law_pick", none), "_law_pick", "_law_pick", defArgs s__law_pick, defBody s__law_pick, defScope s__law_pick, [], []⟩
abbrev s__law_piece : Stmt := top 79
def d__law_piece : He.DefD := ⟨("_law_piece", none), "_law_piece", "_law_piece", defArgs s__law_piece, defBody s__law_piece, defScope s__law_piece, [], []⟩
abbrev s__law_right : Stmt := top 81
def d__law_right : He.DefD := ⟨("_law_right", none), "_law_right", "_law_right", defArgs s__law_right, defBody s__law_right, defScope s__law_right, [], []⟩
abbrev s_law : Stmt := top 82
def d_law : He.DefD := ⟨("law", none), "law", "law", defArgs s_law, defBody s_law, defScope s_law, [], []⟩
abbrev si_BadDeed : Stmt := inClass (top 6) 0
def di_BadDeed : He.DefD := ⟨("BadDeed", some "__init__"), "__init__", "BadDeed.__init__", defArgs si_BadDeed, defBody si_BadDeed, defScope si_BadDeed, [], []⟩
def fnL : List He.DefD := [d__law_pot, d__law_same, d_check_text, d_places_of, d_stretch_from, d_token_from, d_is_lettered, d_wrong_with, d_tokens_by, d_read_signs, d_token_fault, d_go_on, d_kind_here, d_looks, d_place_here, d_stop, d_take, d_open_more, d_read_step, d_read_block, d_tree_by, d_reader_of, d_tree_of, d_deed_fault, d__law_letters, d__law_digits, d__law_end, d__law_place, d__law_signs, d__law_lex, d__law_first, d_tokens, d__law_draw, d__law_pick, d__law_piece, d__law_right, d_law, di_BadDeed]
def cl (K : PySem.W.Frag) : Nat → Option Addr := fun n => if n = 0 then some (He.ga K "BadDeed") else none
theorem cl_BadDeed (K : PySem.W.Frag) : cl K 0 = some (He.ga K "BadDeed") := rfl
def faL : List He.Fa := [.free "sum", .free "abs", .free "int", .free "len", .free "max", .free "bool", .free "isinstance", .free "str", .free "tuple", .free "zip", .free "all", .free "list", .str "LETTERS" "abcdefghijklmnopqrstuvwxyz", .str "DIGITS" "0123456789", .glo "DOUBLES", .str "SIGNS" "{}()[],;=<>+-*.", .int "MOST_DIGITS" 12, .int "MOST_LETTERS" 8, .str "BLANKS" " \n", .int "MOST_SIGNS" 4000, .glo "CLOSED", .glo "STARTS", .int "MOST_LOOPS" 2, .int "MOST_STEPS" 60, .int "MOST_BLOCKS" 4, .free "sorted", .free "range", .glo "_law_pot", .glo "_law_same", .glo "check_text", .glo "places_of", .glo "stretch_from", .glo "token_from", .glo "is_lettered", .glo "wrong_with", .glo "tokens_by", .glo "read_signs", .glo "token_fault", .glo "go_on", .glo "kind_here", .glo "looks", .glo "place_here", .glo "stop", .glo "take", .glo "open_more", .glo "read_step", .glo "read_block", .glo "tree_by", .glo "reader_of", .glo "tree_of", .glo "deed_fault", .glo "_law_letters", .glo "_law_digits", .glo "_law_end", .glo "_law_place", .glo "_law_signs", .glo "_law_lex", .glo "_law_first", .glo "tokens", .glo "_law_draw", .glo "_law_pick", .glo "_law_piece", .glo "_law_right", .glo "law", .glo "BadDeed"]
structure Tups (G : Gd) : Prop where
  mk ::
  CLOSED : Stat G (.tup tup_CLOSED) (.ref (He.ga G.K "CLOSED"))
  DOUBLES : Stat G (.tup tup_DOUBLES) (.ref (He.ga G.K "DOUBLES"))
  STARTS : Stat G (.tup tup_STARTS) (.ref (He.ga G.K "STARTS"))
  x_BadDeed : exB1 G.K "BadDeed" "fault" = true

abbrev WF0 : XK → XW := fun _ => WN
section
variable {P : Program} {w : World} {K : PySem.W.Frag} {mg : PySem.Str → Option Value} {base : Heap} {γ : Nat → Option Addr}
theorem kb_token_fault_0_text {f : Addr} {fd : FuncData} {kw : List (PySem.Str × V)} (F : FunD K "token_fault" "token_fault" (defArgs s_token_fault) (defBody s_token_fault) (defScope s_token_fault) [] kw f fd) : KBn K fd ["text"] 0 ["text"] (fun us ws => us ++ ws) (fun vs zs => vs ++ zs) :=
  FunD.kbA F 0 fun _ _ _ _ _ _ us ws h1 h2 => match us, ws, h1, h2 with | [], [_], _, _ => rfl
theorem kb_tokens_0_text {f : Addr} {fd : FuncData} {kw : List (PySem.Str × V)} (F : FunD K "tokens" "tokens" (defArgs s_tokens) (defBody s_tokens) (defScope s_tokens) [] kw f fd) : KBn K fd ["text"] 0 ["text"] (fun us ws => us ++ ws) (fun vs zs => vs ++ zs) :=
  FunD.kbA F 0 fun _ _ _ _ _ _ us ws h1 h2 => match us, ws, h1, h2 with | [], [_], _, _ => rfl
theorem sc__law_pot : FnScope ["script", "k", "spare", "cell"] ["script", "k"] (defScope s__law_pot) := ⟨rfl, rfl, rfl, by decide +kernel, rfl, by decide +kernel, by decide +kernel⟩
theorem sc__law_same : FnScope ["told", "due", "near", "far"] ["told", "due"] (defScope s__law_same) := ⟨rfl, rfl, rfl, by decide +kernel, rfl, by decide +kernel, by decide +kernel⟩
theorem sc_check_text : FnScope ["text"] ["text"] (defScope s_check_text) := ⟨rfl, rfl, rfl, by decide +kernel, rfl, by decide +kernel, by decide +kernel⟩
theorem sc_places_of : FnScope ["text", "found", "line", "column", "sign"] ["text"] (defScope s_places_of) := ⟨rfl, rfl, rfl, by decide +kernel, rfl, by decide +kernel, by decide +kernel⟩
theorem sc_stretch_from : FnScope ["text", "at", "signs", "end"] ["text", "at", "signs"] (defScope s_stretch_from) := ⟨rfl, rfl, rfl, by decide +kernel, rfl, by decide +kernel, by decide +kernel⟩
theorem sc_token_from : FnScope ["text", "at"] ["text", "at"] (defScope s_token_from) := ⟨rfl, rfl, rfl, by decide +kernel, rfl, by decide +kernel, by decide +kernel⟩
theorem sc_is_lettered : FnScope ["token"] ["token"] (defScope s_is_lettered) := ⟨rfl, rfl, rfl, by decide +kernel, rfl, by decide +kernel, by decide +kernel⟩
theorem sc_wrong_with : FnScope ["token", "before", "found", "beside"] ["token", "before"] (defScope s_wrong_with) := ⟨rfl, rfl, rfl, by decide +kernel, rfl, by decide +kernel, by decide +kernel⟩
theorem sc_tokens_by : FnScope ["text", "found", "at", "before", "token", "wrong"] ["text"] (defScope s_tokens_by) := ⟨rfl, rfl, rfl, by decide +kernel, rfl, by decide +kernel, by decide +kernel⟩
theorem sc_read_signs : FnScope ["text", "places", "some", "at", "word", "kept", "token", "start"] ["text"] (defScope s_read_signs) := ⟨rfl, rfl, rfl, by decide +kernel, rfl, by decide +kernel, by decide +kernel⟩
theorem sc_token_fault : FnScope ["text"] ["text"] (defScope s_token_fault) := ⟨rfl, rfl, rfl, by decide +kernel, rfl, by decide +kernel, by decide +kernel⟩
theorem sc_go_on : FnScope ["reader", "token", "place"] ["reader"] (defScope s_go_on) := ⟨rfl, rfl, rfl, by decide +kernel, rfl, by decide +kernel, by decide +kernel⟩
theorem sc_kind_here : FnScope ["reader", "token"] ["reader"] (defScope s_kind_here) := ⟨rfl, rfl, rfl, by decide +kernel, rfl, by decide +kernel, by decide +kernel⟩
theorem sc_looks : FnScope ["reader", "kinds", "kind"] ["reader", "kinds"] (defScope s_looks) := ⟨rfl, rfl, rfl, by decide +kernel, rfl, by decide +kernel, by decide +kernel⟩
theorem sc_place_here : FnScope ["reader"] ["reader"] (defScope s_place_here) := ⟨rfl, rfl, rfl, by decide +kernel, rfl, by decide +kernel, by decide +kernel⟩
theorem sc_stop : FnScope ["reader", "word", "line", "column"] ["reader", "word"] (defScope s_stop) := ⟨rfl, rfl, rfl, by decide +kernel, rfl, by decide +kernel, by decide +kernel⟩
theorem sc_take : FnScope ["reader", "kind"] ["reader", "kind"] (defScope s_take) := ⟨rfl, rfl, rfl, by decide +kernel, rfl, by decide +kernel, by decide +kernel⟩
theorem sc_open_more : FnScope ["reader", "what", "most"] ["reader", "what", "most"] (defScope s_open_more) := ⟨rfl, rfl, rfl, by decide +kernel, rfl, by decide +kernel, by decide +kernel⟩
theorem sc_read_step : FnScope ["reader", "word"] ["reader"] (defScope s_read_step) := ⟨rfl, rfl, rfl, by decide +kernel, rfl, by decide +kernel, by decide +kernel⟩
theorem sc_read_block : FnScope ["reader", "found"] ["reader"] (defScope s_read_block) := ⟨rfl, rfl, rfl, by decide +kernel, rfl, by decide +kernel, by decide +kernel⟩
theorem sc_tree_by : FnScope ["reader", "place", "name", "names", "block", "one", "at"] ["reader"] (defScope s_tree_by) := ⟨rfl, rfl, rfl, by decide +kernel, rfl, by decide +kernel, by decide +kernel⟩
theorem sc_reader_of : FnScope ["text", "some", "end", "fault"] ["text"] (defScope s_reader_of) := ⟨rfl, rfl, rfl, by decide +kernel, rfl, by decide +kernel, by decide +kernel⟩
theorem sc_tree_of : FnScope ["text"] ["text"] (defScope s_tree_of) := ⟨rfl, rfl, rfl, by decide +kernel, rfl, by decide +kernel, by decide +kernel⟩
theorem sc_deed_fault : FnScope ["text", "e"] ["text"] (defScope s_deed_fault) := ⟨rfl, rfl, rfl, by decide +kernel, rfl, by decide +kernel, by decide +kernel⟩
theorem sc__law_letters : FnScope [] [] (defScope s__law_letters) := ⟨rfl, rfl, rfl, by decide +kernel, rfl, by decide +kernel, by decide +kernel⟩
theorem sc__law_digits : FnScope [] [] (defScope s__law_digits) := ⟨rfl, rfl, rfl, by decide +kernel, rfl, by decide +kernel, by decide +kernel⟩
theorem sc__law_end : FnScope ["text", "at", "kind", "end"] ["text", "at"] (defScope s__law_end) := ⟨rfl, rfl, rfl, by decide +kernel, rfl, by decide +kernel, by decide +kernel⟩
theorem sc__law_place : FnScope ["text", "at"] ["text", "at"] (defScope s__law_place) := ⟨rfl, rfl, rfl, by decide +kernel, rfl, by decide +kernel, by decide +kernel⟩
theorem sc__law_signs : FnScope [] [] (defScope s__law_signs) := ⟨rfl, rfl, rfl, by decide +kernel, rfl, by decide +kernel, by decide +kernel⟩
theorem sc__law_lex : FnScope ["text", "found", "faults", "at", "end", "place", "word", "ahead", "side"] ["text"] (defScope s__law_lex) := ⟨rfl, rfl, rfl, by decide +kernel, rfl, by decide +kernel, by decide +kernel⟩
theorem sc__law_first : FnScope ["faults", "places", "some", "one"] ["faults"] (defScope s__law_first) := ⟨rfl, rfl, rfl, by decide +kernel, rfl, by decide +kernel, by decide +kernel⟩
theorem sc_tokens : FnScope ["text"] ["text"] (defScope s_tokens) := ⟨rfl, rfl, rfl, by decide +kernel, rfl, by decide +kernel, by decide +kernel⟩
theorem sc__law_draw : FnScope ["pot", "many", "digit"] ["pot", "many"] (defScope s__law_draw) := ⟨rfl, rfl, rfl, by decide +kernel, rfl, by decide +kernel, by decide +kernel⟩
theorem sc__law_pick : FnScope ["pot", "some"] ["pot", "some"] (defScope s__law_pick) := ⟨rfl, rfl, rfl, by decide +kernel, rfl, by decide +kernel, by decide +kernel⟩
theorem sc__law_piece : FnScope ["pot", "kind"] ["pot"] (defScope s__law_piece) := ⟨rfl, rfl, rfl, by decide +kernel, rfl, by decide +kernel, by decide +kernel⟩
theorem sc__law_right : FnScope ["pot", "late", "text", "at", "found", "faults", "asked", "fault", "due", "told", "step", "one"] ["pot", "late"] (defScope s__law_right) := ⟨rfl, rfl, rfl, by decide +kernel, rfl, by decide +kernel, by decide +kernel⟩
theorem sc_law : FnScope ["script", "pot", "late", "long", "text", "step"] ["script"] (defScope s_law) := ⟨rfl, rfl, rfl, by decide +kernel, rfl, by decide +kernel, by decide +kernel⟩
theorem sci_BadDeed : FnScope ["self", "fault"] ["self", "fault"] (defScope si_BadDeed) := ⟨rfl, rfl, rfl, by decide +kernel, rfl, by decide +kernel, by decide +kernel⟩
theorem init_BadDeed (T : Fx faL fnL K mg) : ∃ fd, FnOk P w K mg base CX0 1 (He.ma K (He.ga K "BadDeed") "__init__") fd ["self", "fault"] (spInit K "fault") ∧ Binds K fd ["self", "fault"] [] := by
  obtain ⟨fd, F⟩ := T.ok.def_ 37 (d := di_BadDeed) rfl
  exact ⟨fd, init_ok F sci_BadDeed, F.bindsN fun _ _ _ _ _ _ us hl => match us, hl with | [_, _], _ => rfl⟩
theorem exf_BadDeed (T : Fx faL fnL K mg) (TT : Tups ⟨K, γ⟩) : ExF K mg (He.ga K "BadDeed") (He.ma K (He.ga K "BadDeed") "__init__") "BadDeed" "fault" := exB1_ok TT.x_BadDeed (T.g 64)
theorem ok__law_pot (T : Fx faL fnL K mg) (TT : Tups ⟨K, γ⟩) : ∃ f fd, Cal P w K mg base CX0 1 "_law_pot" ["script", "k"] (spF ⟨K, γ⟩ WF0 2 (fe__law_pot)) (defArgs s__law_pot) (defBody s__law_pot) (defScope s__law_pot) f fd := by
  obtain ⟨fd, F⟩ := T.ok.def_ 0 (d := d__law_pot) rfl
  refine ⟨_, fd, F, T.g 27, F.bindsN fun _ _ _ _ _ _ us hl => match us, hl with | [_, _], _ => rfl, FunD.okE (fb := fb__law_pot) F sc__law_pot rfl rfl fun cdv A outer s H E hn hr => PSs.nox ?_⟩
  have S := sc__law_pot
  exact s_cons (s_setG (ps_set S.nd rfl (Or.inl rfl) (e_op op_addU og_add (e_op op_addU og_add (e_op op_mulU og_mulU (e_int) (e_var (pv 1))) (e_int)) (e_op op_mod og_mod (b_ty call_intU cg_intU (by rfl) (by rfl) (T.f 2) (a_cons (b_fn call_abs cg_abs boot_abs (by rfl) (T.f 1) (a_cons (b_fn (cr_sum rfl) cg_sum boot_sum (by rfl) (T.f 0) (a_cons (e_fz (e_slice sl_U sg_U (e_var (pv 0)) (o_none) (o_some (e_int)))) (a_nil))) (a_nil))) (a_nil))) (e_int))))) (s_cons (s_setG (ps_set S.nd rfl (Or.inl rfl) (e_if (t_cmp op_ltU og_relU (e_var (pv 1)) (b_fn call_lenU cg_len boot_len (by rfl) (T.f 3) (a_cons (e_var (pv 0)) (a_nil))) rfl) (b_fn call_abs cg_abs boot_abs (by rfl) (T.f 1) (a_cons (e_ix ix_seq og_ix (e_var (pv 0)) (e_var (pv 1)) (fun _ _ => rfl)) (a_nil))) (e_var (pv 2))))) (s_one (s_ret (e_lst (a_cons (b_fn (call_maxU rfl) cg_max boot_max (by rfl) (T.f 4) (a_cons (e_int) (a_cons (e_op op_sub og_sub (e_var (pv 3)) (e_op op_pow og_pow (e_int) (e_int))) (a_nil)))) (a_cons (e_op op_addU og_add (e_op op_mod og_mod (b_ty call_intU cg_intU (by rfl) (by rfl) (T.f 2) (a_cons (e_op op_addU og_add (e_op op_addU og_add (e_op op_mulU og_mulU (e_op op_mod og_mod (b_ty call_intU cg_intU (by rfl) (by rfl) (T.f 2) (a_cons (e_var (pv 3)) (a_nil))) (e_int)) (e_int)) (e_op op_mulU og_mulU (e_int) (e_var (pv 1)))) (e_int)) (a_nil))) (e_int)) (e_int)) (a_nil)))))))
theorem okr__law_same (T : Fx faL fnL K mg) (TT : Tups ⟨K, γ⟩) : ∀ k, (∃ f fd, Cal P w K mg base CX0 (1 + k) "_law_same" ["told", "due"] (spF ⟨K, γ⟩ WF0 2 (rc__law_same k 0)) (defArgs s__law_same) (defBody s__law_same) (defScope s__law_same) f fd) ∧ True := by
  intro k
  induction k with
  | zero =>
    refine ⟨?_, trivial⟩
    · obtain ⟨fd, F⟩ := T.ok.def_ 1 (d := d__law_same) rfl
      exact ⟨_, fd, F, T.g 28, F.bindsN fun _ _ _ _ _ _ us hl => match us, hl with | [_, _], _ => rfl, FnG.zero rfl⟩
  | succ k ih =>
    obtain ⟨⟨f__law_same, fd__law_same, C__law_same⟩, _⟩ := ih
    refine ⟨?_, trivial⟩
    · obtain ⟨fd, F⟩ := T.ok.def_ 1 (d := d__law_same) rfl
      refine ⟨_, fd, F, T.g 28, F.bindsN fun _ _ _ _ _ _ us hl => match us, hl with | [_, _], _ => rfl, FunD.okE (fb := fb__law_same (rc__law_same k)) F sc__law_same rfl rfl fun cdv A outer s H E hn hr => PSs.nox ?_⟩
      have S := sc__law_same
      exact s_cons (s_if (t_cmp op_isU og_is (e_var (pv 1)) (e_non) rfl) (s_one (s_ret (e_cmp op_isU og_is (e_var (pv 0)) (e_non) rfl))) (s_nil)) (s_cons (s_if (t_tru rfl (b_fn call_isi cg_isi1 boot_isinstance (by rfl) (T.f 6) (a_cons (e_var (pv 1)) (a_cons (e_bty .bool (by rfl) (T.f 5) (by rfl)) (a_nil)))) (fun _ => rfl)) (s_one (s_ret (e_and (b_fn call_isi cg_isi1 boot_isinstance (by rfl) (T.f 6) (a_cons (e_var (pv 0)) (a_cons (e_bty .bool (by rfl) (T.f 5) (by rfl)) (a_nil)))) (e_one (e_cmp (op_eqU (units_of hr)) og_eq (e_var (pv 0)) (e_var (pv 1)) rfl))))) (s_nil)) (s_cons (s_if (t_tru rfl (b_fn call_isi cg_isi1 boot_isinstance (by rfl) (T.f 6) (a_cons (e_var (pv 1)) (a_cons (e_bty .str (by rfl) (T.f 7) (by rfl)) (a_nil)))) (fun _ => rfl)) (s_one (s_ret (e_and (b_fn call_isi cg_isi1 boot_isinstance (by rfl) (T.f 6) (a_cons (e_var (pv 0)) (a_cons (e_bty .str (by rfl) (T.f 7) (by rfl)) (a_nil)))) (e_one (e_cmp (op_eqU (units_of hr)) og_eq (e_var (pv 0)) (e_var (pv 1)) rfl))))) (s_nil)) (s_cons (s_if (t_tru rfl (b_fn call_isi cg_isi1 boot_isinstance (by rfl) (T.f 6) (a_cons (e_var (pv 1)) (a_cons (e_bty .int (by rfl) (T.f 2) (by rfl)) (a_nil)))) (fun _ => rfl)) (s_one (s_ret (e_and (b_fn call_isi cg_isi1 boot_isinstance (by rfl) (T.f 6) (a_cons (e_var (pv 0)) (a_cons (e_bty .int (by rfl) (T.f 2) (by rfl)) (a_nil)))) (e_and (e_not (b_fn call_isi cg_isi1 boot_isinstance (by rfl) (T.f 6) (a_cons (e_var (pv 0)) (a_cons (e_bty .bool (by rfl) (T.f 5) (by rfl)) (a_nil))))) (e_one (e_cmp (op_eqU (units_of hr)) og_eq (e_var (pv 0)) (e_var (pv 1)) rfl)))))) (s_nil)) (s_cons (s_if (t_tru rfl (b_fn call_isi cg_isi1 boot_isinstance (by rfl) (T.f 6) (a_cons (e_var (pv 1)) (a_cons (e_bty .tuple (by rfl) (T.f 8) (by rfl)) (a_nil)))) (fun _ => rfl)) (s_cons (s_if (PW.pt (w_or (t_not (t_tru rfl (b_fn call_isi cg_isi1 boot_isinstance (by rfl) (T.f 6) (a_cons (e_var (pv 0)) (a_cons (e_bty .tuple (by rfl) (T.f 8) (by rfl)) (a_nil)))) (fun _ => rfl))) (w_or1 (t_cmp (op_neU (units_of hr)) og_eq (b_fn call_lenU cg_len boot_len (by rfl) (T.f 3) (a_cons (e_var (pv 0)) (a_nil))) (b_fn call_lenU cg_len boot_len (by rfl) (T.f 3) (a_cons (e_var (pv 1)) (a_nil))) rfl)))) (s_one (s_ret (e_bl))) (s_nil)) (s_one (s_ret (b_fn (cr_all rfl) cg_all boot_all (by rfl) (T.f 10) (a_cons (e_fz (e_lcV [("near", 2), ("far", 3)] rfl S.nd (i_zip rfl (by rfl) (T.f 9) (a_cons (e_var (pv 0)) (a_cons (e_var (pv 1)) (a_nil)))) (blkOk_by (own := [("near", 2), ("far", 3)]) (by kernel_rfl)) (fun _ _ _ _ _ => t_tup rfl rfl (ts_cons (t_name (pg_name S.nd rfl (Or.inl rfl))) (ts_cons (t_name (pg_name S.nd rfl (Or.inl rfl))) (ts_nil)))) (fun _ _ _ _ _ => c_nil) (fun _ _ _ _ _ => e_call rfl C__law_same.ok hn (hr.mono (by first | omega | (simp only [Nat.add_eq]; omega))) (by rfl) C__law_same.m C__law_same.F.kp C__law_same.b pass0 (a_cons (e_var (pv 2)) (a_cons (e_var (pv 3)) (a_nil)))) (by decide))) (a_nil)))))) (s_nil)) (s_cons (s_if (t_tru rfl (b_fn call_isi cg_isi1 boot_isinstance (by rfl) (T.f 6) (a_cons (e_var (pv 1)) (a_cons (e_bty .list (by rfl) (T.f 11) (by rfl)) (a_nil)))) (fun _ => rfl)) (s_cons (s_if (PW.pt (w_or (t_not (t_tru rfl (b_fn call_isi cg_isi1 boot_isinstance (by rfl) (T.f 6) (a_cons (e_var (pv 0)) (a_cons (e_bty .list (by rfl) (T.f 11) (by rfl)) (a_nil)))) (fun _ => rfl))) (w_or1 (t_cmp (op_neU (units_of hr)) og_eq (b_fn call_lenU cg_len boot_len (by rfl) (T.f 3) (a_cons (e_var (pv 0)) (a_nil))) (b_fn call_lenU cg_len boot_len (by rfl) (T.f 3) (a_cons (e_var (pv 1)) (a_nil))) rfl)))) (s_one (s_ret (e_bl))) (s_nil)) (s_one (s_ret (b_fn (cr_all rfl) cg_all boot_all (by rfl) (T.f 10) (a_cons (e_fz (e_lcV [("near", 2), ("far", 3)] rfl S.nd (i_zip rfl (by rfl) (T.f 9) (a_cons (e_var (pv 0)) (a_cons (e_var (pv 1)) (a_nil)))) (blkOk_by (own := [("near", 2), ("far", 3)]) (by kernel_rfl)) (fun _ _ _ _ _ => t_tup rfl rfl (ts_cons (t_name (pg_name S.nd rfl (Or.inl rfl))) (ts_cons (t_name (pg_name S.nd rfl (Or.inl rfl))) (ts_nil)))) (fun _ _ _ _ _ => c_nil) (fun _ _ _ _ _ => e_call rfl C__law_same.ok hn (hr.mono (by first | omega | (simp only [Nat.add_eq]; omega))) (by rfl) C__law_same.m C__law_same.F.kp C__law_same.b pass0 (a_cons (e_var (pv 2)) (a_cons (e_var (pv 3)) (a_nil)))) (by decide))) (a_nil)))))) (s_nil)) (s_one (s_ret (e_cmp (op_eqU (units_of hr)) og_eq (e_var (pv 0)) (e_var (pv 1)) rfl))))))))
theorem ok__law_same (T : Fx faL fnL K mg) (TT : Tups ⟨K, γ⟩) : ∃ f fd, Cal P w K mg base CX0 13 "_law_same" ["told", "due"] (spF ⟨K, γ⟩ WF0 2 (fe__law_same)) (defArgs s__law_same) (defBody s__law_same) (defScope s__law_same) f fd := (okr__law_same T TT 12).1
theorem ok_check_text (T : Fx faL fnL K mg) (TT : Tups ⟨K, γ⟩) : ∃ f fd, Cal P w K mg base CX0 1 "check_text" ["text"] (spF ⟨K, γ⟩ WF0 1 (fe_check_text)) (defArgs s_check_text) (defBody s_check_text) (defScope s_check_text) f fd := by
  obtain ⟨fd, F⟩ := T.ok.def_ 2 (d := d_check_text) rfl
  refine ⟨_, fd, F, T.g 29, F.bindsN fun _ _ _ _ _ _ us hl => match us, hl with | [_], _ => rfl, FunD.okE (fb := fb_check_text) F sc_check_text rfl rfl fun cdv A outer s H E hn hr => PSs.nox ?_⟩
  have S := sc_check_text
  exact s_one (s_if (t_not (t_tru rfl (b_fn call_isi cg_isi1 boot_isinstance (by rfl) (T.f 6) (a_cons (e_var (pv 0)) (a_cons (e_bty .str (by rfl) (T.f 7) (by rfl)) (a_nil)))) (fun _ => rfl))) (s_one (s_never)) (s_nil))
theorem ok_places_of (T : Fx faL fnL K mg) (TT : Tups ⟨K, γ⟩) : ∃ f fd, Cal P w K mg base CX0 1 "places_of" ["text"] (spF ⟨K, γ⟩ WF0 1 (fe_places_of)) (defArgs s_places_of) (defBody s_places_of) (defScope s_places_of) f fd := by
  obtain ⟨fd, F⟩ := T.ok.def_ 3 (d := d_places_of) rfl
  refine ⟨_, fd, F, T.g 30, F.bindsN fun _ _ _ _ _ _ us hl => match us, hl with | [_], _ => rfl, FunD.okE (fb := fb_places_of) F sc_places_of rfl rfl fun cdv A outer s H E hn hr => PSs.nox ?_⟩
  have S := sc_places_of
  exact s_cons (s_par3G (ps_par3 rfl S.nd rfl rfl rfl (by decide) (by decide) (by decide) rfl rfl rfl (a_cons (e_lst (a_nil)) (a_cons (e_int) (a_cons (e_int) (a_nil)))) rfl)) (s_cons (s_for PassesOwn.never rfl (i_any rfl (e_var (pv 0))) (t_name (pg_name S.nd rfl (Or.inl rfl))) (s_cons (s_expr (m_list rfl PySem.F.slot_list_append PySem.F.type_list_append mt_append mg_append (e_var (pv 1)) (a_cons (e_tup (a_cons (e_var (pv 2)) (a_cons (e_var (pv 3)) (a_nil)))) (a_nil)))) (s_one (s_asg (e_if (t_cmp (op_eqU (units_of hr)) og_eq (e_var (pv 4)) (e_str) rfl) (e_tup (a_cons (e_op op_addU og_add (e_var (pv 2)) (e_int)) (a_cons (e_int) (a_nil)))) (e_tup (a_cons (e_var (pv 2)) (a_cons (e_op op_addU og_add (e_var (pv 3)) (e_int)) (a_nil))))) (t_tup rfl rfl (ts_cons (t_name (pg_name S.nd rfl (Or.inl rfl))) (ts_cons (t_name (pg_name S.nd rfl (Or.inl rfl))) (ts_nil)))))))) (s_one (s_ret (e_fz (e_op op_addU og_add (e_var (pv 1)) (e_fz (e_lst (a_cons (e_tup (a_cons (e_var (pv 2)) (a_cons (e_var (pv 3)) (a_nil)))) (a_nil)))))))))
theorem ok_stretch_from (T : Fx faL fnL K mg) (TT : Tups ⟨K, γ⟩) : ∃ f fd, Cal P w K mg base CX0 1 "stretch_from" ["text", "at", "signs"] (spF ⟨K, γ⟩ WF0 3 (fe_stretch_from)) (defArgs s_stretch_from) (defBody s_stretch_from) (defScope s_stretch_from) f fd := by
  obtain ⟨fd, F⟩ := T.ok.def_ 4 (d := d_stretch_from) rfl
  refine ⟨_, fd, F, T.g 31, F.bindsN fun _ _ _ _ _ _ us hl => match us, hl with | [_, _, _], _ => rfl, FunD.okE (fb := fb_stretch_from) F sc_stretch_from rfl rfl fun cdv A outer s H E hn hr => PSs.nox ?_⟩
  have S := sc_stretch_from
  exact s_cons (s_setG (ps_set S.nd rfl (Or.inl rfl) (e_var (pv 1)))) (s_cons (s_while PassesOwn.never (PW.pt (w_and (t_cmp op_ltU og_relU (e_var (pv 3)) (b_fn call_lenU cg_len boot_len (by rfl) (T.f 3) (a_cons (e_var (pv 0)) (a_nil))) rfl) (w_and1 (t_cmp (op_inUD (units65_of hr)) og_inD (e_ix ix_seq og_ix (e_var (pv 0)) (e_var (pv 3)) (fun _ _ => rfl)) (e_var (pv 2)) rfl)))) (s_one (s_aug S.nd rfl (Or.inl rfl) iop_add og_addI (e_int)))) (s_one (s_ret (e_slice sl_U sg_U (e_var (pv 0)) (o_some (e_var (pv 1))) (o_some (e_var (pv 3)))))))
theorem ok_token_from (T : Fx faL fnL K mg) (TT : Tups ⟨K, γ⟩) : ∃ f fd, Cal P w K mg base CX0 2 "token_from" ["text", "at"] (spF ⟨K, γ⟩ WF0 2 (fe_token_from)) (defArgs s_token_from) (defBody s_token_from) (defScope s_token_from) f fd := by
  obtain ⟨f_stretch_from, fd_stretch_from, C_stretch_from⟩ := ok_stretch_from (P := P) (w := w) (base := base) (γ := γ) T TT
  obtain ⟨fd, F⟩ := T.ok.def_ 5 (d := d_token_from) rfl
  refine ⟨_, fd, F, T.g 32, F.bindsN fun _ _ _ _ _ _ us hl => match us, hl with | [_, _], _ => rfl, FunD.okE (fb := fb_token_from) F sc_token_from rfl rfl fun cdv A outer s H E hn hr => PSs.nox ?_⟩
  have S := sc_token_from
  exact s_cons (s_if (t_cmp (op_inUD (units65_of hr)) og_inD (e_ix ix_seq og_ix (e_var (pv 0)) (e_var (pv 1)) (fun _ _ => rfl)) (e_gstr (by rfl) (T.s 12)) rfl) (s_one (s_ret (e_call rfl C_stretch_from.ok hn (hr.mono (by decide)) (by rfl) C_stretch_from.m C_stretch_from.F.kp C_stretch_from.b pass0 (a_cons (e_var (pv 0)) (a_cons (e_var (pv 1)) (a_cons (e_gstr (by rfl) (T.s 12)) (a_nil))))))) (s_nil)) (s_cons (s_if (t_cmp (op_inUD (units65_of hr)) og_inD (e_ix ix_seq og_ix (e_var (pv 0)) (e_var (pv 1)) (fun _ _ => rfl)) (e_gstr (by rfl) (T.s 13)) rfl) (s_one (s_ret (e_call rfl C_stretch_from.ok hn (hr.mono (by decide)) (by rfl) C_stretch_from.m C_stretch_from.F.kp C_stretch_from.b pass0 (a_cons (e_var (pv 0)) (a_cons (e_var (pv 1)) (a_cons (e_gstr (by rfl) (T.s 13)) (a_nil))))))) (s_nil)) (s_one (s_ret (e_if (t_cmp (op_inUD (units65_of hr)) og_inD (e_slice sl_U sg_U (e_var (pv 0)) (o_some (e_var (pv 1))) (o_some (e_op op_addU og_add (e_var (pv 1)) (e_int)))) (e_gref (by rfl) (T.g 14) (TT.DOUBLES)) rfl) (e_slice sl_U sg_U (e_var (pv 0)) (o_some (e_var (pv 1))) (o_some (e_op op_addU og_add (e_var (pv 1)) (e_int)))) (e_ix ix_seq og_ix (e_var (pv 0)) (e_var (pv 1)) (fun _ _ => rfl))))))
theorem ok_is_lettered (T : Fx faL fnL K mg) (TT : Tups ⟨K, γ⟩) : ∃ f fd, Cal P w K mg base CX0 1 "is_lettered" ["token"] (spF ⟨K, γ⟩ WF0 1 (fe_is_lettered)) (defArgs s_is_lettered) (defBody s_is_lettered) (defScope s_is_lettered) f fd := by
  obtain ⟨fd, F⟩ := T.ok.def_ 6 (d := d_is_lettered) rfl
  refine ⟨_, fd, F, T.g 33, F.bindsN fun _ _ _ _ _ _ us hl => match us, hl with | [_], _ => rfl, FunD.okE (fb := fb_is_lettered) F sc_is_lettered rfl rfl fun cdv A outer s H E hn hr => PSs.nox ?_⟩
  have S := sc_is_lettered
  exact s_one (s_ret (e_or (e_cmp (op_inUD (units65_of hr)) og_inD (e_ix ix_seq og_ix (e_var (pv 0)) (e_int) (fun _ _ => rfl)) (e_gstr (by rfl) (T.s 12)) rfl) (e_one (e_cmp (op_inUD (units65_of hr)) og_inD (e_ix ix_seq og_ix (e_var (pv 0)) (e_int) (fun _ _ => rfl)) (e_gstr (by rfl) (T.s 13)) rfl))))
theorem ok_wrong_with (T : Fx faL fnL K mg) (TT : Tups ⟨K, γ⟩) : ∃ f fd, Cal P w K mg base CX0 2 "wrong_with" ["token", "before"] (spF ⟨K, γ⟩ WF0 2 (fe_wrong_with)) (defArgs s_wrong_with) (defBody s_wrong_with) (defScope s_wrong_with) f fd := by
  obtain ⟨f_is_lettered, fd_is_lettered, C_is_lettered⟩ := ok_is_lettered (P := P) (w := w) (base := base) (γ := γ) T TT
  obtain ⟨fd, F⟩ := T.ok.def_ 7 (d := d_wrong_with) rfl
  refine ⟨_, fd, F, T.g 34, F.bindsN fun _ _ _ _ _ _ us hl => match us, hl with | [_, _], _ => rfl, FunD.okE (fb := fb_wrong_with) F sc_wrong_with rfl rfl fun cdv A outer s H E hn hr => PSs.nox ?_⟩
  have S := sc_wrong_with
  exact s_cons (s_setG (ps_set S.nd rfl (Or.inl rfl) (e_lst (a_nil)))) (s_cons (s_if (PW.pt (w_and (t_not (t_tru rfl (e_call rfl C_is_lettered.ok hn (hr.mono (by decide)) (by rfl) C_is_lettered.m C_is_lettered.F.kp C_is_lettered.b pass0 (a_cons (e_var (pv 0)) (a_nil))) (fun _ => rfl))) (w_and1 (t_cmp (op_notInUD (units65_of hr)) og_inD (e_ix ix_seq og_ix (e_var (pv 0)) (e_int) (fun _ _ => rfl)) (e_gstr (by rfl) (T.s 15)) rfl)))) (s_one (s_expr (m_list rfl PySem.F.slot_list_append PySem.F.type_list_append mt_append mg_append (e_var (pv 2)) (a_cons (e_str) (a_nil))))) (s_nil)) (s_cons (s_if (PW.pt (w_and (t_cmp (op_inUD (units65_of hr)) og_inD (e_ix ix_seq og_ix (e_var (pv 0)) (e_int) (fun _ _ => rfl)) (e_gstr (by rfl) (T.s 13)) rfl) (w_and1 (PW.pt (w_or (t_cmp op_gtU og_relU (b_fn call_lenU cg_len boot_len (by rfl) (T.f 3) (a_cons (e_var (pv 0)) (a_nil))) (e_gint (by rfl) (T.n 16)) rfl) (w_or1 (PW.pt (w_and (t_cmp (op_eqU (units_of hr)) og_eq (e_ix ix_seq og_ix (e_var (pv 0)) (e_int) (fun _ _ => rfl)) (e_str) rfl) (w_and1 (t_cmp (op_neU (units_of hr)) og_eq (e_var (pv 0)) (e_str) rfl)))))))))) (s_one (s_expr (m_list rfl PySem.F.slot_list_append PySem.F.type_list_append mt_append mg_append (e_var (pv 2)) (a_cons (e_str) (a_nil))))) (s_nil)) (s_cons (s_setG (ps_set S.nd rfl (Or.inl rfl) (e_and (e_cmp op_isNU og_is (e_var (pv 1)) (e_non) rfl) (e_and (e_call rfl C_is_lettered.ok hn (hr.mono (by decide)) (by rfl) C_is_lettered.m C_is_lettered.F.kp C_is_lettered.b pass0 (a_cons (e_var (pv 1)) (a_nil))) (e_one (e_call rfl C_is_lettered.ok hn (hr.mono (by decide)) (by rfl) C_is_lettered.m C_is_lettered.F.kp C_is_lettered.b pass0 (a_cons (e_var (pv 0)) (a_nil)))))))) (s_cons (s_if (PW.pt (w_or (PW.pt (w_and (t_cmp (op_inUD (units65_of hr)) og_inD (e_ix ix_seq og_ix (e_var (pv 0)) (e_int) (fun _ _ => rfl)) (e_gstr (by rfl) (T.s 12)) rfl) (w_and1 (t_cmp op_gtU og_relU (b_fn call_lenU cg_len boot_len (by rfl) (T.f 3) (a_cons (e_var (pv 0)) (a_nil))) (e_gint (by rfl) (T.n 17)) rfl)))) (w_or1 (t_tru rfl (e_var (pv 3)) (fun _ => rfl))))) (s_one (s_expr (m_list rfl PySem.F.slot_list_append PySem.F.type_list_append mt_append mg_append (e_var (pv 2)) (a_cons (e_str) (a_nil))))) (s_nil)) (s_one (s_ret (e_var (pv 2))))))))
theorem ok_tokens_by (T : Fx faL fnL K mg) (TT : Tups ⟨K, γ⟩) : ∃ f fd, Cal P w K mg base CX0 3 "tokens_by" ["text"] (spF ⟨K, γ⟩ WF0 1 (fe_tokens_by)) (defArgs s_tokens_by) (defBody s_tokens_by) (defScope s_tokens_by) f fd := by
  obtain ⟨f_token_from, fd_token_from, C_token_from⟩ := ok_token_from (P := P) (w := w) (base := base) (γ := γ) T TT
  obtain ⟨f_wrong_with, fd_wrong_with, C_wrong_with⟩ := ok_wrong_with (P := P) (w := w) (base := base) (γ := γ) T TT
  obtain ⟨fd, F⟩ := T.ok.def_ 8 (d := d_tokens_by) rfl
  refine ⟨_, fd, F, T.g 35, F.bindsN fun _ _ _ _ _ _ us hl => match us, hl with | [_], _ => rfl, FunD.okE (fb := fb_tokens_by) F sc_tokens_by rfl rfl fun cdv A outer s H E hn hr => PSs.nox ?_⟩
  have S := sc_tokens_by
  exact s_cons (s_par3G (ps_par3 rfl S.nd rfl rfl rfl (by decide) (by decide) (by decide) rfl rfl rfl (a_cons (e_lst (a_nil)) (a_cons (e_int) (a_cons (e_non) (a_nil)))) rfl)) (s_cons (s_while PassesOwn.never (t_cmp op_ltU og_relU (e_var (pv 2)) (b_fn call_lenU cg_len boot_len (by rfl) (T.f 3) (a_cons (e_var (pv 0)) (a_nil))) rfl) (s_one (s_if (t_cmp (op_inUD (units65_of hr)) og_inD (e_ix ix_seq og_ix (e_var (pv 0)) (e_var (pv 2)) (fun _ _ => rfl)) (e_gstr (by rfl) (T.s 18)) rfl) (s_one (s_parG (ps_par rfl S.nd rfl rfl (by decide) rfl rfl (a_cons (e_op op_addU og_add (e_var (pv 2)) (e_int)) (a_cons (e_non) (a_nil))) rfl))) (s_cons (s_setG (ps_set S.nd rfl (Or.inl rfl) (e_call rfl C_token_from.ok hn (hr.mono (by decide)) (by rfl) C_token_from.m C_token_from.F.kp C_token_from.b pass0 (a_cons (e_var (pv 0)) (a_cons (e_var (pv 2)) (a_nil)))))) (s_cons (s_setG (ps_set S.nd rfl (Or.inl rfl) (e_fz (e_call rfl C_wrong_with.ok hn (hr.mono (by decide)) (by rfl) C_wrong_with.m C_wrong_with.F.kp C_wrong_with.b pass0 (a_cons (e_var (pv 4)) (a_cons (e_var (pv 3)) (a_nil))))))) (s_cons (s_if (t_cmp (op_neU (units_of hr)) og_eq (e_var (pv 5)) (e_fz (e_lst (a_nil))) rfl) (s_one (s_ret (e_tup (a_cons (e_var (pv 1)) (a_cons (e_var (pv 2)) (a_cons (e_ix ix_seq og_ix (e_var (pv 5)) (e_int) (fun _ _ => rfl)) (a_nil))))))) (s_nil)) (s_cons (s_expr (m_list rfl PySem.F.slot_list_append PySem.F.type_list_append mt_append mg_append (e_var (pv 1)) (a_cons (e_tup (a_cons (e_var (pv 4)) (a_cons (e_var (pv 2)) (a_nil)))) (a_nil)))) (s_one (s_parG (ps_par rfl S.nd rfl rfl (by decide) rfl rfl (a_cons (e_op op_addU og_add (e_var (pv 2)) (b_fn call_lenU cg_len boot_len (by rfl) (T.f 3) (a_cons (e_var (pv 4)) (a_nil)))) (a_cons (e_var (pv 4)) (a_nil))) rfl)))))))))) (s_one (s_ret (e_tup (a_cons (e_var (pv 1)) (a_cons (e_var (pv 2)) (a_cons (e_non) (a_nil))))))))
theorem ok_read_signs (T : Fx faL fnL K mg) (TT : Tups ⟨K, γ⟩) : ∃ f fd, Cal P w K mg base CX0 4 "read_signs" ["text"] (spF ⟨K, γ⟩ WF0 1 (fe_read_signs)) (defArgs s_read_signs) (defBody s_read_signs) (defScope s_read_signs) f fd := by
  obtain ⟨f_places_of, fd_places_of, C_places_of⟩ := ok_places_of (P := P) (w := w) (base := base) (γ := γ) T TT
  obtain ⟨f_tokens_by, fd_tokens_by, C_tokens_by⟩ := ok_tokens_by (P := P) (w := w) (base := base) (γ := γ) T TT
  obtain ⟨fd, F⟩ := T.ok.def_ 9 (d := d_read_signs) rfl
  refine ⟨_, fd, F, T.g 36, F.bindsN fun _ _ _ _ _ _ us hl => match us, hl with | [_], _ => rfl, FunD.okE (fb := fb_read_signs) F sc_read_signs rfl rfl fun cdv A outer s H E hn hr => PSs.nox ?_⟩
  have S := sc_read_signs
  exact s_cons (s_setG (ps_set S.nd rfl (Or.inr rfl) (e_fz (e_call rfl C_places_of.ok hn (hr.mono (by decide)) (by rfl) C_places_of.m C_places_of.F.kp C_places_of.b pass0 (a_cons (e_var (pv 0)) (a_nil)))))) (s_cons (s_asg (e_fz (e_call rfl C_tokens_by.ok hn (hr.mono (by decide)) (by rfl) C_tokens_by.m C_tokens_by.F.kp C_tokens_by.b pass0 (a_cons (e_var (pv 0)) (a_nil)))) (t_tup rfl rfl (ts_cons (t_name (pg_name S.nd rfl (Or.inl rfl))) (ts_cons (t_name (pg_name S.nd rfl (Or.inr rfl))) (ts_cons (t_name (pg_name S.nd rfl (Or.inr rfl))) (ts_nil)))))) (s_cons (s_if (PW.pt (w_and (t_cmp op_gtU og_relU (b_fn call_lenU cg_len boot_len (by rfl) (T.f 3) (a_cons (e_var (pv 0)) (a_nil))) (e_gint (by rfl) (T.n 19)) rfl) (w_and1 (PW.pt (w_or (t_cmp op_isU og_is (e_var (pv 4)) (e_non) rfl) (w_or1 (t_cmp op_gtU og_relU (e_var (pv 3)) (e_gint (by rfl) (T.n 19)) rfl))))))) (s_one (s_asg (e_tup (a_cons (e_gint (by rfl) (T.n 19)) (a_cons (e_str) (a_nil)))) (t_tup rfl rfl (ts_cons (t_name (pg_name S.nd rfl (Or.inr rfl))) (ts_cons (t_name (pg_name S.nd rfl (Or.inr rfl))) (ts_nil)))))) (s_nil)) (s_cons (s_setLcV [("token", 6), ("start", 7)] rfl S.nd rfl rfl (sw_true rfl rfl rfl rfl) (i_any rfl (e_var (pv 2))) (blkOk_by (own := [("token", 6), ("start", 7)]) (by kernel_rfl)) (fun _ _ _ _ _ => t_tup rfl rfl (ts_cons (t_name (pg_name S.nd rfl (Or.inl rfl))) (ts_cons (t_name (pg_name S.nd rfl (Or.inl rfl))) (ts_nil)))) (fun _ _ _ _ _ => pts_one (PW.pt (w_or (t_cmp op_isU og_is (e_var (pv 4)) (e_non) rfl) (w_or1 (t_cmp op_ltU og_relU (e_var (pv 7)) (e_var (pv 3)) rfl))))) (fun _ _ _ _ _ => e_tup (a_cons (e_var (pv 6)) (a_cons (e_ix ix_seq og_ix (e_var (pv 1)) (e_var (pv 7)) (fun _ _ => rfl)) (a_nil)))) (by decide)) (s_one (s_ret (e_tup (a_cons (e_var (pv 5)) (a_cons (e_ix ix_seq og_ix (e_var (pv 1)) (e_un un_neg ug_neg (e_int)) (fun _ _ => rfl)) (a_cons (e_if (t_cmp op_isNU og_is (e_var (pv 4)) (e_non) rfl) (e_op op_addU og_add (e_tup (a_cons (e_var (pv 4)) (a_nil))) (e_ix ix_seq og_ix (e_var (pv 1)) (e_var (pv 3)) (fun _ _ => rfl))) (e_non)) (a_nil))))))))))
theorem ok_token_fault (T : Fx faL fnL K mg) (TT : Tups ⟨K, γ⟩) : ∃ f fd, Cal P w K mg base CX0 5 "token_fault" ["text"] (spF ⟨K, γ⟩ WF0 1 (fe_token_fault)) (defArgs s_token_fault) (defBody s_token_fault) (defScope s_token_fault) f fd := by
  obtain ⟨f_check_text, fd_check_text, C_check_text⟩ := ok_check_text (P := P) (w := w) (base := base) (γ := γ) T TT
  obtain ⟨f_read_signs, fd_read_signs, C_read_signs⟩ := ok_read_signs (P := P) (w := w) (base := base) (γ := γ) T TT
  obtain ⟨fd, F⟩ := T.ok.def_ 10 (d := d_token_fault) rfl
  refine ⟨_, fd, F, T.g 37, F.bindsN fun _ _ _ _ _ _ us hl => match us, hl with | [_], _ => rfl, FunD.okE (fb := fb_token_fault) F sc_token_fault rfl rfl fun cdv A outer s H E hn hr => PSs.nox ?_⟩
  have S := sc_token_fault
  exact s_cons (s_expr (e_call rfl C_check_text.ok hn (hr.mono (by decide)) (by rfl) C_check_text.m C_check_text.F.kp C_check_text.b pass0 (a_cons (e_var (pv 0)) (a_nil)))) (s_one (s_ret (e_ix ix_seq og_ix (e_fz (e_call rfl C_read_signs.ok hn (hr.mono (by decide)) (by rfl) C_read_signs.m C_read_signs.F.kp C_read_signs.b pass0 (a_cons (e_var (pv 0)) (a_nil)))) (e_int) (fun _ _ => rfl))))
theorem ok_go_on (T : Fx faL fnL K mg) (TT : Tups ⟨K, γ⟩) : ∃ f fd, Cal P w K mg base CX0 1 "go_on" ["reader"] (spF ⟨K, γ⟩ WF0 1 (fe_go_on)) (defArgs s_go_on) (defBody s_go_on) (defScope s_go_on) f fd := by
  obtain ⟨fd, F⟩ := T.ok.def_ 11 (d := d_go_on) rfl
  refine ⟨_, fd, F, T.g 38, F.bindsN fun _ _ _ _ _ _ us hl => match us, hl with | [_], _ => rfl, FunD.okE (fb := fb_go_on) F sc_go_on rfl rfl fun cdv A outer s H E hn hr => PSs.nox ?_⟩
  have S := sc_go_on
  exact s_cons (s_asg (e_ix ix_seq og_ix (e_dix (units1_of hr) (e_var (pv 0)) (e_str) (fun _ _ => rfl)) (e_dix (units1_of hr) (e_var (pv 0)) (e_str) (fun _ _ => rfl)) (fun _ _ => rfl)) (t_tup rfl rfl (ts_cons (t_name (pg_name S.nd rfl (Or.inl rfl))) (ts_cons (t_name (pg_name S.nd rfl (Or.inl rfl))) (ts_nil))))) (s_cons (s_daug (units1_of hr) (e_var (pv 0)) (e_str) (e_int) iop_add) (s_cons (s_dput (units1_of hr) (e_var (pv 0)) (e_str) (e_newD)) (s_one (s_ret (e_tup (a_cons (e_var (pv 1)) (a_cons (e_var (pv 2)) (a_nil))))))))
theorem ok_kind_here (T : Fx faL fnL K mg) (TT : Tups ⟨K, γ⟩) : ∃ f fd, Cal P w K mg base CX0 1 "kind_here" ["reader"] (spF ⟨K, γ⟩ WF0 1 (fe_kind_here)) (defArgs s_kind_here) (defBody s_kind_here) (defScope s_kind_here) f fd := by
  obtain ⟨fd, F⟩ := T.ok.def_ 12 (d := d_kind_here) rfl
  refine ⟨_, fd, F, T.g 39, F.bindsN fun _ _ _ _ _ _ us hl => match us, hl with | [_], _ => rfl, FunD.okE (fb := fb_kind_here) F sc_kind_here rfl rfl fun cdv A outer s H E hn hr => PSs.nox ?_⟩
  have S := sc_kind_here
  exact s_cons (s_setG (ps_set S.nd rfl (Or.inl rfl) (e_ix ix_seq og_ix (e_ix ix_seq og_ix (e_dix (units1_of hr) (e_var (pv 0)) (e_str) (fun _ _ => rfl)) (e_dix (units1_of hr) (e_var (pv 0)) (e_str) (fun _ _ => rfl)) (fun _ _ => rfl)) (e_int) (fun _ _ => rfl)))) (s_cons (s_if (t_cmp (op_eqU (units_of hr)) og_eq (e_var (pv 1)) (e_str) rfl) (s_one (s_ret (e_str))) (s_nil)) (s_cons (s_if (t_cmp (op_inUD (units65_of hr)) og_inD (e_ix ix_seq og_ix (e_var (pv 1)) (e_int) (fun _ _ => rfl)) (e_gstr (by rfl) (T.s 13)) rfl) (s_one (s_ret (e_str))) (s_nil)) (s_one (s_ret (e_if (PW.pt (w_and (t_cmp (op_inUD (units65_of hr)) og_inD (e_ix ix_seq og_ix (e_var (pv 1)) (e_int) (fun _ _ => rfl)) (e_gstr (by rfl) (T.s 12)) rfl) (w_and1 (t_cmp (op_notInUD (units65_of hr)) og_inD (e_var (pv 1)) (e_gref (by rfl) (T.g 20) (TT.CLOSED)) rfl)))) (e_str) (e_var (pv 1)))))))
theorem ok_looks (T : Fx faL fnL K mg) (TT : Tups ⟨K, γ⟩) : ∃ f fd, Cal P w K mg base CX0 2 "looks" ["reader", "kinds"] (spF ⟨K, γ⟩ WF0 2 (fe_looks)) (defArgs s_looks) (defBody s_looks) (defScope s_looks) f fd := by
  obtain ⟨f_kind_here, fd_kind_here, C_kind_here⟩ := ok_kind_here (P := P) (w := w) (base := base) (γ := γ) T TT
  obtain ⟨fd, F⟩ := T.ok.def_ 13 (d := d_looks) rfl
  refine ⟨_, fd, F, T.g 40, F.bindsN fun _ _ _ _ _ _ us hl => match us, hl with | [_, _], _ => rfl, FunD.okE (fb := fb_looks) F sc_looks rfl rfl fun cdv A outer s H E hn hr => PSs.nox ?_⟩
  have S := sc_looks
  exact s_cons (s_expr (m_dict rfl PySem.F.slot_dict_update PySem.F.type_dict_update (mt_upd rfl) mg_upd (e_dix (units1_of hr) (e_var (pv 0)) (e_str) (fun _ _ => rfl)) (a_cons (e_fz (e_lcV [("kind", 2)] rfl S.nd (i_any rfl (e_var (pv 1))) (blkOk_by (own := [("kind", 2)]) (by kernel_rfl)) (fun _ _ _ _ _ => t_name (pg_name S.nd rfl (Or.inl rfl))) (fun _ _ _ _ _ => c_nil) (fun _ _ _ _ _ => e_tup (a_cons (e_var (pv 2)) (a_cons (e_bl) (a_nil)))) (by decide))) (a_nil)))) (s_one (s_ret (e_cmp (op_inUD (units65_of hr)) og_inD (e_call rfl C_kind_here.ok hn (hr.mono (by decide)) (by rfl) C_kind_here.m C_kind_here.F.kp C_kind_here.b pass0 (a_cons (e_var (pv 0)) (a_nil))) (e_var (pv 1)) rfl)))
theorem ok_place_here (T : Fx faL fnL K mg) (TT : Tups ⟨K, γ⟩) : ∃ f fd, Cal P w K mg base CX0 1 "place_here" ["reader"] (spF ⟨K, γ⟩ WF0 1 (fe_place_here)) (defArgs s_place_here) (defBody s_place_here) (defScope s_place_here) f fd := by
  obtain ⟨fd, F⟩ := T.ok.def_ 14 (d := d_place_here) rfl
  refine ⟨_, fd, F, T.g 41, F.bindsN fun _ _ _ _ _ _ us hl => match us, hl with | [_], _ => rfl, FunD.okE (fb := fb_place_here) F sc_place_here rfl rfl fun cdv A outer s H E hn hr => PSs.nox ?_⟩
  have S := sc_place_here
  exact s_one (s_ret (e_ix ix_seq og_ix (e_ix ix_seq og_ix (e_dix (units1_of hr) (e_var (pv 0)) (e_str) (fun _ _ => rfl)) (e_dix (units1_of hr) (e_var (pv 0)) (e_str) (fun _ _ => rfl)) (fun _ _ => rfl)) (e_int) (fun _ _ => rfl)))
theorem ok_stop (T : Fx faL fnL K mg) (TT : Tups ⟨K, γ⟩) : ∃ f fd, Cal P w K mg base (L2.CX P w) 3 "stop" ["reader", "word"] (spF ⟨K, γ⟩ (WFx ⟨K, γ⟩ (cl K)) 2 (fe_stop)) (defArgs s_stop) (defBody s_stop) (defScope s_stop) f fd := by
  obtain ⟨f_place_here, fd_place_here, C_place_here⟩ := ok_place_here (P := P) (w := w) (base := base) (γ := γ) T TT
  obtain ⟨fd, F⟩ := T.ok.def_ 15 (d := d_stop) rfl
  obtain ⟨fdi_BadDeed, init_BadDeed, bind_BadDeed⟩ := init_BadDeed (P := P) (w := w) (base := base) T
  have X_BadDeed := exf_BadDeed T TT
  refine ⟨_, fd, F, T.g 42, F.bindsN fun _ _ _ _ _ _ us hl => match us, hl with | [_, _], _ => rfl, FunD.okE (fb := fb_stop) F sc_stop rfl rfl fun cdv A outer s H E hn hr => ?_⟩
  have S := sc_stop
  exact s_cons (s_asg (e_nx (W := WN) (PE.nox (e_call rfl C_place_here.ok hn (hr.mono (by decide)) (by rfl) C_place_here.m C_place_here.F.kp C_place_here.b pass0 (a_cons (e_var (pv 0)) (a_nil))))) (t_tup rfl rfl (ts_cons (t_name (pg_name S.nd rfl (Or.inl rfl))) (ts_cons (t_name (pg_name S.nd rfl (Or.inl rfl))) (ts_nil))))) (s_one (s_raise1 rfl X_BadDeed.T X_BadDeed.iC X_BadDeed.tI X_BadDeed.no init_BadDeed (hr.mono (by decide)) bind_BadDeed (by rfl) X_BadDeed.m (cl_BadDeed _) rfl takes_def (e_tup (a_cons (e_var (pv 1)) (a_cons (e_var (pv 2)) (a_cons (e_var (pv 3)) (a_nil)))))))
theorem ok_take (T : Fx faL fnL K mg) (TT : Tups ⟨K, γ⟩) : ∃ f fd, Cal P w K mg base (L2.CX P w) 4 "take" ["reader", "kind"] (spF ⟨K, γ⟩ (WFx ⟨K, γ⟩ (cl K)) 2 (fe_take)) (defArgs s_take) (defBody s_take) (defScope s_take) f fd := by
  obtain ⟨f_looks, fd_looks, C_looks⟩ := ok_looks (P := P) (w := w) (base := base) (γ := γ) T TT
  obtain ⟨f_stop, fd_stop, C_stop⟩ := ok_stop (P := P) (w := w) (base := base) (γ := γ) T TT
  obtain ⟨f_go_on, fd_go_on, C_go_on⟩ := ok_go_on (P := P) (w := w) (base := base) (γ := γ) T TT
  obtain ⟨fd, F⟩ := T.ok.def_ 16 (d := d_take) rfl
  refine ⟨_, fd, F, T.g 43, F.bindsN fun _ _ _ _ _ _ us hl => match us, hl with | [_, _], _ => rfl, FunD.okE (fb := fb_take) F sc_take rfl rfl fun cdv A outer s H E hn hr => ?_⟩
  have S := sc_take
  exact s_cons (s_if (t_nx (W := WN) (PT.nox (t_not (t_tru rfl (e_call rfl C_looks.ok hn (hr.mono (by decide)) (by rfl) C_looks.m C_looks.F.kp C_looks.b pass0 (a_cons (e_var (pv 0)) (a_cons (e_tup (a_cons (e_var (pv 1)) (a_nil))) (a_nil)))) (fun _ => rfl))))) (s_one (s_expr (e_call rfl C_stop.ok hn (hr.mono (by decide)) (by rfl) C_stop.m C_stop.F.kp C_stop.b (pass_of takes_def) (a_cons (e_var (pv 0)) (a_cons (e_str) (a_nil)))))) (s_nil)) (s_one (s_ret (e_nx (W := WN) (PE.nox (e_call rfl C_go_on.ok hn (hr.mono (by decide)) (by rfl) C_go_on.m C_go_on.F.kp C_go_on.b pass0 (a_cons (e_var (pv 0)) (a_nil)))))))
theorem ok_open_more (T : Fx faL fnL K mg) (TT : Tups ⟨K, γ⟩) : ∃ f fd, Cal P w K mg base (L2.CX P w) 4 "open_more" ["reader", "what", "most"] (spF ⟨K, γ⟩ (WFx ⟨K, γ⟩ (cl K)) 3 (fe_open_more)) (defArgs s_open_more) (defBody s_open_more) (defScope s_open_more) f fd := by
  obtain ⟨f_stop, fd_stop, C_stop⟩ := ok_stop (P := P) (w := w) (base := base) (γ := γ) T TT
  obtain ⟨fd, F⟩ := T.ok.def_ 17 (d := d_open_more) rfl
  refine ⟨_, fd, F, T.g 44, F.bindsN fun _ _ _ _ _ _ us hl => match us, hl with | [_, _, _], _ => rfl, FunD.okE (fb := fb_open_more) F sc_open_more rfl rfl fun cdv A outer s H E hn hr => ?_⟩
  have S := sc_open_more
  exact s_cons (s_if (t_cmp (op_eqU (units_of hr)) og_eq (e_dix (units1_of hr) (e_var (pv 0)) (e_var (pv 1)) (fun _ _ => rfl)) (e_var (pv 2)) rfl) (s_one (s_expr (e_call rfl C_stop.ok hn (hr.mono (by decide)) (by rfl) C_stop.m C_stop.F.kp C_stop.b (pass_of takes_def) (a_cons (e_var (pv 0)) (a_cons (e_str) (a_nil)))))) (s_nil)) (s_one (s_daug (units1_of hr) (e_var (pv 0)) (e_var (pv 1)) (e_int) iop_add))
theorem ok_read_step (T : Fx faL fnL K mg) (TT : Tups ⟨K, γ⟩) : ∃ f fd, Cal P w K mg base (L2.CX P w) 4 "read_step" ["reader"] (spF ⟨K, γ⟩ (WFx ⟨K, γ⟩ (cl K)) 1 (fe_read_step)) (defArgs s_read_step) (defBody s_read_step) (defScope s_read_step) f fd := by
  obtain ⟨f_looks, fd_looks, C_looks⟩ := ok_looks (P := P) (w := w) (base := base) (γ := γ) T TT
  obtain ⟨f_stop, fd_stop, C_stop⟩ := ok_stop (P := P) (w := w) (base := base) (γ := γ) T TT
  obtain ⟨f_kind_here, fd_kind_here, C_kind_here⟩ := ok_kind_here (P := P) (w := w) (base := base) (γ := γ) T TT
  obtain ⟨fd, F⟩ := T.ok.def_ 18 (d := d_read_step) rfl
  refine ⟨_, fd, F, T.g 45, F.bindsN fun _ _ _ _ _ _ us hl => match us, hl with | [_], _ => rfl, FunD.okE (fb := fb_read_step) F sc_read_step rfl rfl fun cdv A outer s H E hn hr => ?_⟩
  have S := sc_read_step
  exact s_cons (s_if (t_nx (W := WN) (PT.nox (t_not (t_tru rfl (e_call rfl C_looks.ok hn (hr.mono (by decide)) (by rfl) C_looks.m C_looks.F.kp C_looks.b pass0 (a_cons (e_var (pv 0)) (a_cons (e_gref (by rfl) (T.g 21) (TT.STARTS)) (a_nil)))) (fun _ => rfl))))) (s_one (s_expr (e_call rfl C_stop.ok hn (hr.mono (by decide)) (by rfl) C_stop.m C_stop.F.kp C_stop.b (pass_of takes_def) (a_cons (e_var (pv 0)) (a_cons (e_str) (a_nil)))))) (s_nil)) (s_cons (s_setG (ps_set S.nd rfl (Or.inl rfl) (e_nx (W := WN) (PE.nox (e_call rfl C_kind_here.ok hn (hr.mono (by decide)) (by rfl) C_kind_here.m C_kind_here.F.kp C_kind_here.b pass0 (a_cons (e_var (pv 0)) (a_nil))))))) (s_cons (s_if (PW.pt (w_and (t_cmp (op_inUD (units65_of hr)) og_inD (e_var (pv 1)) (e_tup (a_cons (e_str) (a_cons (e_str) (a_nil)))) rfl) (w_and1 (t_cmp (op_eqU (units_of hr)) og_eq (e_dix (units1_of hr) (e_var (pv 0)) (e_str) (fun _ _ => rfl)) (e_gint (by rfl) (T.n 22)) rfl)))) (s_one (s_expr (e_call rfl C_stop.ok hn (hr.mono (by decide)) (by rfl) C_stop.m C_stop.F.kp C_stop.b (pass_of takes_def) (a_cons (e_var (pv 0)) (a_cons (e_str) (a_nil)))))) (s_nil)) (s_cons (s_if (t_cmp (op_eqU (units_of hr)) og_eq (e_dix (units1_of hr) (e_var (pv 0)) (e_str) (fun _ _ => rfl)) (e_gint (by rfl) (T.n 23)) rfl) (s_one (s_expr (e_call rfl C_stop.ok hn (hr.mono (by decide)) (by rfl) C_stop.m C_stop.F.kp C_stop.b (pass_of takes_def) (a_cons (e_var (pv 0)) (a_cons (e_str) (a_nil)))))) (s_nil)) (s_cons (s_daug (units1_of hr) (e_var (pv 0)) (e_str) (e_int) iop_add) (s_cons (s_if (t_cmp (op_inUD (units65_of hr)) og_inD (e_var (pv 1)) (e_tup (a_cons (e_str) (a_cons (e_str) (a_nil)))) rfl) (s_one (s_never)) (s_nil)) (s_cons (s_if (t_cmp (op_inUD (units65_of hr)) og_inD (e_var (pv 1)) (e_tup (a_cons (e_str) (a_cons (e_str) (a_cons (e_str) (a_nil))))) rfl) (s_one (s_never)) (s_nil)) (s_cons (s_if (t_cmp (op_eqU (units_of hr)) og_eq (e_var (pv 1)) (e_str) rfl) (s_one (s_never)) (s_nil)) (s_one (s_ret (e_nx (W := WN) (PE.nox (e_if (t_cmp (op_eqU (units_of hr)) og_eq (e_var (pv 1)) (e_str) rfl) (e_never) (e_never)))))))))))))
theorem ok_read_block (T : Fx faL fnL K mg) (TT : Tups ⟨K, γ⟩) : ∃ f fd, Cal P w K mg base (L2.CX P w) 5 "read_block" ["reader"] (spF ⟨K, γ⟩ (WFx ⟨K, γ⟩ (cl K)) 1 (fe_read_block)) (defArgs s_read_block) (defBody s_read_block) (defScope s_read_block) f fd := by
  obtain ⟨f_looks, fd_looks, C_looks⟩ := ok_looks (P := P) (w := w) (base := base) (γ := γ) T TT
  obtain ⟨f_stop, fd_stop, C_stop⟩ := ok_stop (P := P) (w := w) (base := base) (γ := γ) T TT
  obtain ⟨f_open_more, fd_open_more, C_open_more⟩ := ok_open_more (P := P) (w := w) (base := base) (γ := γ) T TT
  obtain ⟨f_go_on, fd_go_on, C_go_on⟩ := ok_go_on (P := P) (w := w) (base := base) (γ := γ) T TT
  obtain ⟨f_read_step, fd_read_step, C_read_step⟩ := ok_read_step (P := P) (w := w) (base := base) (γ := γ) T TT
  obtain ⟨fd, F⟩ := T.ok.def_ 19 (d := d_read_block) rfl
  refine ⟨_, fd, F, T.g 46, F.bindsN fun _ _ _ _ _ _ us hl => match us, hl with | [_], _ => rfl, FunD.okE (fb := fb_read_block) F sc_read_block rfl rfl fun cdv A outer s H E hn hr => ?_⟩
  have S := sc_read_block
  exact s_cons (s_if (t_nx (W := WN) (PT.nox (t_not (t_tru rfl (e_call rfl C_looks.ok hn (hr.mono (by decide)) (by rfl) C_looks.m C_looks.F.kp C_looks.b pass0 (a_cons (e_var (pv 0)) (a_cons (e_tup (a_cons (e_str) (a_nil))) (a_nil)))) (fun _ => rfl))))) (s_one (s_expr (e_call rfl C_stop.ok hn (hr.mono (by decide)) (by rfl) C_stop.m C_stop.F.kp C_stop.b (pass_of takes_def) (a_cons (e_var (pv 0)) (a_cons (e_str) (a_nil)))))) (s_nil)) (s_cons (s_expr (e_call rfl C_open_more.ok hn (hr.mono (by decide)) (by rfl) C_open_more.m C_open_more.F.kp C_open_more.b (pass_of takes_def) (a_cons (e_var (pv 0)) (a_cons (e_str) (a_cons (e_gint (by rfl) (T.n 24)) (a_nil)))))) (s_cons (s_expr (e_nx (W := WN) (PE.nox (e_call rfl C_go_on.ok hn (hr.mono (by decide)) (by rfl) C_go_on.m C_go_on.F.kp C_go_on.b pass0 (a_cons (e_var (pv 0)) (a_nil)))))) (s_cons (s_setG (ps_set S.nd rfl (Or.inl rfl) (e_lst (a_nil)))) (s_cons (s_while (passes_of rfl) (t_nx (W := WN) (PT.nox (t_not (t_tru rfl (e_call rfl C_looks.ok hn (hr.mono (by decide)) (by rfl) C_looks.m C_looks.F.kp C_looks.b pass0 (a_cons (e_var (pv 0)) (a_cons (e_tup (a_cons (e_str) (a_nil))) (a_nil)))) (fun _ => rfl))))) (s_one (s_expr (m_list rfl PySem.F.slot_list_append PySem.F.type_list_append mt_append mg_append (e_var (pv 1)) (a_cons (e_call rfl C_read_step.ok hn (hr.mono (by decide)) (by rfl) C_read_step.m C_read_step.F.kp C_read_step.b (pass_of takes_def) (a_cons (e_var (pv 0)) (a_nil))) (a_nil)))))) (s_cons (s_expr (e_nx (W := WN) (PE.nox (e_call rfl C_go_on.ok hn (hr.mono (by decide)) (by rfl) C_go_on.m C_go_on.F.kp C_go_on.b pass0 (a_cons (e_var (pv 0)) (a_nil)))))) (s_cons (s_daug (units1_of hr) (e_var (pv 0)) (e_str) (e_int) iop_sub) (s_one (s_ret (b_ty call_tuple_of cg_tuple (by rfl) (by rfl) (T.f 8) (a_cons (e_var (pv 1)) (a_nil)))))))))))
theorem ok_tree_by (T : Fx faL fnL K mg) (TT : Tups ⟨K, γ⟩) : ∃ f fd, Cal P w K mg base (L2.CX P w) 6 "tree_by" ["reader"] (spF ⟨K, γ⟩ (WFx ⟨K, γ⟩ (cl K)) 1 (fe_tree_by)) (defArgs s_tree_by) (defBody s_tree_by) (defScope s_tree_by) f fd := by
  obtain ⟨f_take, fd_take, C_take⟩ := ok_take (P := P) (w := w) (base := base) (γ := γ) T TT
  obtain ⟨f_looks, fd_looks, C_looks⟩ := ok_looks (P := P) (w := w) (base := base) (γ := γ) T TT
  obtain ⟨f_read_block, fd_read_block, C_read_block⟩ := ok_read_block (P := P) (w := w) (base := base) (γ := γ) T TT
  obtain ⟨f_stop, fd_stop, C_stop⟩ := ok_stop (P := P) (w := w) (base := base) (γ := γ) T TT
  obtain ⟨fd, F⟩ := T.ok.def_ 20 (d := d_tree_by) rfl
  refine ⟨_, fd, F, T.g 47, F.bindsN fun _ _ _ _ _ _ us hl => match us, hl with | [_], _ => rfl, FunD.okE (fb := fb_tree_by) F sc_tree_by rfl rfl fun cdv A outer s H E hn hr => ?_⟩
  have S := sc_tree_by
  exact s_cons (s_setG (ps_set S.nd rfl (Or.inl rfl) (e_ix ix_seq og_ix (e_call rfl C_take.ok hn (hr.mono (by decide)) (by rfl) C_take.m C_take.F.kp C_take.b (pass_of takes_def) (a_cons (e_var (pv 0)) (a_cons (e_str) (a_nil)))) (e_int) (fun _ _ => rfl)))) (s_cons (s_setG (ps_set S.nd rfl (Or.inl rfl) (e_ix ix_seq og_ix (e_call rfl C_take.ok hn (hr.mono (by decide)) (by rfl) C_take.m C_take.F.kp C_take.b (pass_of takes_def) (a_cons (e_var (pv 0)) (a_cons (e_str) (a_nil)))) (e_int) (fun _ _ => rfl)))) (s_cons (s_expr (e_call rfl C_take.ok hn (hr.mono (by decide)) (by rfl) C_take.m C_take.F.kp C_take.b (pass_of takes_def) (a_cons (e_var (pv 0)) (a_cons (e_str) (a_nil))))) (s_cons (s_setG (ps_set S.nd rfl (Or.inl rfl) (e_nx (W := WN) (PE.nox (e_if (t_not (t_tru rfl (e_call rfl C_looks.ok hn (hr.mono (by decide)) (by rfl) C_looks.m C_looks.F.kp C_looks.b pass0 (a_cons (e_var (pv 0)) (a_cons (e_tup (a_cons (e_str) (a_nil))) (a_nil)))) (fun _ => rfl))) (e_never) (e_fz (e_lst (a_nil)))))))) (s_cons (s_expr (e_call rfl C_take.ok hn (hr.mono (by decide)) (by rfl) C_take.m C_take.F.kp C_take.b (pass_of takes_def) (a_cons (e_var (pv 0)) (a_cons (e_str) (a_nil))))) (s_cons (s_setG (ps_set S.nd rfl (Or.inl rfl) (e_call rfl C_read_block.ok hn (hr.mono (by decide)) (by rfl) C_read_block.m C_read_block.F.kp C_read_block.b (pass_of takes_def) (a_cons (e_var (pv 0)) (a_nil))))) (s_cons (s_if (t_nx (W := WN) (PT.nox (t_not (t_tru rfl (e_call rfl C_looks.ok hn (hr.mono (by decide)) (by rfl) C_looks.m C_looks.F.kp C_looks.b pass0 (a_cons (e_var (pv 0)) (a_cons (e_tup (a_cons (e_str) (a_nil))) (a_nil)))) (fun _ => rfl))))) (s_one (s_expr (e_call rfl C_stop.ok hn (hr.mono (by decide)) (by rfl) C_stop.m C_stop.F.kp C_stop.b (pass_of takes_def) (a_cons (e_var (pv 0)) (a_cons (e_str) (a_nil)))))) (s_nil)) (s_one (s_ret (e_tup (a_cons (e_str) (a_cons (e_var (pv 2)) (a_cons (b_ty call_tuple_of cg_tuple (by rfl) (by rfl) (T.f 8) (a_cons (e_fz (e_lcV [("one", 5), ("at", 6)] rfl S.nd (i_any rfl (e_var (pv 3))) (blkOk_by (own := [("one", 5), ("at", 6)]) (by kernel_rfl)) (fun _ _ _ _ _ => t_tup rfl rfl (ts_cons (t_name (pg_name S.nd rfl (Or.inl rfl))) (ts_cons (t_name (pg_name S.nd rfl (Or.inl rfl))) (ts_nil)))) (fun _ _ _ _ _ => c_nil) (fun _ _ _ _ _ => e_var (pv 5)) (by decide))) (a_nil))) (a_cons (e_var (pv 4)) (a_cons (e_var (pv 1)) (a_nil)))))))))))))))
theorem ok_reader_of (T : Fx faL fnL K mg) (TT : Tups ⟨K, γ⟩) : ∃ f fd, Cal P w K mg base (L2.CX P w) 5 "reader_of" ["text"] (spF ⟨K, γ⟩ (WFx ⟨K, γ⟩ (cl K)) 1 (fe_reader_of)) (defArgs s_reader_of) (defBody s_reader_of) (defScope s_reader_of) f fd := by
  obtain ⟨f_read_signs, fd_read_signs, C_read_signs⟩ := ok_read_signs (P := P) (w := w) (base := base) (γ := γ) T TT
  obtain ⟨fd, F⟩ := T.ok.def_ 21 (d := d_reader_of) rfl
  obtain ⟨fdi_BadDeed, init_BadDeed, bind_BadDeed⟩ := init_BadDeed (P := P) (w := w) (base := base) T
  have X_BadDeed := exf_BadDeed T TT
  refine ⟨_, fd, F, T.g 48, F.bindsN fun _ _ _ _ _ _ us hl => match us, hl with | [_], _ => rfl, FunD.okE (fb := fb_reader_of) F sc_reader_of rfl rfl fun cdv A outer s H E hn hr => ?_⟩
  have S := sc_reader_of
  exact s_cons (s_asg (e_nx (W := WN) (PE.nox (e_fz (e_call rfl C_read_signs.ok hn (hr.mono (by decide)) (by rfl) C_read_signs.m C_read_signs.F.kp C_read_signs.b pass0 (a_cons (e_var (pv 0)) (a_nil)))))) (t_tup rfl rfl (ts_cons (t_name (pg_name S.nd rfl (Or.inl rfl))) (ts_cons (t_name (pg_name S.nd rfl (Or.inl rfl))) (ts_cons (t_name (pg_name S.nd rfl (Or.inl rfl))) (ts_nil)))))) (s_cons (s_if (t_cmp op_isNU og_is (e_var (pv 3)) (e_non) rfl) (s_one (s_raise1 rfl X_BadDeed.T X_BadDeed.iC X_BadDeed.tI X_BadDeed.no init_BadDeed (hr.mono (by decide)) bind_BadDeed (by rfl) X_BadDeed.m (cl_BadDeed _) rfl takes_def (e_var (pv 3)))) (s_nil)) (s_one (s_ret (e_disp (pp_cons (e_str) (e_fz (e_op op_addU og_add (e_var (pv 1)) (e_fz (e_lst (a_cons (e_tup (a_cons (e_str) (a_cons (e_var (pv 2)) (a_nil)))) (a_nil)))))) (pp_cons (e_str) (e_int) (pp_cons (e_str) (e_newD) (pp_cons (e_str) (e_int) (pp_cons (e_str) (e_int) (pp_cons (e_str) (e_int) (pp_cons (e_str) (e_int) (pp_cons (e_str) (e_int) (pp_nil))))))))) rfl rfl (fun z => nomatch z) (by decide)))))
theorem ok_tree_of (T : Fx faL fnL K mg) (TT : Tups ⟨K, γ⟩) : ∃ f fd, Cal P w K mg base (L2.CX P w) 7 "tree_of" ["text"] (spF ⟨K, γ⟩ (WFx ⟨K, γ⟩ (cl K)) 1 (fe_tree_of)) (defArgs s_tree_of) (defBody s_tree_of) (defScope s_tree_of) f fd := by
  obtain ⟨f_tree_by, fd_tree_by, C_tree_by⟩ := ok_tree_by (P := P) (w := w) (base := base) (γ := γ) T TT
  obtain ⟨f_reader_of, fd_reader_of, C_reader_of⟩ := ok_reader_of (P := P) (w := w) (base := base) (γ := γ) T TT
  obtain ⟨fd, F⟩ := T.ok.def_ 22 (d := d_tree_of) rfl
  refine ⟨_, fd, F, T.g 49, F.bindsN fun _ _ _ _ _ _ us hl => match us, hl with | [_], _ => rfl, FunD.okE (fb := fb_tree_of) F sc_tree_of rfl rfl fun cdv A outer s H E hn hr => ?_⟩
  have S := sc_tree_of
  exact s_one (s_ret (e_call rfl C_tree_by.ok hn (hr.mono (by decide)) (by rfl) C_tree_by.m C_tree_by.F.kp C_tree_by.b (pass_of takes_def) (a_cons (e_call rfl C_reader_of.ok hn (hr.mono (by decide)) (by rfl) C_reader_of.m C_reader_of.F.kp C_reader_of.b (pass_of takes_def) (a_cons (e_var (pv 0)) (a_nil))) (a_nil))))
theorem ok_deed_fault (T : Fx faL fnL K mg) (TT : Tups ⟨K, γ⟩) : ∃ f fd, Cal P w K mg base CX0 8 "deed_fault" ["text"] (spF ⟨K, γ⟩ WF0 1 (fe_deed_fault)) (defArgs s_deed_fault) (defBody s_deed_fault) (defScope s_deed_fault) f fd := by
  obtain ⟨f_check_text, fd_check_text, C_check_text⟩ := ok_check_text (P := P) (w := w) (base := base) (γ := γ) T TT
  obtain ⟨f_tree_of, fd_tree_of, C_tree_of⟩ := ok_tree_of (P := P) (w := w) (base := base) (γ := γ) T TT
  obtain ⟨fd, F⟩ := T.ok.def_ 23 (d := d_deed_fault) rfl
  obtain ⟨fdi_BadDeed, init_BadDeed, bind_BadDeed⟩ := init_BadDeed (P := P) (w := w) (base := base) T
  have X_BadDeed := exf_BadDeed T TT
  refine ⟨_, fd, F, T.g 50, F.bindsN fun _ _ _ _ _ _ us hl => match us, hl with | [_], _ => rfl, FunD.okE (fb := fb_deed_fault) F sc_deed_fault rfl rfl fun cdv A outer s H E hn hr => PSs.nox ?_⟩
  have S := sc_deed_fault
  exact s_cons (s_expr (e_call rfl C_check_text.ok hn (hr.mono (by decide)) (by rfl) C_check_text.m C_check_text.F.kp C_check_text.b pass0 (a_cons (e_var (pv 0)) (a_nil)))) (s_cons (s_tryF (i := 1) S.nd rfl rfl (Or.inl rfl) rfl rfl ⟨by rfl, by decide, .inl X_BadDeed.m⟩ (cl_BadDeed _) X_BadDeed.ex X_BadDeed.xf X_BadDeed.no (fun W pn xe tk => s_one (s_expr (e_call rfl C_tree_of.ok hn (hr.mono (by decide)) (by rfl) C_tree_of.m C_tree_of.F.kp C_tree_of.b (pass_try tk) (a_cons (e_var (pv 0)) (a_nil)))))) (s_one (s_ret (e_non))))
theorem ok__law_letters (T : Fx faL fnL K mg) (TT : Tups ⟨K, γ⟩) : ∃ f fd, Cal P w K mg base CX0 1 "_law_letters" [] (spF ⟨K, γ⟩ WF0 0 (fe__law_letters)) (defArgs s__law_letters) (defBody s__law_letters) (defScope s__law_letters) f fd := by
  obtain ⟨fd, F⟩ := T.ok.def_ 24 (d := d__law_letters) rfl
  refine ⟨_, fd, F, T.g 51, F.bindsN fun _ _ _ _ _ _ us hl => match us, hl with | [], _ => rfl, FunD.okE (fb := fb__law_letters) F sc__law_letters rfl rfl fun cdv A outer s H E hn hr => PSs.nox ?_⟩
  have S := sc__law_letters
  exact s_one (s_ret (e_str))
theorem ok__law_digits (T : Fx faL fnL K mg) (TT : Tups ⟨K, γ⟩) : ∃ f fd, Cal P w K mg base CX0 1 "_law_digits" [] (spF ⟨K, γ⟩ WF0 0 (fe__law_digits)) (defArgs s__law_digits) (defBody s__law_digits) (defScope s__law_digits) f fd := by
  obtain ⟨fd, F⟩ := T.ok.def_ 25 (d := d__law_digits) rfl
  refine ⟨_, fd, F, T.g 52, F.bindsN fun _ _ _ _ _ _ us hl => match us, hl with | [], _ => rfl, FunD.okE (fb := fb__law_digits) F sc__law_digits rfl rfl fun cdv A outer s H E hn hr => PSs.nox ?_⟩
  have S := sc__law_digits
  exact s_one (s_ret (e_str))
theorem ok__law_end (T : Fx faL fnL K mg) (TT : Tups ⟨K, γ⟩) : ∃ f fd, Cal P w K mg base CX0 2 "_law_end" ["text", "at"] (spF ⟨K, γ⟩ WF0 2 (fe__law_end)) (defArgs s__law_end) (defBody s__law_end) (defScope s__law_end) f fd := by
  obtain ⟨f__law_letters, fd__law_letters, C__law_letters⟩ := ok__law_letters (P := P) (w := w) (base := base) (γ := γ) T TT
  obtain ⟨f__law_digits, fd__law_digits, C__law_digits⟩ := ok__law_digits (P := P) (w := w) (base := base) (γ := γ) T TT
  obtain ⟨fd, F⟩ := T.ok.def_ 26 (d := d__law_end) rfl
  refine ⟨_, fd, F, T.g 53, F.bindsN fun _ _ _ _ _ _ us hl => match us, hl with | [_, _], _ => rfl, FunD.okE (fb := fb__law_end) F sc__law_end rfl rfl fun cdv A outer s H E hn hr => PSs.nox ?_⟩
  have S := sc__law_end
  exact s_cons (s_setG (ps_set S.nd rfl (Or.inl rfl) (e_if (t_cmp (op_inUD (units65_of hr)) og_inD (e_ix ix_seq og_ix (e_var (pv 0)) (e_var (pv 1)) (fun _ _ => rfl)) (e_call0 rfl C__law_letters.ok hn (hr.mono (by decide)) (by rfl) C__law_letters.m C__law_letters.F.kp C__law_letters.b pass0) rfl) (e_call0 rfl C__law_letters.ok hn (hr.mono (by decide)) (by rfl) C__law_letters.m C__law_letters.F.kp C__law_letters.b pass0) (e_if (t_cmp (op_inUD (units65_of hr)) og_inD (e_ix ix_seq og_ix (e_var (pv 0)) (e_var (pv 1)) (fun _ _ => rfl)) (e_call0 rfl C__law_digits.ok hn (hr.mono (by decide)) (by rfl) C__law_digits.m C__law_digits.F.kp C__law_digits.b pass0) rfl) (e_call0 rfl C__law_digits.ok hn (hr.mono (by decide)) (by rfl) C__law_digits.m C__law_digits.F.kp C__law_digits.b pass0) (e_str))))) (s_cons (s_if (t_cmp (op_eqU (units_of hr)) og_eq (e_var (pv 2)) (e_str) rfl) (s_one (s_ret (e_if (t_cmp (op_inUD (units65_of hr)) og_inD (e_slice sl_U sg_U (e_var (pv 0)) (o_some (e_var (pv 1))) (o_some (e_op op_addU og_add (e_var (pv 1)) (e_int)))) (e_tup (a_cons (e_str) (a_cons (e_str) (a_cons (e_str) (a_nil))))) rfl) (e_op op_addU og_add (e_var (pv 1)) (e_int)) (e_op op_addU og_add (e_var (pv 1)) (e_int))))) (s_nil)) (s_cons (s_setG (ps_set S.nd rfl (Or.inl rfl) (e_var (pv 1)))) (s_cons (s_while PassesOwn.never (PW.pt (w_and (t_cmp op_ltU og_relU (e_var (pv 3)) (b_fn call_lenU cg_len boot_len (by rfl) (T.f 3) (a_cons (e_var (pv 0)) (a_nil))) rfl) (w_and1 (t_cmp (op_inUD (units65_of hr)) og_inD (e_ix ix_seq og_ix (e_var (pv 0)) (e_var (pv 3)) (fun _ _ => rfl)) (e_var (pv 2)) rfl)))) (s_one (s_setG (ps_set S.nd rfl (Or.inl rfl) (e_op op_addU og_add (e_var (pv 3)) (e_int)))))) (s_one (s_ret (e_var (pv 3)))))))
theorem ok__law_place (T : Fx faL fnL K mg) (TT : Tups ⟨K, γ⟩) : ∃ f fd, Cal P w K mg base CX0 1 "_law_place" ["text", "at"] (spF ⟨K, γ⟩ WF0 2 (fe__law_place)) (defArgs s__law_place) (defBody s__law_place) (defScope s__law_place) f fd := by
  obtain ⟨fd, F⟩ := T.ok.def_ 27 (d := d__law_place) rfl
  refine ⟨_, fd, F, T.g 54, F.bindsN fun _ _ _ _ _ _ us hl => match us, hl with | [_, _], _ => rfl, FunD.okE (fb := fb__law_place) F sc__law_place rfl rfl fun cdv A outer s H E hn hr => PSs.nox ?_⟩
  have S := sc__law_place
  exact s_one (s_ret (e_tup (a_cons (e_op op_addU og_add (m_str rfl PySem.F.slot_str_count PySem.F.type_str_count mt_count mg_countS (e_slice sl_U sg_U (e_var (pv 0)) (o_none) (o_some (e_var (pv 1)))) (a_cons (e_str) (a_nil))) (e_int)) (a_cons (e_op op_sub og_sub (e_var (pv 1)) (m_str rfl PySem.F.slot_str_rfind PySem.F.type_str_rfind mt_rfind mg_rfind (e_slice sl_U sg_U (e_var (pv 0)) (o_none) (o_some (e_var (pv 1)))) (a_cons (e_str) (a_nil)))) (a_nil)))))
theorem ok__law_signs (T : Fx faL fnL K mg) (TT : Tups ⟨K, γ⟩) : ∃ f fd, Cal P w K mg base CX0 1 "_law_signs" [] (spF ⟨K, γ⟩ WF0 0 (fe__law_signs)) (defArgs s__law_signs) (defBody s__law_signs) (defScope s__law_signs) f fd := by
  obtain ⟨fd, F⟩ := T.ok.def_ 28 (d := d__law_signs) rfl
  refine ⟨_, fd, F, T.g 55, F.bindsN fun _ _ _ _ _ _ us hl => match us, hl with | [], _ => rfl, FunD.okE (fb := fb__law_signs) F sc__law_signs rfl rfl fun cdv A outer s H E hn hr => PSs.nox ?_⟩
  have S := sc__law_signs
  exact s_one (s_ret (e_str))
theorem ok__law_lex (T : Fx faL fnL K mg) (TT : Tups ⟨K, γ⟩) : ∃ f fd, Cal P w K mg base CX0 3 "_law_lex" ["text"] (spF ⟨K, γ⟩ WF0 1 (fe__law_lex)) (defArgs s__law_lex) (defBody s__law_lex) (defScope s__law_lex) f fd := by
  obtain ⟨f__law_place, fd__law_place, C__law_place⟩ := ok__law_place (P := P) (w := w) (base := base) (γ := γ) T TT
  obtain ⟨f__law_end, fd__law_end, C__law_end⟩ := ok__law_end (P := P) (w := w) (base := base) (γ := γ) T TT
  obtain ⟨f__law_letters, fd__law_letters, C__law_letters⟩ := ok__law_letters (P := P) (w := w) (base := base) (γ := γ) T TT
  obtain ⟨f__law_digits, fd__law_digits, C__law_digits⟩ := ok__law_digits (P := P) (w := w) (base := base) (γ := γ) T TT
  obtain ⟨f__law_signs, fd__law_signs, C__law_signs⟩ := ok__law_signs (P := P) (w := w) (base := base) (γ := γ) T TT
  obtain ⟨fd, F⟩ := T.ok.def_ 29 (d := d__law_lex) rfl
  refine ⟨_, fd, F, T.g 56, F.bindsN fun _ _ _ _ _ _ us hl => match us, hl with | [_], _ => rfl, FunD.okE (fb := fb__law_lex) F sc__law_lex rfl rfl fun cdv A outer s H E hn hr => PSs.nox ?_⟩
  have S := sc__law_lex
  exact s_cons (s_par3G (ps_par3 rfl S.nd rfl rfl rfl (by decide) (by decide) (by decide) rfl rfl rfl (a_cons (e_lst (a_nil)) (a_cons (e_lst (a_nil)) (a_cons (e_int) (a_nil)))) rfl)) (s_cons (s_while PassesOwn.never (t_cmp op_ltU og_relU (e_var (pv 3)) (b_fn call_lenU cg_len boot_len (by rfl) (T.f 3) (a_cons (e_var (pv 0)) (a_nil))) rfl) (s_cons (s_parG (ps_par rfl S.nd rfl rfl (by decide) rfl rfl (a_cons (e_call rfl C__law_end.ok hn (hr.mono (by decide)) (by rfl) C__law_end.m C__law_end.F.kp C__law_end.b pass0 (a_cons (e_var (pv 0)) (a_cons (e_var (pv 3)) (a_nil)))) (a_cons (e_call rfl C__law_place.ok hn (hr.mono (by decide)) (by rfl) C__law_place.m C__law_place.F.kp C__law_place.b pass0 (a_cons (e_var (pv 0)) (a_cons (e_var (pv 3)) (a_nil)))) (a_nil))) rfl)) (s_cons (s_parG (ps_par rfl S.nd rfl rfl (by decide) rfl rfl (a_cons (e_slice sl_U sg_U (e_var (pv 0)) (o_some (e_var (pv 3))) (o_some (e_var (pv 4)))) (a_cons (e_slice sl_U sg_U (e_var (pv 0)) (o_some (e_op op_sub og_sub (e_var (pv 3)) (e_int))) (o_some (e_var (pv 3)))) (a_nil))) rfl)) (s_cons (s_setG (ps_set S.nd rfl (Or.inl rfl) (e_and (e_cmp (op_neU (units_of hr)) og_eq (e_var (pv 7)) (e_str) rfl) (e_one (e_or (e_and (e_cmp (op_inUD (units65_of hr)) og_inD (e_ix ix_seq og_ix (e_var (pv 6)) (e_int) (fun _ _ => rfl)) (e_call0 rfl C__law_letters.ok hn (hr.mono (by decide)) (by rfl) C__law_letters.m C__law_letters.F.kp C__law_letters.b pass0) rfl) (e_one (e_cmp (op_inUD (units65_of hr)) og_inD (e_var (pv 7)) (e_call0 rfl C__law_digits.ok hn (hr.mono (by decide)) (by rfl) C__law_digits.m C__law_digits.F.kp C__law_digits.b pass0) rfl))) (e_one (e_and (e_cmp (op_inUD (units65_of hr)) og_inD (e_ix ix_seq og_ix (e_var (pv 6)) (e_int) (fun _ _ => rfl)) (e_call0 rfl C__law_digits.ok hn (hr.mono (by decide)) (by rfl) C__law_digits.m C__law_digits.F.kp C__law_digits.b pass0) rfl) (e_one (e_cmp (op_inUD (units65_of hr)) og_inD (e_var (pv 7)) (e_call0 rfl C__law_letters.ok hn (hr.mono (by decide)) (by rfl) C__law_letters.m C__law_letters.F.kp C__law_letters.b pass0) rfl))))))))) (s_cons (s_if (t_cmp (op_notInUD (units65_of hr)) og_inD (e_ix ix_seq og_ix (e_var (pv 6)) (e_int) (fun _ _ => rfl)) (e_op op_addU og_add (e_op op_addU og_add (e_op op_addU og_add (e_call0 rfl C__law_letters.ok hn (hr.mono (by decide)) (by rfl) C__law_letters.m C__law_letters.F.kp C__law_letters.b pass0) (e_call0 rfl C__law_digits.ok hn (hr.mono (by decide)) (by rfl) C__law_digits.m C__law_digits.F.kp C__law_digits.b pass0)) (e_call0 rfl C__law_signs.ok hn (hr.mono (by decide)) (by rfl) C__law_signs.m C__law_signs.F.kp C__law_signs.b pass0)) (e_str)) rfl) (s_one (s_expr (m_list rfl PySem.F.slot_list_append PySem.F.type_list_append mt_append mg_append (e_var (pv 2)) (a_cons (e_op op_addU og_add (e_tup (a_cons (e_str) (a_nil))) (e_var (pv 5))) (a_nil))))) (s_nil)) (s_cons (s_if (PW.pt (w_and (t_cmp (op_inUD (units65_of hr)) og_inD (e_ix ix_seq og_ix (e_var (pv 6)) (e_int) (fun _ _ => rfl)) (e_call0 rfl C__law_digits.ok hn (hr.mono (by decide)) (by rfl) C__law_digits.m C__law_digits.F.kp C__law_digits.b pass0) rfl) (w_and1 (PW.pt (w_or (t_cmp op_gtU og_relU (b_fn call_lenU cg_len boot_len (by rfl) (T.f 3) (a_cons (e_var (pv 6)) (a_nil))) (e_int) rfl) (w_or1 (PW.pt (w_and (t_cmp (op_eqU (units_of hr)) og_eq (e_ix ix_seq og_ix (e_var (pv 6)) (e_int) (fun _ _ => rfl)) (e_str) rfl) (w_and1 (t_cmp op_gtU og_relU (b_fn call_lenU cg_len boot_len (by rfl) (T.f 3) (a_cons (e_var (pv 6)) (a_nil))) (e_int) rfl)))))))))) (s_one (s_expr (m_list rfl PySem.F.slot_list_append PySem.F.type_list_append mt_append mg_append (e_var (pv 2)) (a_cons (e_op op_addU og_add (e_tup (a_cons (e_str) (a_nil))) (e_var (pv 5))) (a_nil))))) (s_nil)) (s_cons (s_if (PW.pt (w_or (PW.pt (w_and (t_cmp (op_inUD (units65_of hr)) og_inD (e_ix ix_seq og_ix (e_var (pv 6)) (e_int) (fun _ _ => rfl)) (e_call0 rfl C__law_letters.ok hn (hr.mono (by decide)) (by rfl) C__law_letters.m C__law_letters.F.kp C__law_letters.b pass0) rfl) (w_and1 (t_cmp op_gtU og_relU (b_fn call_lenU cg_len boot_len (by rfl) (T.f 3) (a_cons (e_var (pv 6)) (a_nil))) (e_int) rfl)))) (w_or1 (t_tru rfl (e_var (pv 8)) (fun _ => rfl))))) (s_one (s_expr (m_list rfl PySem.F.slot_list_append PySem.F.type_list_append mt_append mg_append (e_var (pv 2)) (a_cons (e_op op_addU og_add (e_tup (a_cons (e_str) (a_nil))) (e_var (pv 5))) (a_nil))))) (s_nil)) (s_cons (s_if (t_cmp (op_inUD (units65_of hr)) og_inD (e_ix ix_seq og_ix (e_var (pv 6)) (e_int) (fun _ _ => rfl)) (e_op op_addU og_add (e_op op_addU og_add (e_call0 rfl C__law_letters.ok hn (hr.mono (by decide)) (by rfl) C__law_letters.m C__law_letters.F.kp C__law_letters.b pass0) (e_call0 rfl C__law_digits.ok hn (hr.mono (by decide)) (by rfl) C__law_digits.m C__law_digits.F.kp C__law_digits.b pass0)) (e_call0 rfl C__law_signs.ok hn (hr.mono (by decide)) (by rfl) C__law_signs.m C__law_signs.F.kp C__law_signs.b pass0)) rfl) (s_one (s_expr (m_list rfl PySem.F.slot_list_append PySem.F.type_list_append mt_append mg_append (e_var (pv 1)) (a_cons (e_tup (a_cons (e_var (pv 6)) (a_cons (e_var (pv 5)) (a_nil)))) (a_nil))))) (s_nil)) (s_one (s_setG (ps_set S.nd rfl (Or.inl rfl) (e_var (pv 4))))))))))))) (s_cons (s_if (t_cmp op_gtU og_relU (b_fn call_lenU cg_len boot_len (by rfl) (T.f 3) (a_cons (e_var (pv 0)) (a_nil))) (e_int) rfl) (s_one (s_expr (m_list rfl PySem.F.slot_list_append PySem.F.type_list_append mt_append mg_append (e_var (pv 2)) (a_cons (e_op op_addU og_add (e_tup (a_cons (e_str) (a_nil))) (e_call rfl C__law_place.ok hn (hr.mono (by decide)) (by rfl) C__law_place.m C__law_place.F.kp C__law_place.b pass0 (a_cons (e_var (pv 0)) (a_cons (e_int) (a_nil))))) (a_nil))))) (s_nil)) (s_one (s_ret (e_tup (a_cons (e_var (pv 1)) (a_cons (e_var (pv 2)) (a_nil))))))))
theorem ok__law_first (T : Fx faL fnL K mg) (TT : Tups ⟨K, γ⟩) : ∃ f fd, Cal P w K mg base CX0 1 "_law_first" ["faults"] (spF ⟨K, γ⟩ WF0 1 (fe__law_first)) (defArgs s__law_first) (defBody s__law_first) (defScope s__law_first) f fd := by
  obtain ⟨fd, F⟩ := T.ok.def_ 30 (d := d__law_first) rfl
  refine ⟨_, fd, F, T.g 57, F.bindsN fun _ _ _ _ _ _ us hl => match us, hl with | [_], _ => rfl, FunD.okE (fb := fb__law_first) F sc__law_first rfl rfl fun cdv A outer s H E hn hr => PSs.nox ?_⟩
  have S := sc__law_first
  exact s_cons (s_setG (ps_set S.nd rfl (Or.inr rfl) (e_fz (b_fn cr_sortedQ cg_sortQ boot_sorted' (by rfl) (T.f 25) (a_cons (e_fz (e_lcV [("one", 3)] rfl S.nd (i_any rfl (e_var (pv 0))) (blkOk_by (own := [("one", 3)]) (by kernel_rfl)) (fun _ _ _ _ _ => t_name (pg_name S.nd rfl (Or.inl rfl))) (fun _ _ _ _ _ => c_nil) (fun _ _ _ _ _ => e_slice sl_U sg_U (e_var (pv 3)) (o_some (e_int)) (o_none)) (by decide))) (a_nil)))))) (s_cons (s_if (t_cmp (op_eqU (units_of hr)) og_eq (e_var (pv 1)) (e_fz (e_lst (a_nil))) rfl) (s_one (s_ret (e_tup (a_cons (e_bl) (a_cons (e_non) (a_nil)))))) (s_nil)) (s_cons (s_setLcZ [("one", 3)] rfl S.nd rfl rfl (sw_true rfl rfl rfl rfl) (i_any rfl (e_var (pv 0))) (blkOk_by (own := [("one", 3)]) (by kernel_rfl)) (fun _ _ _ _ _ => t_name (pg_name S.nd rfl (Or.inl rfl))) (fun _ _ _ _ _ => pts_one (t_cmp (op_eqU (units_of hr)) og_eq (e_slice sl_U sg_U (e_var (pv 3)) (o_some (e_int)) (o_none)) (e_ix ix_seq og_ix (e_var (pv 1)) (e_int) (fun _ _ => rfl)) rfl)) (fun _ _ _ _ _ => e_var (pv 3)) (by decide)) (s_one (s_ret (e_tup (a_cons (e_cmp (op_eqU (units_of hr)) og_eq (b_fn call_lenU cg_len boot_len (by rfl) (T.f 3) (a_cons (e_var (pv 2)) (a_nil))) (e_int) rfl) (a_cons (e_ix ix_seq og_ix (e_var (pv 2)) (e_int) (fun _ _ => rfl)) (a_nil))))))))
theorem ok_tokens (T : Fx faL fnL K mg) (TT : Tups ⟨K, γ⟩) : ∃ f fd, Cal P w K mg base CX0 5 "tokens" ["text"] (spF ⟨K, γ⟩ WF0 1 (fe_tokens)) (defArgs s_tokens) (defBody s_tokens) (defScope s_tokens) f fd := by
  obtain ⟨f_check_text, fd_check_text, C_check_text⟩ := ok_check_text (P := P) (w := w) (base := base) (γ := γ) T TT
  obtain ⟨f_read_signs, fd_read_signs, C_read_signs⟩ := ok_read_signs (P := P) (w := w) (base := base) (γ := γ) T TT
  obtain ⟨fd, F⟩ := T.ok.def_ 31 (d := d_tokens) rfl
  refine ⟨_, fd, F, T.g 58, F.bindsN fun _ _ _ _ _ _ us hl => match us, hl with | [_], _ => rfl, FunD.okE (fb := fb_tokens) F sc_tokens rfl rfl fun cdv A outer s H E hn hr => PSs.nox ?_⟩
  have S := sc_tokens
  exact s_cons (s_expr (e_call rfl C_check_text.ok hn (hr.mono (by decide)) (by rfl) C_check_text.m C_check_text.F.kp C_check_text.b pass0 (a_cons (e_var (pv 0)) (a_nil)))) (s_one (s_ret (e_ix ix_seq og_ix (e_call rfl C_read_signs.ok hn (hr.mono (by decide)) (by rfl) C_read_signs.m C_read_signs.F.kp C_read_signs.b pass0 (a_cons (e_var (pv 0)) (a_nil))) (e_int) (fun _ _ => rfl))))
theorem ok__law_draw (T : Fx faL fnL K mg) (TT : Tups ⟨K, γ⟩) : ∃ f fd, Cal P w K mg base CX0 1 "_law_draw" ["pot", "many"] (spF ⟨K, γ⟩ WF0 2 (fe__law_draw)) (defArgs s__law_draw) (defBody s__law_draw) (defScope s__law_draw) f fd := by
  obtain ⟨fd, F⟩ := T.ok.def_ 32 (d := d__law_draw) rfl
  refine ⟨_, fd, F, T.g 59, F.bindsN fun _ _ _ _ _ _ us hl => match us, hl with | [_, _], _ => rfl, FunD.okE (fb := fb__law_draw) F sc__law_draw rfl rfl fun cdv A outer s H E hn hr => PSs.nox ?_⟩
  have S := sc__law_draw
  exact s_cons (s_if (t_cmp op_gtU og_relU (e_ix ix_seq og_ix (e_var (pv 0)) (e_int) (fun _ _ => rfl)) (e_int) rfl) (s_cons (s_setG (ps_set S.nd rfl (Or.inl rfl) (e_op op_mod og_mod (b_ty call_intU cg_intU (by rfl) (by rfl) (T.f 2) (a_cons (e_ix ix_seq og_ix (e_var (pv 0)) (e_int) (fun _ _ => rfl)) (a_nil))) (e_var (pv 1))))) (s_cons (s_asg (e_op op_fdiv og_div (b_ty call_intU cg_intU (by rfl) (by rfl) (T.f 2) (a_cons (e_ix ix_seq og_ix (e_var (pv 0)) (e_int) (fun _ _ => rfl)) (a_nil))) (e_var (pv 1))) (t_sub sg_list (e_var (pv 0)) (e_int) set_list)) (s_one (s_ret (e_var (pv 2)))))) (s_nil)) (s_cons (s_asg (e_op op_mod og_mod (b_ty call_intU cg_intU (by rfl) (by rfl) (T.f 2) (a_cons (e_op op_addU og_add (e_op op_mulU og_mulU (e_ix ix_seq og_ix (e_var (pv 0)) (e_int) (fun _ _ => rfl)) (e_int)) (e_int)) (a_nil))) (e_int)) (t_sub sg_list (e_var (pv 0)) (e_int) set_list)) (s_one (s_ret (e_op op_mod og_mod (b_ty call_intU cg_intU (by rfl) (by rfl) (T.f 2) (a_cons (e_op op_fdiv og_div (e_op op_mod og_mod (b_ty call_intU cg_intU (by rfl) (by rfl) (T.f 2) (a_cons (e_op op_mulU og_mulU (e_ix ix_seq og_ix (e_var (pv 0)) (e_int) (fun _ _ => rfl)) (e_ix ix_seq og_ix (e_var (pv 0)) (e_int) (fun _ _ => rfl))) (a_nil))) (e_int)) (e_int)) (a_nil))) (e_var (pv 1))))))
theorem ok__law_pick (T : Fx faL fnL K mg) (TT : Tups ⟨K, γ⟩) : ∃ f fd, Cal P w K mg base CX0 2 "_law_pick" ["pot", "some"] (spF ⟨K, γ⟩ WF0 2 (fe__law_pick)) (defArgs s__law_pick) (defBody s__law_pick) (defScope s__law_pick) f fd := by
  obtain ⟨f__law_draw, fd__law_draw, C__law_draw⟩ := ok__law_draw (P := P) (w := w) (base := base) (γ := γ) T TT
  obtain ⟨fd, F⟩ := T.ok.def_ 33 (d := d__law_pick) rfl
  refine ⟨_, fd, F, T.g 60, F.bindsN fun _ _ _ _ _ _ us hl => match us, hl with | [_, _], _ => rfl, FunD.okE (fb := fb__law_pick) F sc__law_pick rfl rfl fun cdv A outer s H E hn hr => PSs.nox ?_⟩
  have S := sc__law_pick
  exact s_one (s_ret (e_ix ix_seq og_ix (e_var (pv 1)) (e_call rfl C__law_draw.ok hn (hr.mono (by decide)) (by rfl) C__law_draw.m C__law_draw.F.kp C__law_draw.b pass0 (a_cons (e_var (pv 0)) (a_cons (b_fn call_lenU cg_len boot_len (by rfl) (T.f 3) (a_cons (e_var (pv 1)) (a_nil))) (a_nil)))) (fun _ _ => rfl)))
theorem ok__law_piece (T : Fx faL fnL K mg) (TT : Tups ⟨K, γ⟩) : ∃ f fd, Cal P w K mg base CX0 3 "_law_piece" ["pot"] (spF ⟨K, γ⟩ WF0 1 (fe__law_piece)) (defArgs s__law_piece) (defBody s__law_piece) (defScope s__law_piece) f fd := by
  obtain ⟨f__law_draw, fd__law_draw, C__law_draw⟩ := ok__law_draw (P := P) (w := w) (base := base) (γ := γ) T TT
  obtain ⟨f__law_pick, fd__law_pick, C__law_pick⟩ := ok__law_pick (P := P) (w := w) (base := base) (γ := γ) T TT
  obtain ⟨fd, F⟩ := T.ok.def_ 34 (d := d__law_piece) rfl
  refine ⟨_, fd, F, T.g 61, F.bindsN fun _ _ _ _ _ _ us hl => match us, hl with | [_], _ => rfl, FunD.okE (fb := fb__law_piece) F sc__law_piece rfl rfl fun cdv A outer s H E hn hr => PSs.nox ?_⟩
  have S := sc__law_piece
  exact s_cons (s_setG (ps_set S.nd rfl (Or.inl rfl) (e_call rfl C__law_draw.ok hn (hr.mono (by decide)) (by rfl) C__law_draw.m C__law_draw.F.kp C__law_draw.b pass0 (a_cons (e_var (pv 0)) (a_cons (e_int) (a_nil)))))) (s_cons (s_if (t_cmp op_ltU og_relU (e_var (pv 1)) (e_int) rfl) (s_one (s_ret (e_call rfl C__law_pick.ok hn (hr.mono (by decide)) (by rfl) C__law_pick.m C__law_pick.F.kp C__law_pick.b pass0 (a_cons (e_var (pv 0)) (a_cons (e_fz (e_lst (a_cons (e_str) (a_cons (e_str) (a_cons (e_str) (a_cons (e_str) (a_cons (e_str) (a_cons (e_str) (a_cons (e_str) (a_nil)))))))))) (a_nil)))))) (s_nil)) (s_cons (s_if (t_cmp op_ltU og_relU (e_var (pv 1)) (e_int) rfl) (s_one (s_ret (e_call rfl C__law_pick.ok hn (hr.mono (by decide)) (by rfl) C__law_pick.m C__law_pick.F.kp C__law_pick.b pass0 (a_cons (e_var (pv 0)) (a_cons (e_fz (e_lst (a_cons (e_str) (a_cons (e_str) (a_cons (e_str) (a_cons (e_str) (a_cons (e_str) (a_cons (e_str) (a_cons (e_str) (a_nil)))))))))) (a_nil)))))) (s_nil)) (s_cons (s_if (t_cmp op_ltU og_relU (e_var (pv 1)) (e_int) rfl) (s_one (s_ret (e_call rfl C__law_pick.ok hn (hr.mono (by decide)) (by rfl) C__law_pick.m C__law_pick.F.kp C__law_pick.b pass0 (a_cons (e_var (pv 0)) (a_cons (e_fz (e_lst (a_cons (e_str) (a_cons (e_str) (a_cons (e_str) (a_cons (e_str) (a_cons (e_str) (a_cons (e_str) (a_cons (e_str) (a_cons (e_str) (a_cons (e_str) (a_cons (e_str) (a_cons (e_str) (a_cons (e_str) (a_cons (e_str) (a_cons (e_str) (a_cons (e_str) (a_cons (e_str) (a_cons (e_str) (a_cons (e_str) (a_nil))))))))))))))))))))) (a_nil)))))) (s_nil)) (s_one (s_ret (e_if (t_cmp (op_eqU (units_of hr)) og_eq (e_var (pv 1)) (e_int) rfl) (e_call rfl C__law_pick.ok hn (hr.mono (by decide)) (by rfl) C__law_pick.m C__law_pick.F.kp C__law_pick.b pass0 (a_cons (e_var (pv 0)) (a_cons (e_fz (e_lst (a_cons (e_str) (a_cons (e_str) (a_cons (e_str) (a_cons (e_str) (a_cons (e_str) (a_cons (e_str) (a_cons (e_str) (a_cons (e_str) (a_nil))))))))))) (a_nil)))) (e_str)))))))
theorem ok__law_right (T : Fx faL fnL K mg) (TT : Tups ⟨K, γ⟩) : ∃ f fd, Cal P w K mg base CX0 14 "_law_right" ["pot", "late"] (spF ⟨K, γ⟩ WF0 2 (fe__law_right)) (defArgs s__law_right) (defBody s__law_right) (defScope s__law_right) f fd := by
  obtain ⟨f__law_draw, fd__law_draw, C__law_draw⟩ := ok__law_draw (P := P) (w := w) (base := base) (γ := γ) T TT
  obtain ⟨f__law_piece, fd__law_piece, C__law_piece⟩ := ok__law_piece (P := P) (w := w) (base := base) (γ := γ) T TT
  obtain ⟨f__law_pick, fd__law_pick, C__law_pick⟩ := ok__law_pick (P := P) (w := w) (base := base) (γ := γ) T TT
  obtain ⟨f__law_lex, fd__law_lex, C__law_lex⟩ := ok__law_lex (P := P) (w := w) (base := base) (γ := γ) T TT
  obtain ⟨f__law_first, fd__law_first, C__law_first⟩ := ok__law_first (P := P) (w := w) (base := base) (γ := γ) T TT
  obtain ⟨f_tokens, fd_tokens, C_tokens⟩ := ok_tokens (P := P) (w := w) (base := base) (γ := γ) T TT
  obtain ⟨f__law_same, fd__law_same, C__law_same⟩ := ok__law_same (P := P) (w := w) (base := base) (γ := γ) T TT
  obtain ⟨f_token_fault, fd_token_fault, C_token_fault⟩ := ok_token_fault (P := P) (w := w) (base := base) (γ := γ) T TT
  obtain ⟨f_deed_fault, fd_deed_fault, C_deed_fault⟩ := ok_deed_fault (P := P) (w := w) (base := base) (γ := γ) T TT
  obtain ⟨fd, F⟩ := T.ok.def_ 35 (d := d__law_right) rfl
  refine ⟨_, fd, F, T.g 62, F.bindsN fun _ _ _ _ _ _ us hl => match us, hl with | [_, _], _ => rfl, FunD.okE (fb := fb__law_right) F sc__law_right rfl rfl fun cdv A outer s H E hn hr => PSs.nox ?_⟩
  have S := sc__law_right
  exact s_cons (s_setG (ps_set S.nd rfl (Or.inl rfl) (m_str rfl PySem.F.slot_str_join PySem.F.type_str_join mt_join mg_join (e_str) (a_cons (e_fz (e_lcV [("step", 10)] rfl S.nd (i_rng1 (by rfl) (T.f 26) (a_cons (e_call rfl C__law_draw.ok hn (hr.mono (by decide)) (by rfl) C__law_draw.m C__law_draw.F.kp C__law_draw.b pass0 (a_cons (e_var (pv 0)) (a_cons (e_int) (a_nil)))) (a_nil))) (blkOk_by (own := [("step", 10)]) (by kernel_rfl)) (fun _ _ _ _ _ => t_name (pg_name S.nd rfl (Or.inl rfl))) (fun _ _ _ _ _ => c_nil) (fun _ _ _ _ _ => e_call rfl C__law_piece.ok hn (hr.mono (by decide)) (by rfl) C__law_piece.m C__law_piece.F.kp C__law_piece.b pass0 (a_cons (e_var (pv 0)) (a_nil))) (by decide))) (a_nil))))) (s_cons (s_if (t_cmp (op_eqU (units_of hr)) og_eq (e_call rfl C__law_draw.ok hn (hr.mono (by decide)) (by rfl) C__law_draw.m C__law_draw.F.kp C__law_draw.b pass0 (a_cons (e_var (pv 1)) (a_cons (e_int) (a_nil)))) (e_int) rfl) (s_cons (s_setG (ps_set S.nd rfl (Or.inl rfl) (e_call rfl C__law_draw.ok hn (hr.mono (by decide)) (by rfl) C__law_draw.m C__law_draw.F.kp C__law_draw.b pass0 (a_cons (e_var (pv 1)) (a_cons (e_op op_addU og_add (b_fn call_lenU cg_len boot_len (by rfl) (T.f 3) (a_cons (e_var (pv 2)) (a_nil))) (e_int)) (a_nil)))))) (s_one (s_setG (ps_set S.nd rfl (Or.inl rfl) (e_op op_addU og_add (e_op op_addU og_add (e_slice sl_U sg_U (e_var (pv 2)) (o_none) (o_some (e_var (pv 3)))) (e_call rfl C__law_pick.ok hn (hr.mono (by decide)) (by rfl) C__law_pick.m C__law_pick.F.kp C__law_pick.b pass0 (a_cons (e_var (pv 1)) (a_cons (e_fz (e_lst (a_cons (e_str) (a_cons (e_str) (a_cons (e_str) (a_cons (e_str) (a_cons (e_str) (a_cons (e_str) (a_cons (e_str) (a_nil)))))))))) (a_nil))))) (e_slice sl_U sg_U (e_var (pv 2)) (o_some (e_var (pv 3))) (o_none))))))) (s_nil)) (s_cons (s_asg (e_fz (e_call rfl C__law_lex.ok hn (hr.mono (by decide)) (by rfl) C__law_lex.m C__law_lex.F.kp C__law_lex.b pass0 (a_cons (e_var (pv 2)) (a_nil)))) (t_tup rfl rfl (ts_cons (t_name (pg_name S.nd rfl (Or.inl rfl))) (ts_cons (t_name (pg_name S.nd rfl (Or.inl rfl))) (ts_nil))))) (s_cons (s_asg (e_call rfl C__law_first.ok hn (hr.mono (by decide)) (by rfl) C__law_first.m C__law_first.F.kp C__law_first.b pass0 (a_cons (e_var (pv 5)) (a_nil))) (t_tup rfl rfl (ts_cons (t_name (pg_name S.nd rfl (Or.inl rfl))) (ts_cons (t_name (pg_name S.nd rfl (Or.inr rfl))) (ts_nil))))) (s_cons (s_if (t_not (t_tru rfl (e_var (pv 6)) (fun _ => rfl))) (s_one (s_ret (e_bl))) (s_nil)) (s_cons (s_setLcZ [("one", 11)] rfl S.nd rfl rfl (sw_true rfl rfl rfl rfl) (i_any rfl (e_var (pv 4))) (blkOk_by (own := [("one", 11)]) (by kernel_rfl)) (fun _ _ _ _ _ => t_name (pg_name S.nd rfl (Or.inl rfl))) (fun _ _ _ _ _ => pts_one (PW.pt (w_or (t_cmp op_isU og_is (e_var (pv 7)) (e_non) rfl) (w_or1 (t_cmp (op_ltT (units0_of hr)) og_ltT (e_ix ix_seq og_ix (e_var (pv 11)) (e_int) (fun _ _ => rfl)) (e_slice sl_U sg_U (e_var (pv 7)) (o_some (e_int)) (o_none)) rfl))))) (fun _ _ _ _ _ => e_var (pv 11)) (by decide)) (s_cons (s_setG (ps_set S.nd rfl (Or.inl rfl) (e_call rfl C_tokens.ok hn (hr.mono (by decide)) (by rfl) C_tokens.m C_tokens.F.kp C_tokens.b pass0 (a_cons (e_var (pv 2)) (a_nil))))) (s_cons (s_if (t_not (t_tru rfl (e_call rfl C__law_same.ok hn (hr.mono (by decide)) (by rfl) C__law_same.m C__law_same.F.kp C__law_same.b pass0 (a_cons (e_fz (e_lst (a_cons (e_var (pv 9)) (a_cons (e_fz (e_callK0 rfl C_tokens.ok hn (hr.mono (by decide)) (by rfl) C_tokens.m C_tokens.F.kp (kb_tokens_0_text C_tokens.F) pass0 (k_cons (e_var (pv 2)) (k_nil)))) (a_cons (e_call rfl C_token_fault.ok hn (hr.mono (by decide)) (by rfl) C_token_fault.m C_token_fault.F.kp C_token_fault.b pass0 (a_cons (e_var (pv 2)) (a_nil))) (a_cons (e_callK0 rfl C_token_fault.ok hn (hr.mono (by decide)) (by rfl) C_token_fault.m C_token_fault.F.kp (kb_token_fault_0_text C_token_fault.F) pass0 (k_cons (e_var (pv 2)) (k_nil))) (a_nil))))))) (a_cons (e_fz (e_lst (a_cons (e_var (pv 8)) (a_cons (e_var (pv 8)) (a_cons (e_var (pv 7)) (a_cons (e_var (pv 7)) (a_nil))))))) (a_nil)))) (fun _ => rfl))) (s_one (s_ret (e_bl))) (s_nil)) (s_cons (s_expr (m_list rfl PySem.F.slot_list_append PySem.F.type_list_append mt_append mg_append (e_var (pv 9)) (a_cons (e_non) (a_nil)))) (s_one (s_ret (e_and (e_cmp (op_eqU (units_of hr)) og_eq (e_fz (e_call rfl C_tokens.ok hn (hr.mono (by decide)) (by rfl) C_tokens.m C_tokens.F.kp C_tokens.b pass0 (a_cons (e_var (pv 2)) (a_nil)))) (e_var (pv 8)) rfl) (e_one (e_or (e_cmp op_isU og_is (e_var (pv 7)) (e_non) rfl) (e_one (e_cmp (op_eqU (units_of hr)) og_eq (e_call rfl C_deed_fault.ok hn (hr.mono (by decide)) (by rfl) C_deed_fault.m C_deed_fault.F.kp C_deed_fault.b pass0 (a_cons (e_var (pv 2)) (a_nil))) (e_var (pv 7)) rfl)))))))))))))))
theorem ok_law (T : Fx faL fnL K mg) (TT : Tups ⟨K, γ⟩) : ∃ f fd, Cal P w K mg base CX0 15 "law" ["script"] (spF ⟨K, γ⟩ WF0 1 (fe_law)) (defArgs s_law) (defBody s_law) (defScope s_law) f fd := by
  obtain ⟨f__law_pot, fd__law_pot, C__law_pot⟩ := ok__law_pot (P := P) (w := w) (base := base) (γ := γ) T TT
  obtain ⟨f__law_same, fd__law_same, C__law_same⟩ := ok__law_same (P := P) (w := w) (base := base) (γ := γ) T TT
  obtain ⟨f_deed_fault, fd_deed_fault, C_deed_fault⟩ := ok_deed_fault (P := P) (w := w) (base := base) (γ := γ) T TT
  obtain ⟨f_token_fault, fd_token_fault, C_token_fault⟩ := ok_token_fault (P := P) (w := w) (base := base) (γ := γ) T TT
  obtain ⟨f__law_right, fd__law_right, C__law_right⟩ := ok__law_right (P := P) (w := w) (base := base) (γ := γ) T TT
  obtain ⟨fd, F⟩ := T.ok.def_ 36 (d := d_law) rfl
  refine ⟨_, fd, F, T.g 63, F.bindsN fun _ _ _ _ _ _ us hl => match us, hl with | [_], _ => rfl, FunD.okE (fb := fb_law) F sc_law rfl rfl fun cdv A outer s H E hn hr => PSs.nox ?_⟩
  have S := sc_law
  exact s_cons (s_asg (e_tup (a_cons (e_call rfl C__law_pot.ok hn (hr.mono (by decide)) (by rfl) C__law_pot.m C__law_pot.F.kp C__law_pot.b pass0 (a_cons (e_var (pv 0)) (a_cons (e_int) (a_nil)))) (a_cons (e_call rfl C__law_pot.ok hn (hr.mono (by decide)) (by rfl) C__law_pot.m C__law_pot.F.kp C__law_pot.b pass0 (a_cons (e_var (pv 0)) (a_cons (e_int) (a_nil)))) (a_nil)))) (t_tup rfl rfl (ts_cons (t_name (pg_name S.nd rfl (Or.inr rfl))) (ts_cons (t_name (pg_name S.nd rfl (Or.inr rfl))) (ts_nil))))) (s_cons (s_setG (ps_set S.nd rfl (Or.inl rfl) (e_op op_addU og_add (e_str) (e_op op_repS og_mulS (e_str) (e_int))))) (s_cons (s_setG (ps_set S.nd rfl (Or.inl rfl) (e_op op_addU og_add (e_var (pv 3)) (e_op op_repS og_mulS (e_str) (e_op op_sub og_sub (e_int) (b_fn call_lenU cg_len boot_len (by rfl) (T.f 3) (a_cons (e_var (pv 3)) (a_nil)))))))) (s_cons (s_if (t_not (t_tru rfl (e_call rfl C__law_same.ok hn (hr.mono (by decide)) (by rfl) C__law_same.m C__law_same.F.kp C__law_same.b pass0 (a_cons (e_fz (e_lst (a_cons (e_call rfl C_token_fault.ok hn (hr.mono (by decide)) (by rfl) C_token_fault.m C_token_fault.F.kp C_token_fault.b pass0 (a_cons (e_var (pv 4)) (a_nil))) (a_cons (e_call rfl C_deed_fault.ok hn (hr.mono (by decide)) (by rfl) C_deed_fault.m C_deed_fault.F.kp C_deed_fault.b pass0 (a_cons (e_var (pv 4)) (a_nil))) (a_cons (e_call rfl C_deed_fault.ok hn (hr.mono (by decide)) (by rfl) C_deed_fault.m C_deed_fault.F.kp C_deed_fault.b pass0 (a_cons (e_slice sl_U sg_U (e_var (pv 4)) (o_none) (o_some (e_int))) (a_nil))) (a_nil)))))) (a_cons (e_fz (e_lst (a_cons (e_tup (a_cons (e_str) (a_cons (e_int) (a_cons (e_int) (a_nil))))) (a_cons (e_tup (a_cons (e_str) (a_cons (e_int) (a_cons (e_int) (a_nil))))) (a_cons (e_tup (a_cons (e_str) (a_cons (e_int) (a_cons (e_int) (a_nil))))) (a_nil)))))) (a_nil)))) (fun _ => rfl))) (s_one (s_ret (e_bl))) (s_nil)) (s_one (s_ret (e_and (e_cmp op_isU og_is (e_call rfl C_token_fault.ok hn (hr.mono (by decide)) (by rfl) C_token_fault.m C_token_fault.F.kp C_token_fault.b pass0 (a_cons (e_slice sl_U sg_U (e_var (pv 4)) (o_none) (o_some (e_int))) (a_nil))) (e_non) rfl) (e_one (b_fn (cr_all rfl) cg_all boot_all (by rfl) (T.f 10) (a_cons (e_fz (e_lcV [("step", 5)] rfl S.nd (i_rng1 (by rfl) (T.f 26) (a_cons (e_int) (a_nil))) (blkOk_by (own := [("step", 5)]) (by kernel_rfl)) (fun _ _ _ _ _ => t_name (pg_name S.nd rfl (Or.inl rfl))) (fun _ _ _ _ _ => c_nil) (fun _ _ _ _ _ => e_call rfl C__law_right.ok hn (hr.mono (by decide)) (by rfl) C__law_right.m C__law_right.F.kp C__law_right.b pass0 (a_cons (e_var (pv 1)) (a_cons (e_var (pv 2)) (a_nil)))) (by decide))) (a_nil))))))))))
end
end K11
/-! the signs of a text, in plain Lean -/
namespace K11
open PySem Fv PySem.StrLaws PySem.Builtin.Str
abbrev Tx := List Nat
/-! places -/
abbrev Pl := Nat × Nat
def stp (p : Pl) (c : Nat) : Pl := if c = 10 then (p.1 + 1, 1) else (p.1, p.2 + 1)
def plF (l : Tx) : Pl := l.foldl stp (1, 1)
theorem plF_snoc (l : Tx) (c : Nat) : plF (l ++ [c]) = stp (plF l) c := by
  unfold plF
  rw [List.foldl_append]
  rfl
theorem posL_snoc (c x : Nat) : ∀ (l : Tx) (i : Nat), posL c i (l ++ [x]) = posL c i l ++ (if x = c then [i + l.length] else [])
  | [], i => by simp [posL]
  | y :: l, i => by
    rw [List.cons_append]
    unfold posL
    rw [posL_snoc c x l]
    have e : i + 1 + l.length = i + (y :: l).length := by simp; omega
    rw [e]
    split <;> simp
theorem count1 (l : Tx) (c : Nat) : Txt.count (mkS l) (mkS [c]) = ((posL c 0 l).length : Nat) := by
  show (((occurrences (mkS l) (mkS [c]) 0 (mkS l).length ((mkS l).length + 1)).length : Nat) : Int) = _
  rw [occ1 l c _ 0 (Nat.zero_le _), List.drop_zero, List.take_of_length_le]
  have := posL_len c l 0
  rw [mkS_len]
  omega
theorem at1 (l : Tx) (c i : Nat) : At (mkS l) (mkS [c]) (mkS l).length i ↔ l[i]? = some c := by
  show i + 1 ≤ (mkS l).length ∧ _ ↔ _
  rw [mkS_len]
  constructor
  · rintro ⟨h1, h2⟩
    rw [subAt1 l c i (by omega)] at h2
    rw [List.getElem?_eq_getElem (by omega), of_decide_eq_true h2]
  · intro h
    obtain ⟨h1, h2⟩ := List.getElem?_eq_some_iff.mp h
    exact ⟨by omega, by rw [subAt1 l c i h1]; exact decide_eq_true h2⟩
theorem rfind_cases (l : Tx) (c : Nat) : (Txt.rfind (mkS l) (mkS [c]) = -1 ∧ ∀ i : Nat, l[i]? ≠ some c) ∨ ∃ i : Nat, Txt.rfind (mkS l) (mkS [c]) = (i : Int) ∧ l[i]? = some c ∧ ∀ k, i < k → l[k]? ≠ some c := by
  unfold Txt.rfind
  rcases last_spec (mkS l) (mkS [c]) with ⟨e, n⟩ | ⟨i, e, a, n⟩
  · left
    rw [e]
    exact ⟨rfl, fun i z => n i ((at1 l c i).mpr z)⟩
  · right
    rw [e]
    exact ⟨i, rfl, (at1 l c i).mp a, fun k hk z => n k hk ((at1 l c k).mpr z)⟩
theorem rfind_snoc (l : Tx) (c x : Nat) : Txt.rfind (mkS (l ++ [x])) (mkS [c]) = if x = c then (l.length : Int) else Txt.rfind (mkS l) (mkS [c]) := by
  have get : ∀ k, (l ++ [x])[k]? = if k < l.length then l[k]? else if k = l.length then some x else none := fun k => by
    by_cases h : k < l.length
    · rw [if_pos h, List.getElem?_append_left h]
    · rw [if_neg h, List.getElem?_append_right (by omega)]
      by_cases h2 : k = l.length
      · subst h2
        simp
      · rw [if_neg h2, List.getElem?_eq_none]
        simp
        omega
  have lt : ∀ {k : Nat} {y : Nat}, l[k]? = some y → k < l.length := fun h => (List.getElem?_eq_some_iff.mp h).1
  rcases rfind_cases (l ++ [x]) c with ⟨e, n⟩ | ⟨i, e, a, n⟩
  · rw [e]
    have hx : x ≠ c := fun z => n l.length (by rw [get, if_neg (by omega), if_pos rfl, z])
    rw [if_neg hx]
    rcases rfind_cases l c with ⟨e2, _⟩ | ⟨j, _, b, _⟩
    · rw [e2]
    · exact absurd (by rw [get, if_pos (lt b)]; exact b) (n j)
  · rw [e]
    rw [get] at a
    by_cases h : i < l.length
    · rw [if_pos h] at a
      have hx : x ≠ c := fun z => n l.length h (by rw [get, if_neg (by omega), if_pos rfl, z])
      rw [if_neg hx]
      rcases rfind_cases l c with ⟨_, m⟩ | ⟨j, e2, b, m⟩
      · exact absurd a (m i)
      · rw [e2]
        have h1 : ¬ i < j := fun z => n j z (by rw [get, if_pos (lt b)]; exact b)
        have h2 : ¬ j < i := fun z => m i z a
        have : i = j := by omega
        rw [this]
    · rw [if_neg h] at a
      by_cases h2 : i = l.length
      · rw [if_pos h2] at a
        have : x = c := by simpa using a
        rw [if_pos this, h2]
      · rw [if_neg h2] at a
        cases a
theorem snoc_ind {P : Tx → Prop} (h0 : P []) (h1 : ∀ l x, P l → P (l ++ [x])) : ∀ l, P l := fun l => by
  have : ∀ (n : Nat) (l : Tx), l.length = n → P l := by
    intro n
    induction n with
    | zero => intro l hl; rw [List.length_eq_zero_iff.mp hl]; exact h0
    | succ n ih =>
      intro l hl
      have hne : l ≠ [] := by intro z; rw [z] at hl; cases hl
      rw [← List.dropLast_concat_getLast hne]
      exact h1 _ _ (ih _ (by simp; omega))
  exact this _ l rfl
theorem place_eq (l : Tx) : Txt.count (mkS l) (mkS [10]) + 1 = ((plF l).1 : Nat) ∧ (l.length : Int) - Txt.rfind (mkS l) (mkS [10]) = ((plF l).2 : Nat) := by
  rw [count1]
  induction l using snoc_ind with
  | h0 =>
    refine ⟨rfl, ?_⟩
    rcases rfind_cases [] 10 with ⟨e, _⟩ | ⟨i, _, b, _⟩
    · rw [e]; rfl
    · simp at b
  | h1 l x ih =>
    rw [plF_snoc, posL_snoc, rfind_snoc]
    unfold stp
    by_cases h : x = 10
    · rw [if_pos h, if_pos h, if_pos h]
      simp
      omega
    · rw [if_neg h, if_neg h, if_neg h]
      simp
      omega
/-- the places of all signs -/
def plcs (p : Pl) : Tx → List Pl
  | [] => [p]
  | c :: r => p :: plcs (stp p c) r
theorem plcs_get : ∀ (l : Tx) (p : Pl) (i : Nat), i ≤ l.length → (plcs p l)[i]? = some ((l.take i).foldl stp p)
  | [], p, i, h => by
    have : i = 0 := by simpa using h
    subst this
    rfl
  | c :: r, p, 0, _ => rfl
  | c :: r, p, i + 1, h => by
    unfold plcs
    rw [List.getElem?_cons_succ, plcs_get r _ i (by simpa using h), List.take_succ_cons, List.foldl_cons]
theorem plcs_len : ∀ (l : Tx) (p : Pl), (plcs p l).length = l.length + 1
  | [], _ => rfl
  | c :: r, p => by simp [plcs, plcs_len r]
def ltP (p q : Pl) : Prop := p.1 < q.1 ∨ (p.1 = q.1 ∧ p.2 < q.2)
instance (p q : Pl) : Decidable (ltP p q) := by unfold ltP; infer_instance
theorem ltP.trans {p q r : Pl} (a : ltP p q) (b : ltP q r) : ltP p r := by unfold ltP at *; omega
theorem ltP.irr (p : Pl) : ¬ ltP p p := by unfold ltP; omega
theorem ltP.asymm {p q : Pl} (a : ltP p q) : ¬ ltP q p := by unfold ltP at *; omega
theorem stp_lt (p : Pl) (c : Nat) : ltP p (stp p c) := by
  unfold stp ltP
  split <;> simp
def plA (t : Tx) (a : Nat) : Pl := plF (t.take a)
theorem plA_succ {t : Tx} {a c : Nat} (h : t[a]? = some c) : plA t (a + 1) = stp (plA t a) c := by
  unfold plA
  have : t.take (a + 1) = t.take a ++ [c] := by
    rw [List.take_succ, h]
    rfl
  rw [this, plF_snoc]
theorem plA_mono {t : Tx} {a : Nat} : ∀ {b : Nat}, a < b → b ≤ t.length → ltP (plA t a) (plA t b)
  | 0, h, _ => absurd h (Nat.not_lt_zero _)
  | b + 1, h, hb => by
    have e := plA_succ (t := t) (a := b) (List.getElem?_eq_getElem (by omega))
    rw [e]
    by_cases hab : a = b
    · rw [hab]
      exact stp_lt _ _
    · exact (plA_mono (by omega) (by omega)).trans (stp_lt _ _)
/-! signs -/
def isL (c : Nat) : Bool := decide (97 ≤ c ∧ c ≤ 122)
def isD (c : Nat) : Bool := decide (48 ≤ c ∧ c ≤ 57)
def sgL : Tx := [123, 125, 40, 41, 91, 93, 44, 59, 61, 60, 62, 43, 45, 42, 46]
def isG (c : Nat) : Bool := decide (c ∈ sgL)
def isB (c : Nat) : Bool := decide (c = 32 ∨ c = 10)
def dbl (w : Tx) : Bool := decide (w = [60, 61] ∨ w = [62, 61] ∨ w = [60, 62])
def tokN : Tx → Tx
  | [] => []
  | c :: r => if isL c then c :: r.takeWhile isL else if isD c then c :: r.takeWhile isD else if dbl ((c :: r).take 2) then (c :: r).take 2 else [c]
theorem tok_c (c : Nat) (r : Tx) : tokN (c :: r) = if isL c then c :: r.takeWhile isL else if isD c then c :: r.takeWhile isD else if dbl ((c :: r).take 2) then (c :: r).take 2 else [c] := rfl
theorem tok_pre (u : Tx) : u = tokN u ++ u.drop (tokN u).length := by
  cases u with
  | nil => rfl
  | cons c r =>
    have key : ∀ p : Nat → Bool, c :: r = (c :: r.takeWhile p) ++ (c :: r).drop (c :: r.takeWhile p).length := fun p => by
      rw [List.cons_append, List.length_cons, List.drop_succ_cons]
      congr 1
      have h1 : r = r.takeWhile p ++ r.dropWhile p := (List.takeWhile_append_dropWhile (p := p) (l := r)).symm
      conv => lhs; rw [h1]
      congr 1
      conv => rhs; rw [show r.drop (r.takeWhile p).length = (r.takeWhile p ++ r.dropWhile p).drop (r.takeWhile p).length from by rw [← h1]]
      rw [List.drop_left]
    rw [tok_c]
    split
    · exact key _
    · split
      · exact key _
      · split
        · cases r with
          | nil => rfl
          | cons d r => rfl
        · rfl
theorem tok_cons (c : Nat) (r : Tx) : ∃ s, tokN (c :: r) = c :: s := by
  rw [tok_c]
  split
  · exact ⟨_, rfl⟩
  · split
    · exact ⟨_, rfl⟩
    · split
      · exact ⟨_, rfl⟩
      · exact ⟨_, rfl⟩
theorem tok_len (u : Tx) : (tokN u).length ≤ u.length := by
  have := congrArg List.length (tok_pre u)
  simp at this
  omega
def side (p : Option Nat) (c : Nat) : Bool := match p with
  | none => false
  | some d => (isL c && isD d) || (isD c && isL d)
def bSig (w : Tx) : Bool := match w with
  | [] => false
  | c :: _ => !(isL c || (isD c || (isG c || isB c)))
def bNum (w : Tx) : Bool := match w with
  | [] => false
  | c :: _ => isD c && (decide (12 < w.length) || (decide (c = 48) && decide (1 < w.length)))
def bWrd (p : Option Nat) (w : Tx) : Bool := match w with
  | [] => false
  | c :: _ => (isL c && decide (8 < w.length)) || side p c
def sSig : Tx := [115, 105, 103, 110]
def sNum : Tx := [110, 117, 109, 101, 114, 97, 108]
def sWrd : Tx := [119, 111, 114, 100]
def wr (p : Option Nat) (w : Tx) : List Tx := (if bSig w then [sSig] else []) ++ ((if bNum w then [sNum] else []) ++ (if bWrd p w then [sWrd] else []))
def blank (w : Tx) : Bool := match w with
  | [] => false
  | c :: _ => isB c
abbrev Ct := Nat × Option Nat × Tx
def cutsF : Nat → Option Nat → Nat → Tx → List Ct
  | 0, _, _, _ => []
  | n + 1, p, a, u => match u with
    | [] => []
    | c :: r => (a, p, tokN (c :: r)) :: cutsF n (tokN (c :: r)).getLast? (a + (tokN (c :: r)).length) ((c :: r).drop (tokN (c :: r)).length)
theorem cutsF_fuel : ∀ (n m : Nat) (p : Option Nat) (a : Nat) (u : Tx), u.length ≤ n → u.length ≤ m → cutsF n p a u = cutsF m p a u
  | 0, m, p, a, u, h, _ => by
    have : u = [] := List.length_eq_zero_iff.mp (by omega)
    subst this
    cases m <;> rfl
  | n + 1, 0, p, a, u, _, h => by
    have : u = [] := List.length_eq_zero_iff.mp (by omega)
    subst this
    rfl
  | n + 1, m + 1, p, a, [], _, _ => rfl
  | n + 1, m + 1, p, a, c :: r, h1, h2 => by
    show _ :: _ = _ :: _
    obtain ⟨s, e⟩ := tok_cons c r
    rw [e]
    congr 1
    refine cutsF_fuel n m _ _ _ ?_ ?_
    · simp at h1 ⊢
      omega
    · simp at h2 ⊢
      omega
def cuts (p : Option Nat) (a : Nat) (u : Tx) : List Ct := cutsF u.length p a u
theorem cuts_nil (p : Option Nat) (a : Nat) : cuts p a [] = [] := rfl
theorem cuts_ne {p : Option Nat} {a : Nat} {u : Tx} (h : u ≠ []) : cuts p a u = (a, p, tokN u) :: cuts (tokN u).getLast? (a + (tokN u).length) (u.drop (tokN u).length) := by
  cases u with
  | nil => exact absurd rfl h
  | cons c r =>
    unfold cuts
    show (_ : Ct) :: _ = _ :: _
    congr 1
    refine cutsF_fuel _ _ _ _ _ ?_ (Nat.le_refl _)
    obtain ⟨s, e⟩ := tok_cons c r
    rw [e]
    simp
/-- the sign before a place -/
def bef (t : Tx) (a : Nat) : Option Nat := if a = 0 then none else t[a - 1]?
theorem bef_next {t u : Tx} {a : Nat} (hu : t.drop a = u) (ha : a ≤ t.length) (hne : u ≠ []) : bef t (a + (tokN u).length) = (tokN u).getLast? := by
  obtain ⟨c, r, rfl⟩ : ∃ c r, u = c :: r := by cases u with | nil => exact absurd rfl hne | cons c r => exact ⟨c, r, rfl⟩
  obtain ⟨s, e⟩ := tok_cons c r
  have h1 : 1 ≤ (tokN (c :: r)).length := by rw [e]; simp
  unfold bef
  rw [if_neg (by generalize (tokN (c :: r)).length = z at h1 ⊢; omega), List.getLast?_eq_getElem?]
  have h2 : a + (tokN (c :: r)).length - 1 = a + ((tokN (c :: r)).length - 1) := by
    generalize (tokN (c :: r)).length = z at h1 ⊢
    omega
  rw [h2, ← List.getElem?_drop, hu]
  have h3 : c :: r = tokN (c :: r) ++ (c :: r).drop (tokN (c :: r)).length := tok_pre (c :: r)
  generalize tokN (c :: r) = w at h1 h3
  rw [h3]
  rw [List.getElem?_append_left (by omega)]
end K11
/-! what each def gives: one sign of a text -/
namespace K11
open PySem Fv
theorem c_lets : (("abcdefghijklmnopqrstuvwxyz" : PySem.Str).cps.toList) = [97,98,99,100,101,102,103,104,105,106,107,108,109,110,111,112,113,114,115,116,117,118,119,120,121,122] := rfl
theorem c_digs : (("0123456789" : PySem.Str).cps.toList) = [48, 49, 50, 51, 52, 53, 54, 55, 56, 57] := rfl
theorem c_sgns : (("{}()[],;=<>+-*." : PySem.Str).cps.toList) = sgL := rfl
theorem c_blk : ((" \n" : PySem.Str).cps.toList) = [32, 10] := rfl
theorem c_empty : (("" : PySem.Str).cps.toList) = [] := rfl
theorem c_zero : (("0" : PySem.Str).cps.toList) = [48] := rfl
theorem c_lf : (("\n" : PySem.Str).cps.toList) = [10] := rfl
theorem c_sig : (("sign" : PySem.Str).cps.toList) = sSig := rfl
theorem c_num : (("numeral" : PySem.Str).cps.toList) = sNum := rfl
theorem c_wrd : (("word" : PySem.Str).cps.toList) = sWrd := rfl
theorem two_le : (2 : Nat) ≤ sizeLine := by decide
theorem in_lets (c : Nat) : decide (c ∈ [97,98,99,100,101,102,103,104,105,106,107,108,109,110,111,112,113,114,115,116,117,118,119,120,121,122]) = isL c := by
  unfold isL
  by_cases h : 97 ≤ c ∧ c ≤ 122
  · rw [decide_eq_true h, decide_eq_true_eq]
    simp only [List.mem_cons, List.not_mem_nil, or_false]
    omega
  · rw [decide_eq_false h, decide_eq_false_iff_not]
    simp only [List.mem_cons, List.not_mem_nil, or_false]
    omega
theorem in_digs (c : Nat) : decide (c ∈ [48, 49, 50, 51, 52, 53, 54, 55, 56, 57]) = isD c := by
  unfold isD
  by_cases h : 48 ≤ c ∧ c ≤ 57
  · rw [decide_eq_true h, decide_eq_true_eq]
    simp only [List.mem_cons, List.not_mem_nil, or_false]
    omega
  · rw [decide_eq_false h, decide_eq_false_iff_not]
    simp only [List.mem_cons, List.not_mem_nil, or_false]
    omega
theorem in_sgns (c : Nat) : decide (c ∈ sgL) = isG c := rfl
theorem in_blk (c : Nat) : decide (c ∈ [32, 10]) = isB c := by
  unfold isB
  simp only [List.mem_cons, List.not_mem_nil, or_false]
theorem tw_len {p : Nat → Bool} : ∀ {j : Nat} {u : Tx}, (∀ i, i < j → ∃ c, u[i]? = some c ∧ p c = true) → (∀ c, u[j]? = some c → p c = false) → (u.takeWhile p).length = j
  | 0, [], _, _ => rfl
  | 0, c :: u, _, h => by
    have := h c rfl
    rw [List.takeWhile_cons_of_neg (by simp [this])]
    rfl
  | j + 1, [], h, _ => by
    obtain ⟨c, e, _⟩ := h 0 (by omega)
    simp at e
  | j + 1, c :: u, h1, h2 => by
    obtain ⟨d, e, q⟩ := h1 0 (by omega)
    have : c = d := by simpa using e
    subst this
    rw [List.takeWhile_cons_of_pos q, List.length_cons, tw_len (j := j) (fun i hi => by simpa using h1 (i + 1) (by omega)) (fun c e => h2 c (by simpa using e))]
/-- on and on while the signs are of a kind -/
theorem str_loop {t S : Tx} {a : Nat} {x : SV} {b : FS} {h : SH} (hb : ∀ e : Nat, b [some (.str t), some x, some (.str S), some (.int (e : Int))] h = .ok (.nx [some (.str t), some x, some (.str S), some (.int ((e + 1 : Nat) : Int))]) h)
    (hl : t.length < 100000) (ha : a ≤ t.length) :
    fWhile (fAndT (fTst (fOp gLtU (fVar 3) (fCa gLen (faC (fVar 0) (faN))))) (fTst (fOp (gInD false) (fOp gIx (fVar 0) (fVar 3)) (fVar 2)))) b [some (.str t), some x, some (.str S), some (.int (a : Int))] h =
      .ok (.nx [some (.str t), some x, some (.str S), some (.int ((a + ((t.drop a).takeWhile fun c => decide (c ∈ S)).length : Nat) : Int))]) h := by
  refine wp.eq ?_
  have hs := sizeLine_eq
  refine wp_while (fun m η h' => ∃ j : Nat, η = [some (.str t), some x, some (.str S), some (.int ((a + j : Nat) : Int))] ∧ h' = h ∧ a + j + m = t.length ∧ (∀ i, i < j → ∃ c, (t.drop a)[i]? = some c ∧ decide (c ∈ S) = true)) (t.length - a) (by omega) ⟨0, rfl, rfl, by omega, fun i hi => absurd hi (Nat.not_lt_zero _)⟩ ?_
  rintro m η h' ⟨j, rfl, rfl, hj, hp⟩
  (simp only [fSeq, fSet, fVar, fC, slot, fNx, fRet, fRetN, fDrop, fIfS, fOp, fUn, fTst, fTru, truS, fAndT, fOrT, fNotT, fAnd, fOr, fNot, fIf, faN, faC, fTup, fLst, fPar, fPar3, fAug, fAsg, fCa, foN, foS, fSl, gtName, gtNil, gtCons, gtTup, gtSub, fChain, gIsN, isNon, bok, bind_bad, call1, call2, call3, List.set_cons_zero, List.set_cons_succ, gRelU, c_lets, c_digs, c_sgns, c_blk, c_empty, c_zero, c_lf, c_sig, c_num, c_wrd, two_le, isTy_str, fMt, if_true, if_false, Bool.false_eq_true, Bool.not_true, Bool.not_false, decide_true, decide_false, reduceCtorEq, List.length_cons, List.length_nil, Nat.reduceAdd, List.map_cons, List.map_nil, List.replicate, List.cons_append, List.nil_append, Nat.reduceSub])
  rw [len_str (by omega)]
  (simp only [fSeq, fSet, fVar, fC, slot, fNx, fRet, fRetN, fDrop, fIfS, fOp, fUn, fTst, fTru, truS, fAndT, fOrT, fNotT, fAnd, fOr, fNot, fIf, faN, faC, fTup, fLst, fPar, fPar3, fAug, fAsg, fCa, foN, foS, fSl, gtName, gtNil, gtCons, gtTup, gtSub, fChain, gIsN, isNon, bok, bind_bad, call1, call2, call3, List.set_cons_zero, List.set_cons_succ, gRelU, c_lets, c_digs, c_sgns, c_blk, c_empty, c_zero, c_lf, c_sig, c_num, c_wrd, two_le, isTy_str, fMt, if_true, if_false, Bool.false_eq_true, Bool.not_true, Bool.not_false, decide_true, decide_false, reduceCtorEq, List.length_cons, List.length_nil, Nat.reduceAdd, List.map_cons, List.map_nil, List.replicate, List.cons_append, List.nil_append, Nat.reduceSub])
  have fin : (∀ c, (t.drop a)[j]? = some c → decide (c ∈ S) = false) → ((t.drop a).takeWhile fun c => decide (c ∈ S)).length = j := fun z => tw_len hp z
  by_cases h1 : a + j < t.length
  · have e1 : decide (((a + j : Nat) : Int) < (t.length : Int)) = true := by simp; omega
    simp only [e1]
    (simp only [fSeq, fSet, fVar, fC, slot, fNx, fRet, fRetN, fDrop, fIfS, fOp, fUn, fTst, fTru, truS, fAndT, fOrT, fNotT, fAnd, fOr, fNot, fIf, faN, faC, fTup, fLst, fPar, fPar3, fAug, fAsg, fCa, foN, foS, fSl, gtName, gtNil, gtCons, gtTup, gtSub, fChain, gIsN, isNon, bok, bind_bad, call1, call2, call3, List.set_cons_zero, List.set_cons_succ, gRelU, c_lets, c_digs, c_sgns, c_blk, c_empty, c_zero, c_lf, c_sig, c_num, c_wrd, two_le, isTy_str, fMt, if_true, if_false, Bool.false_eq_true, Bool.not_true, Bool.not_false, decide_true, decide_false, reduceCtorEq, List.length_cons, List.length_nil, Nat.reduceAdd, List.map_cons, List.map_nil, List.replicate, List.cons_append, List.nil_append, Nat.reduceSub])
    have ec : t[a + j]? = some t[a + j] := List.getElem?_eq_getElem h1
    rw [ix_str (by omega) ec]
    (simp only [fSeq, fSet, fVar, fC, slot, fNx, fRet, fRetN, fDrop, fIfS, fOp, fUn, fTst, fTru, truS, fAndT, fOrT, fNotT, fAnd, fOr, fNot, fIf, faN, faC, fTup, fLst, fPar, fPar3, fAug, fAsg, fCa, foN, foS, fSl, gtName, gtNil, gtCons, gtTup, gtSub, fChain, gIsN, isNon, bok, bind_bad, call1, call2, call3, List.set_cons_zero, List.set_cons_succ, gRelU, c_lets, c_digs, c_sgns, c_blk, c_empty, c_zero, c_lf, c_sig, c_num, c_wrd, two_le, isTy_str, fMt, if_true, if_false, Bool.false_eq_true, Bool.not_true, Bool.not_false, decide_true, decide_false, reduceCtorEq, List.length_cons, List.length_nil, Nat.reduceAdd, List.map_cons, List.map_nil, List.replicate, List.cons_append, List.nil_append, Nat.reduceSub])
    rw [in_sign]
    (simp only [fSeq, fSet, fVar, fC, slot, fNx, fRet, fRetN, fDrop, fIfS, fOp, fUn, fTst, fTru, truS, fAndT, fOrT, fNotT, fAnd, fOr, fNot, fIf, faN, faC, fTup, fLst, fPar, fPar3, fAug, fAsg, fCa, foN, foS, fSl, gtName, gtNil, gtCons, gtTup, gtSub, fChain, gIsN, isNon, bok, bind_bad, call1, call2, call3, List.set_cons_zero, List.set_cons_succ, gRelU, c_lets, c_digs, c_sgns, c_blk, c_empty, c_zero, c_lf, c_sig, c_num, c_wrd, two_le, isTy_str, fMt, if_true, if_false, Bool.false_eq_true, Bool.not_true, Bool.not_false, decide_true, decide_false, reduceCtorEq, List.length_cons, List.length_nil, Nat.reduceAdd, List.map_cons, List.map_nil, List.replicate, List.cons_append, List.nil_append, Nat.reduceSub])
    rw [wp_ok]
    refine ⟨fun z => ?_, fun z => ?_⟩
    · rw [fin fun c e => ?_]
      · exact ⟨rfl, rfl⟩
      · rw [List.getElem?_drop, ec] at e
        cases e
        exact z
    · rw [hb, wp_ok]
      refine ⟨m - 1, by omega, j + 1, rfl, rfl, by omega, fun i hi => ?_⟩
      by_cases hij : i < j
      · exact hp i hij
      · have : i = j := by omega
        subst this
        exact ⟨_, by rw [List.getElem?_drop]; exact ec, z⟩
  · have e1 : decide (((a + j : Nat) : Int) < (t.length : Int)) = false := by simp; omega
    simp only [e1]
    (simp only [fSeq, fSet, fVar, fC, slot, fNx, fRet, fRetN, fDrop, fIfS, fOp, fUn, fTst, fTru, truS, fAndT, fOrT, fNotT, fAnd, fOr, fNot, fIf, faN, faC, fTup, fLst, fPar, fPar3, fAug, fAsg, fCa, foN, foS, fSl, gtName, gtNil, gtCons, gtTup, gtSub, fChain, gIsN, isNon, bok, bind_bad, call1, call2, call3, List.set_cons_zero, List.set_cons_succ, gRelU, c_lets, c_digs, c_sgns, c_blk, c_empty, c_zero, c_lf, c_sig, c_num, c_wrd, two_le, isTy_str, fMt, if_true, if_false, Bool.false_eq_true, Bool.not_true, Bool.not_false, decide_true, decide_false, reduceCtorEq, List.length_cons, List.length_nil, Nat.reduceAdd, List.map_cons, List.map_nil, List.replicate, List.cons_append, List.nil_append, Nat.reduceSub])
    rw [wp_ok]
    refine ⟨fun _ => ?_, fun z => absurd z (by simp)⟩
    rw [fin fun c e => ?_]
    · exact ⟨rfl, rfl⟩
    · have := (List.getElem?_eq_some_iff.mp e).1
      simp at this
      omega
theorem take_tw {p : Nat → Bool} (u : Tx) : u.take (u.takeWhile p).length = u.takeWhile p := by
  have h := List.takeWhile_append_dropWhile (p := p) (l := u)
  conv => lhs; rw [show u.take (u.takeWhile p).length = (u.takeWhile p ++ u.dropWhile p).take (u.takeWhile p).length from by rw [h]]
  rw [List.take_left]
theorem addI_ok (i j : Int) (h : SH) : gAddI (.int i) (.int j) h = .ok (.int (i + j)) h := rfl
theorem stretch_ok (t S : Tx) (a : Nat) (hl : t.length < 100000) (ha : a ≤ t.length) (h : SH) : fe_stretch_from [.str t, .int (a : Int), .str S] h = .ok (.str ((t.drop a).takeWhile fun c => decide (c ∈ S))) h := by
  unfold fe_stretch_from fb_stretch_from fBody startS
  have hs := sizeLine_eq
  (simp only [fSeq, fSet, fVar, fC, slot, fNx, fRet, fRetN, fDrop, fIfS, fOp, fUn, fTst, fTru, truS, fAndT, fOrT, fNotT, fAnd, fOr, fNot, fIf, faN, faC, fTup, fLst, fPar, fPar3, fAug, fAsg, fCa, foN, foS, fSl, gtName, gtNil, gtCons, gtTup, gtSub, fChain, gIsN, isNon, bok, bind_bad, call1, call2, call3, List.set_cons_zero, List.set_cons_succ, gRelU, c_lets, c_digs, c_sgns, c_blk, c_empty, c_zero, c_lf, c_sig, c_num, c_wrd, two_le, isTy_str, fMt, if_true, if_false, Bool.false_eq_true, Bool.not_true, Bool.not_false, decide_true, decide_false, reduceCtorEq, List.length_cons, List.length_nil, Nat.reduceAdd, List.map_cons, List.map_nil, List.replicate, List.cons_append, List.nil_append, Nat.reduceSub])
  rw [str_loop (fun e => by (simp only [fSeq, fSet, fVar, fC, slot, fNx, fRet, fRetN, fDrop, fIfS, fOp, fUn, fTst, fTru, truS, fAndT, fOrT, fNotT, fAnd, fOr, fNot, fIf, faN, faC, fTup, fLst, fPar, fPar3, fAug, fAsg, fCa, foN, foS, fSl, gtName, gtNil, gtCons, gtTup, gtSub, fChain, gIsN, isNon, bok, bind_bad, call1, call2, call3, List.set_cons_zero, List.set_cons_succ, gRelU, c_lets, c_digs, c_sgns, c_blk, c_empty, c_zero, c_lf, c_sig, c_num, c_wrd, two_le, isTy_str, fMt, if_true, if_false, Bool.false_eq_true, Bool.not_true, Bool.not_false, decide_true, decide_false, reduceCtorEq, List.length_cons, List.length_nil, Nat.reduceAdd, List.map_cons, List.map_nil, List.replicate, List.cons_append, List.nil_append, Nat.reduceSub]); rw [addI_ok]; (simp only [fSeq, fSet, fVar, fC, slot, fNx, fRet, fRetN, fDrop, fIfS, fOp, fUn, fTst, fTru, truS, fAndT, fOrT, fNotT, fAnd, fOr, fNot, fIf, faN, faC, fTup, fLst, fPar, fPar3, fAug, fAsg, fCa, foN, foS, fSl, gtName, gtNil, gtCons, gtTup, gtSub, fChain, gIsN, isNon, bok, bind_bad, call1, call2, call3, List.set_cons_zero, List.set_cons_succ, gRelU, c_lets, c_digs, c_sgns, c_blk, c_empty, c_zero, c_lf, c_sig, c_num, c_wrd, two_le, isTy_str, fMt, if_true, if_false, Bool.false_eq_true, Bool.not_true, Bool.not_false, decide_true, decide_false, reduceCtorEq, List.length_cons, List.length_nil, Nat.reduceAdd, List.map_cons, List.map_nil, List.replicate, List.cons_append, List.nil_append, Nat.reduceSub]); rfl) hl ha]
  (simp only [fSeq, fSet, fVar, fC, slot, fNx, fRet, fRetN, fDrop, fIfS, fOp, fUn, fTst, fTru, truS, fAndT, fOrT, fNotT, fAnd, fOr, fNot, fIf, faN, faC, fTup, fLst, fPar, fPar3, fAug, fAsg, fCa, foN, foS, fSl, gtName, gtNil, gtCons, gtTup, gtSub, fChain, gIsN, isNon, bok, bind_bad, call1, call2, call3, List.set_cons_zero, List.set_cons_succ, gRelU, c_lets, c_digs, c_sgns, c_blk, c_empty, c_zero, c_lf, c_sig, c_num, c_wrd, two_le, isTy_str, fMt, if_true, if_false, Bool.false_eq_true, Bool.not_true, Bool.not_false, decide_true, decide_false, reduceCtorEq, List.length_cons, List.length_nil, Nat.reduceAdd, List.map_cons, List.map_nil, List.replicate, List.cons_append, List.nil_append, Nat.reduceSub])
  rw [sl_str (by omega)]
  (simp only [fSeq, fSet, fVar, fC, slot, fNx, fRet, fRetN, fDrop, fIfS, fOp, fUn, fTst, fTru, truS, fAndT, fOrT, fNotT, fAnd, fOr, fNot, fIf, faN, faC, fTup, fLst, fPar, fPar3, fAug, fAsg, fCa, foN, foS, fSl, gtName, gtNil, gtCons, gtTup, gtSub, fChain, gIsN, isNon, bok, bind_bad, call1, call2, call3, List.set_cons_zero, List.set_cons_succ, gRelU, c_lets, c_digs, c_sgns, c_blk, c_empty, c_zero, c_lf, c_sig, c_num, c_wrd, two_le, isTy_str, fMt, if_true, if_false, Bool.false_eq_true, Bool.not_true, Bool.not_false, decide_true, decide_false, reduceCtorEq, List.length_cons, List.length_nil, Nat.reduceAdd, List.map_cons, List.map_nil, List.replicate, List.cons_append, List.nil_append, Nat.reduceSub])
  rw [Nat.add_sub_cancel_left, take_tw]
theorem drop_at {t : Tx} {a c : Nat} {r : Tx} (e : t.drop a = c :: r) : t[a]? = some c := by
  have := congrArg (fun l => l[0]?) e
  simpa using this
theorem in_dbl (w : Tx) (h : SH) : gInD false (.str w) (.tup tup_DOUBLES) h = .ok (.bl (dbl w)) h := by
  have e : gInD false (.str w) (.tup tup_DOUBLES) h = .ok (.bl (([60, 61] == w) || (([62, 61] == w) || (([60, 62] == w) || false)))) h := rfl
  rw [e]
  congr 2
  unfold dbl
  by_cases h1 : w = [60, 61]
  · subst h1; rfl
  · by_cases h2 : w = [62, 61]
    · subst h2; rfl
    · by_cases h3 : w = [60, 62]
      · subst h3; rfl
      · have : decide (w = [60, 61] ∨ w = [62, 61] ∨ w = [60, 62]) = false := by simp [h1, h2, h3]
        rw [this]
        have a1 : ([60, 61] == w) = false := by simpa using fun z => h1 z.symm
        have a2 : ([62, 61] == w) = false := by simpa using fun z => h2 z.symm
        have a3 : ([60, 62] == w) = false := by simpa using fun z => h3 z.symm
        rw [a1, a2, a3]
        rfl
theorem tw_fun {p q : Nat → Bool} (e : ∀ c, p c = q c) (u : Tx) : u.takeWhile p = u.takeWhile q := by
  have : p = q := funext e
  rw [this]
theorem token_ok (t : Tx) (a c : Nat) (r : Tx) (hl : t.length < 100000) (e : t.drop a = c :: r) (h : SH) : fe_token_from [.str t, .int (a : Int)] h = .ok (.str (tokN (c :: r))) h := by
  unfold fe_token_from fb_token_from fBody startS
  have hs := sizeLine_eq
  have ec := drop_at e
  have ha := (List.getElem?_eq_some_iff.mp ec).1
  (simp only [fSeq, fSet, fVar, fC, slot, fNx, fRet, fRetN, fDrop, fIfS, fOp, fUn, fTst, fTru, truS, fAndT, fOrT, fNotT, fAnd, fOr, fNot, fIf, faN, faC, fTup, fLst, fPar, fPar3, fAug, fAsg, fCa, foN, foS, fSl, gtName, gtNil, gtCons, gtTup, gtSub, fChain, gIsN, isNon, bok, bind_bad, call1, call2, call3, List.set_cons_zero, List.set_cons_succ, gRelU, c_lets, c_digs, c_sgns, c_blk, c_empty, c_zero, c_lf, c_sig, c_num, c_wrd, two_le, isTy_str, fMt, if_true, if_false, Bool.false_eq_true, Bool.not_true, Bool.not_false, decide_true, decide_false, reduceCtorEq, List.length_cons, List.length_nil, Nat.reduceAdd, List.map_cons, List.map_nil, List.replicate, List.cons_append, List.nil_append, Nat.reduceSub])
  rw [ix_str (by omega) ec]
  (simp only [fSeq, fSet, fVar, fC, slot, fNx, fRet, fRetN, fDrop, fIfS, fOp, fUn, fTst, fTru, truS, fAndT, fOrT, fNotT, fAnd, fOr, fNot, fIf, faN, faC, fTup, fLst, fPar, fPar3, fAug, fAsg, fCa, foN, foS, fSl, gtName, gtNil, gtCons, gtTup, gtSub, fChain, gIsN, isNon, bok, bind_bad, call1, call2, call3, List.set_cons_zero, List.set_cons_succ, gRelU, c_lets, c_digs, c_sgns, c_blk, c_empty, c_zero, c_lf, c_sig, c_num, c_wrd, two_le, isTy_str, fMt, if_true, if_false, Bool.false_eq_true, Bool.not_true, Bool.not_false, decide_true, decide_false, reduceCtorEq, List.length_cons, List.length_nil, Nat.reduceAdd, List.map_cons, List.map_nil, List.replicate, List.cons_append, List.nil_append, Nat.reduceSub])
  rw [in_sign, in_lets]
  (simp only [fSeq, fSet, fVar, fC, slot, fNx, fRet, fRetN, fDrop, fIfS, fOp, fUn, fTst, fTru, truS, fAndT, fOrT, fNotT, fAnd, fOr, fNot, fIf, faN, faC, fTup, fLst, fPar, fPar3, fAug, fAsg, fCa, foN, foS, fSl, gtName, gtNil, gtCons, gtTup, gtSub, fChain, gIsN, isNon, bok, bind_bad, call1, call2, call3, List.set_cons_zero, List.set_cons_succ, gRelU, c_lets, c_digs, c_sgns, c_blk, c_empty, c_zero, c_lf, c_sig, c_num, c_wrd, two_le, isTy_str, fMt, if_true, if_false, Bool.false_eq_true, Bool.not_true, Bool.not_false, decide_true, decide_false, reduceCtorEq, List.length_cons, List.length_nil, Nat.reduceAdd, List.map_cons, List.map_nil, List.replicate, List.cons_append, List.nil_append, Nat.reduceSub])
  rw [tok_c]
  by_cases h1 : isL c = true
  · rw [h1]
    (simp only [fSeq, fSet, fVar, fC, slot, fNx, fRet, fRetN, fDrop, fIfS, fOp, fUn, fTst, fTru, truS, fAndT, fOrT, fNotT, fAnd, fOr, fNot, fIf, faN, faC, fTup, fLst, fPar, fPar3, fAug, fAsg, fCa, foN, foS, fSl, gtName, gtNil, gtCons, gtTup, gtSub, fChain, gIsN, isNon, bok, bind_bad, call1, call2, call3, List.set_cons_zero, List.set_cons_succ, gRelU, c_lets, c_digs, c_sgns, c_blk, c_empty, c_zero, c_lf, c_sig, c_num, c_wrd, two_le, isTy_str, fMt, if_true, if_false, Bool.false_eq_true, Bool.not_true, Bool.not_false, decide_true, decide_false, reduceCtorEq, List.length_cons, List.length_nil, Nat.reduceAdd, List.map_cons, List.map_nil, List.replicate, List.cons_append, List.nil_append, Nat.reduceSub])
    rw [stretch_ok t _ a hl (by omega), e]
    (simp only [fSeq, fSet, fVar, fC, slot, fNx, fRet, fRetN, fDrop, fIfS, fOp, fUn, fTst, fTru, truS, fAndT, fOrT, fNotT, fAnd, fOr, fNot, fIf, faN, faC, fTup, fLst, fPar, fPar3, fAug, fAsg, fCa, foN, foS, fSl, gtName, gtNil, gtCons, gtTup, gtSub, fChain, gIsN, isNon, bok, bind_bad, call1, call2, call3, List.set_cons_zero, List.set_cons_succ, gRelU, c_lets, c_digs, c_sgns, c_blk, c_empty, c_zero, c_lf, c_sig, c_num, c_wrd, two_le, isTy_str, fMt, if_true, if_false, Bool.false_eq_true, Bool.not_true, Bool.not_false, decide_true, decide_false, reduceCtorEq, List.length_cons, List.length_nil, Nat.reduceAdd, List.map_cons, List.map_nil, List.replicate, List.cons_append, List.nil_append, Nat.reduceSub])
    rw [tw_fun in_lets, List.takeWhile_cons_of_pos h1]
  · have h1 : isL c = false := by simpa using h1
    rw [h1]
    (simp only [fSeq, fSet, fVar, fC, slot, fNx, fRet, fRetN, fDrop, fIfS, fOp, fUn, fTst, fTru, truS, fAndT, fOrT, fNotT, fAnd, fOr, fNot, fIf, faN, faC, fTup, fLst, fPar, fPar3, fAug, fAsg, fCa, foN, foS, fSl, gtName, gtNil, gtCons, gtTup, gtSub, fChain, gIsN, isNon, bok, bind_bad, call1, call2, call3, List.set_cons_zero, List.set_cons_succ, gRelU, c_lets, c_digs, c_sgns, c_blk, c_empty, c_zero, c_lf, c_sig, c_num, c_wrd, two_le, isTy_str, fMt, if_true, if_false, Bool.false_eq_true, Bool.not_true, Bool.not_false, decide_true, decide_false, reduceCtorEq, List.length_cons, List.length_nil, Nat.reduceAdd, List.map_cons, List.map_nil, List.replicate, List.cons_append, List.nil_append, Nat.reduceSub])
    rw [ix_str (by omega) ec]
    (simp only [fSeq, fSet, fVar, fC, slot, fNx, fRet, fRetN, fDrop, fIfS, fOp, fUn, fTst, fTru, truS, fAndT, fOrT, fNotT, fAnd, fOr, fNot, fIf, faN, faC, fTup, fLst, fPar, fPar3, fAug, fAsg, fCa, foN, foS, fSl, gtName, gtNil, gtCons, gtTup, gtSub, fChain, gIsN, isNon, bok, bind_bad, call1, call2, call3, List.set_cons_zero, List.set_cons_succ, gRelU, c_lets, c_digs, c_sgns, c_blk, c_empty, c_zero, c_lf, c_sig, c_num, c_wrd, two_le, isTy_str, fMt, if_true, if_false, Bool.false_eq_true, Bool.not_true, Bool.not_false, decide_true, decide_false, reduceCtorEq, List.length_cons, List.length_nil, Nat.reduceAdd, List.map_cons, List.map_nil, List.replicate, List.cons_append, List.nil_append, Nat.reduceSub])
    rw [in_sign, in_digs]
    (simp only [fSeq, fSet, fVar, fC, slot, fNx, fRet, fRetN, fDrop, fIfS, fOp, fUn, fTst, fTru, truS, fAndT, fOrT, fNotT, fAnd, fOr, fNot, fIf, faN, faC, fTup, fLst, fPar, fPar3, fAug, fAsg, fCa, foN, foS, fSl, gtName, gtNil, gtCons, gtTup, gtSub, fChain, gIsN, isNon, bok, bind_bad, call1, call2, call3, List.set_cons_zero, List.set_cons_succ, gRelU, c_lets, c_digs, c_sgns, c_blk, c_empty, c_zero, c_lf, c_sig, c_num, c_wrd, two_le, isTy_str, fMt, if_true, if_false, Bool.false_eq_true, Bool.not_true, Bool.not_false, decide_true, decide_false, reduceCtorEq, List.length_cons, List.length_nil, Nat.reduceAdd, List.map_cons, List.map_nil, List.replicate, List.cons_append, List.nil_append, Nat.reduceSub])
    by_cases h2 : isD c = true
    · rw [h2]
      (simp only [fSeq, fSet, fVar, fC, slot, fNx, fRet, fRetN, fDrop, fIfS, fOp, fUn, fTst, fTru, truS, fAndT, fOrT, fNotT, fAnd, fOr, fNot, fIf, faN, faC, fTup, fLst, fPar, fPar3, fAug, fAsg, fCa, foN, foS, fSl, gtName, gtNil, gtCons, gtTup, gtSub, fChain, gIsN, isNon, bok, bind_bad, call1, call2, call3, List.set_cons_zero, List.set_cons_succ, gRelU, c_lets, c_digs, c_sgns, c_blk, c_empty, c_zero, c_lf, c_sig, c_num, c_wrd, two_le, isTy_str, fMt, if_true, if_false, Bool.false_eq_true, Bool.not_true, Bool.not_false, decide_true, decide_false, reduceCtorEq, List.length_cons, List.length_nil, Nat.reduceAdd, List.map_cons, List.map_nil, List.replicate, List.cons_append, List.nil_append, Nat.reduceSub])
      rw [stretch_ok t _ a hl (by omega), e]
      (simp only [fSeq, fSet, fVar, fC, slot, fNx, fRet, fRetN, fDrop, fIfS, fOp, fUn, fTst, fTru, truS, fAndT, fOrT, fNotT, fAnd, fOr, fNot, fIf, faN, faC, fTup, fLst, fPar, fPar3, fAug, fAsg, fCa, foN, foS, fSl, gtName, gtNil, gtCons, gtTup, gtSub, fChain, gIsN, isNon, bok, bind_bad, call1, call2, call3, List.set_cons_zero, List.set_cons_succ, gRelU, c_lets, c_digs, c_sgns, c_blk, c_empty, c_zero, c_lf, c_sig, c_num, c_wrd, two_le, isTy_str, fMt, if_true, if_false, Bool.false_eq_true, Bool.not_true, Bool.not_false, decide_true, decide_false, reduceCtorEq, List.length_cons, List.length_nil, Nat.reduceAdd, List.map_cons, List.map_nil, List.replicate, List.cons_append, List.nil_append, Nat.reduceSub])
      rw [tw_fun in_digs, List.takeWhile_cons_of_pos h2]
    · have h2 : isD c = false := by simpa using h2
      rw [h2]
      (simp only [fSeq, fSet, fVar, fC, slot, fNx, fRet, fRetN, fDrop, fIfS, fOp, fUn, fTst, fTru, truS, fAndT, fOrT, fNotT, fAnd, fOr, fNot, fIf, faN, faC, fTup, fLst, fPar, fPar3, fAug, fAsg, fCa, foN, foS, fSl, gtName, gtNil, gtCons, gtTup, gtSub, fChain, gIsN, isNon, bok, bind_bad, call1, call2, call3, List.set_cons_zero, List.set_cons_succ, gRelU, c_lets, c_digs, c_sgns, c_blk, c_empty, c_zero, c_lf, c_sig, c_num, c_wrd, two_le, isTy_str, fMt, if_true, if_false, Bool.false_eq_true, Bool.not_true, Bool.not_false, decide_true, decide_false, reduceCtorEq, List.length_cons, List.length_nil, Nat.reduceAdd, List.map_cons, List.map_nil, List.replicate, List.cons_append, List.nil_append, Nat.reduceSub])
      rw [add_int]
      (simp only [fSeq, fSet, fVar, fC, slot, fNx, fRet, fRetN, fDrop, fIfS, fOp, fUn, fTst, fTru, truS, fAndT, fOrT, fNotT, fAnd, fOr, fNot, fIf, faN, faC, fTup, fLst, fPar, fPar3, fAug, fAsg, fCa, foN, foS, fSl, gtName, gtNil, gtCons, gtTup, gtSub, fChain, gIsN, isNon, bok, bind_bad, call1, call2, call3, List.set_cons_zero, List.set_cons_succ, gRelU, c_lets, c_digs, c_sgns, c_blk, c_empty, c_zero, c_lf, c_sig, c_num, c_wrd, two_le, isTy_str, fMt, if_true, if_false, Bool.false_eq_true, Bool.not_true, Bool.not_false, decide_true, decide_false, reduceCtorEq, List.length_cons, List.length_nil, Nat.reduceAdd, List.map_cons, List.map_nil, List.replicate, List.cons_append, List.nil_append, Nat.reduceSub])
      have e2 : (a : Int) + 2 = ((a + 2 : Nat) : Int) := by simp
      rw [e2, sl_str (by omega), e]
      (simp only [fSeq, fSet, fVar, fC, slot, fNx, fRet, fRetN, fDrop, fIfS, fOp, fUn, fTst, fTru, truS, fAndT, fOrT, fNotT, fAnd, fOr, fNot, fIf, faN, faC, fTup, fLst, fPar, fPar3, fAug, fAsg, fCa, foN, foS, fSl, gtName, gtNil, gtCons, gtTup, gtSub, fChain, gIsN, isNon, bok, bind_bad, call1, call2, call3, List.set_cons_zero, List.set_cons_succ, gRelU, c_lets, c_digs, c_sgns, c_blk, c_empty, c_zero, c_lf, c_sig, c_num, c_wrd, two_le, isTy_str, fMt, if_true, if_false, Bool.false_eq_true, Bool.not_true, Bool.not_false, decide_true, decide_false, reduceCtorEq, List.length_cons, List.length_nil, Nat.reduceAdd, List.map_cons, List.map_nil, List.replicate, List.cons_append, List.nil_append, Nat.reduceSub])
      have e3 : a + 2 - a = 2 := by omega
      rw [e3, in_dbl]
      (simp only [fSeq, fSet, fVar, fC, slot, fNx, fRet, fRetN, fDrop, fIfS, fOp, fUn, fTst, fTru, truS, fAndT, fOrT, fNotT, fAnd, fOr, fNot, fIf, faN, faC, fTup, fLst, fPar, fPar3, fAug, fAsg, fCa, foN, foS, fSl, gtName, gtNil, gtCons, gtTup, gtSub, fChain, gIsN, isNon, bok, bind_bad, call1, call2, call3, List.set_cons_zero, List.set_cons_succ, gRelU, c_lets, c_digs, c_sgns, c_blk, c_empty, c_zero, c_lf, c_sig, c_num, c_wrd, two_le, isTy_str, fMt, if_true, if_false, Bool.false_eq_true, Bool.not_true, Bool.not_false, decide_true, decide_false, reduceCtorEq, List.length_cons, List.length_nil, Nat.reduceAdd, List.map_cons, List.map_nil, List.replicate, List.cons_append, List.nil_append, Nat.reduceSub])
      by_cases h3 : dbl ((c :: r).take 2) = true
      · rw [h3]
        (simp only [fSeq, fSet, fVar, fC, slot, fNx, fRet, fRetN, fDrop, fIfS, fOp, fUn, fTst, fTru, truS, fAndT, fOrT, fNotT, fAnd, fOr, fNot, fIf, faN, faC, fTup, fLst, fPar, fPar3, fAug, fAsg, fCa, foN, foS, fSl, gtName, gtNil, gtCons, gtTup, gtSub, fChain, gIsN, isNon, bok, bind_bad, call1, call2, call3, List.set_cons_zero, List.set_cons_succ, gRelU, c_lets, c_digs, c_sgns, c_blk, c_empty, c_zero, c_lf, c_sig, c_num, c_wrd, two_le, isTy_str, fMt, if_true, if_false, Bool.false_eq_true, Bool.not_true, Bool.not_false, decide_true, decide_false, reduceCtorEq, List.length_cons, List.length_nil, Nat.reduceAdd, List.map_cons, List.map_nil, List.replicate, List.cons_append, List.nil_append, Nat.reduceSub])
        rw [add_int]
        (simp only [fSeq, fSet, fVar, fC, slot, fNx, fRet, fRetN, fDrop, fIfS, fOp, fUn, fTst, fTru, truS, fAndT, fOrT, fNotT, fAnd, fOr, fNot, fIf, faN, faC, fTup, fLst, fPar, fPar3, fAug, fAsg, fCa, foN, foS, fSl, gtName, gtNil, gtCons, gtTup, gtSub, fChain, gIsN, isNon, bok, bind_bad, call1, call2, call3, List.set_cons_zero, List.set_cons_succ, gRelU, c_lets, c_digs, c_sgns, c_blk, c_empty, c_zero, c_lf, c_sig, c_num, c_wrd, two_le, isTy_str, fMt, if_true, if_false, Bool.false_eq_true, Bool.not_true, Bool.not_false, decide_true, decide_false, reduceCtorEq, List.length_cons, List.length_nil, Nat.reduceAdd, List.map_cons, List.map_nil, List.replicate, List.cons_append, List.nil_append, Nat.reduceSub])
        rw [e2, sl_str (by omega), e]
        (simp only [fSeq, fSet, fVar, fC, slot, fNx, fRet, fRetN, fDrop, fIfS, fOp, fUn, fTst, fTru, truS, fAndT, fOrT, fNotT, fAnd, fOr, fNot, fIf, faN, faC, fTup, fLst, fPar, fPar3, fAug, fAsg, fCa, foN, foS, fSl, gtName, gtNil, gtCons, gtTup, gtSub, fChain, gIsN, isNon, bok, bind_bad, call1, call2, call3, List.set_cons_zero, List.set_cons_succ, gRelU, c_lets, c_digs, c_sgns, c_blk, c_empty, c_zero, c_lf, c_sig, c_num, c_wrd, two_le, isTy_str, fMt, if_true, if_false, Bool.false_eq_true, Bool.not_true, Bool.not_false, decide_true, decide_false, reduceCtorEq, List.length_cons, List.length_nil, Nat.reduceAdd, List.map_cons, List.map_nil, List.replicate, List.cons_append, List.nil_append, Nat.reduceSub])
        rw [e3]
      · have h3 : dbl ((c :: r).take 2) = false := by simpa using h3
        rw [h3]
        (simp only [fSeq, fSet, fVar, fC, slot, fNx, fRet, fRetN, fDrop, fIfS, fOp, fUn, fTst, fTru, truS, fAndT, fOrT, fNotT, fAnd, fOr, fNot, fIf, faN, faC, fTup, fLst, fPar, fPar3, fAug, fAsg, fCa, foN, foS, fSl, gtName, gtNil, gtCons, gtTup, gtSub, fChain, gIsN, isNon, bok, bind_bad, call1, call2, call3, List.set_cons_zero, List.set_cons_succ, gRelU, c_lets, c_digs, c_sgns, c_blk, c_empty, c_zero, c_lf, c_sig, c_num, c_wrd, two_le, isTy_str, fMt, if_true, if_false, Bool.false_eq_true, Bool.not_true, Bool.not_false, decide_true, decide_false, reduceCtorEq, List.length_cons, List.length_nil, Nat.reduceAdd, List.map_cons, List.map_nil, List.replicate, List.cons_append, List.nil_append, Nat.reduceSub])
        rw [ix_str (by omega) ec]
        (simp only [fSeq, fSet, fVar, fC, slot, fNx, fRet, fRetN, fDrop, fIfS, fOp, fUn, fTst, fTru, truS, fAndT, fOrT, fNotT, fAnd, fOr, fNot, fIf, faN, faC, fTup, fLst, fPar, fPar3, fAug, fAsg, fCa, foN, foS, fSl, gtName, gtNil, gtCons, gtTup, gtSub, fChain, gIsN, isNon, bok, bind_bad, call1, call2, call3, List.set_cons_zero, List.set_cons_succ, gRelU, c_lets, c_digs, c_sgns, c_blk, c_empty, c_zero, c_lf, c_sig, c_num, c_wrd, two_le, isTy_str, fMt, if_true, if_false, Bool.false_eq_true, Bool.not_true, Bool.not_false, decide_true, decide_false, reduceCtorEq, List.length_cons, List.length_nil, Nat.reduceAdd, List.map_cons, List.map_nil, List.replicate, List.cons_append, List.nil_append, Nat.reduceSub])
theorem lettered_ok (c : Nat) (r : Tx) (hl : (c :: r).length < 100000) (h : SH) : fe_is_lettered [.str (c :: r)] h = .ok (.bl (isL c || isD c)) h := by
  unfold fe_is_lettered fb_is_lettered fBody startS
  have hs := sizeLine_eq
  (simp only [fSeq, fSet, fVar, fC, slot, fNx, fRet, fRetN, fDrop, fIfS, fOp, fUn, fTst, fTru, truS, fAndT, fOrT, fNotT, fAnd, fOr, fNot, fIf, faN, faC, fTup, fLst, fPar, fPar3, fAug, fAsg, fCa, foN, foS, fSl, gtName, gtNil, gtCons, gtTup, gtSub, fChain, gIsN, isNon, bok, bind_bad, call1, call2, call3, List.set_cons_zero, List.set_cons_succ, gRelU, c_lets, c_digs, c_sgns, c_blk, c_empty, c_zero, c_lf, c_sig, c_num, c_wrd, two_le, isTy_str, fMt, if_true, if_false, Bool.false_eq_true, Bool.not_true, Bool.not_false, decide_true, decide_false, reduceCtorEq, List.length_cons, List.length_nil, Nat.reduceAdd, List.map_cons, List.map_nil, List.replicate, List.cons_append, List.nil_append, Nat.reduceSub])
  rw [ixs 0 (i := 0) (l := c :: r) (c := c) rfl (by omega) rfl]
  (simp only [fSeq, fSet, fVar, fC, slot, fNx, fRet, fRetN, fDrop, fIfS, fOp, fUn, fTst, fTru, truS, fAndT, fOrT, fNotT, fAnd, fOr, fNot, fIf, faN, faC, fTup, fLst, fPar, fPar3, fAug, fAsg, fCa, foN, foS, fSl, gtName, gtNil, gtCons, gtTup, gtSub, fChain, gIsN, isNon, bok, bind_bad, call1, call2, call3, List.set_cons_zero, List.set_cons_succ, gRelU, c_lets, c_digs, c_sgns, c_blk, c_empty, c_zero, c_lf, c_sig, c_num, c_wrd, two_le, isTy_str, fMt, if_true, if_false, Bool.false_eq_true, Bool.not_true, Bool.not_false, decide_true, decide_false, reduceCtorEq, List.length_cons, List.length_nil, Nat.reduceAdd, List.map_cons, List.map_nil, List.replicate, List.cons_append, List.nil_append, Nat.reduceSub])
  rw [in_sign, in_lets]
  (simp only [fSeq, fSet, fVar, fC, slot, fNx, fRet, fRetN, fDrop, fIfS, fOp, fUn, fTst, fTru, truS, fAndT, fOrT, fNotT, fAnd, fOr, fNot, fIf, faN, faC, fTup, fLst, fPar, fPar3, fAug, fAsg, fCa, foN, foS, fSl, gtName, gtNil, gtCons, gtTup, gtSub, fChain, gIsN, isNon, bok, bind_bad, call1, call2, call3, List.set_cons_zero, List.set_cons_succ, gRelU, c_lets, c_digs, c_sgns, c_blk, c_empty, c_zero, c_lf, c_sig, c_num, c_wrd, two_le, isTy_str, fMt, if_true, if_false, Bool.false_eq_true, Bool.not_true, Bool.not_false, decide_true, decide_false, reduceCtorEq, List.length_cons, List.length_nil, Nat.reduceAdd, List.map_cons, List.map_nil, List.replicate, List.cons_append, List.nil_append, Nat.reduceSub])
  by_cases h1 : isL c = true
  · rw [h1]
    (simp only [fSeq, fSet, fVar, fC, slot, fNx, fRet, fRetN, fDrop, fIfS, fOp, fUn, fTst, fTru, truS, fAndT, fOrT, fNotT, fAnd, fOr, fNot, fIf, faN, faC, fTup, fLst, fPar, fPar3, fAug, fAsg, fCa, foN, foS, fSl, gtName, gtNil, gtCons, gtTup, gtSub, fChain, gIsN, isNon, bok, bind_bad, call1, call2, call3, List.set_cons_zero, List.set_cons_succ, gRelU, c_lets, c_digs, c_sgns, c_blk, c_empty, c_zero, c_lf, c_sig, c_num, c_wrd, two_le, isTy_str, fMt, if_true, if_false, Bool.false_eq_true, Bool.not_true, Bool.not_false, decide_true, decide_false, reduceCtorEq, List.length_cons, List.length_nil, Nat.reduceAdd, List.map_cons, List.map_nil, List.replicate, List.cons_append, List.nil_append, Nat.reduceSub])
    rfl
  · have h1 : isL c = false := by simpa using h1
    rw [h1]
    (simp only [fSeq, fSet, fVar, fC, slot, fNx, fRet, fRetN, fDrop, fIfS, fOp, fUn, fTst, fTru, truS, fAndT, fOrT, fNotT, fAnd, fOr, fNot, fIf, faN, faC, fTup, fLst, fPar, fPar3, fAug, fAsg, fCa, foN, foS, fSl, gtName, gtNil, gtCons, gtTup, gtSub, fChain, gIsN, isNon, bok, bind_bad, call1, call2, call3, List.set_cons_zero, List.set_cons_succ, gRelU, c_lets, c_digs, c_sgns, c_blk, c_empty, c_zero, c_lf, c_sig, c_num, c_wrd, two_le, isTy_str, fMt, if_true, if_false, Bool.false_eq_true, Bool.not_true, Bool.not_false, decide_true, decide_false, reduceCtorEq, List.length_cons, List.length_nil, Nat.reduceAdd, List.map_cons, List.map_nil, List.replicate, List.cons_append, List.nil_append, Nat.reduceSub])
    rw [ixs 0 (i := 0) (l := c :: r) (c := c) rfl (by omega) rfl]
    (simp only [fSeq, fSet, fVar, fC, slot, fNx, fRet, fRetN, fDrop, fIfS, fOp, fUn, fTst, fTru, truS, fAndT, fOrT, fNotT, fAnd, fOr, fNot, fIf, faN, faC, fTup, fLst, fPar, fPar3, fAug, fAsg, fCa, foN, foS, fSl, gtName, gtNil, gtCons, gtTup, gtSub, fChain, gIsN, isNon, bok, bind_bad, call1, call2, call3, List.set_cons_zero, List.set_cons_succ, gRelU, c_lets, c_digs, c_sgns, c_blk, c_empty, c_zero, c_lf, c_sig, c_num, c_wrd, two_le, isTy_str, fMt, if_true, if_false, Bool.false_eq_true, Bool.not_true, Bool.not_false, decide_true, decide_false, reduceCtorEq, List.length_cons, List.length_nil, Nat.reduceAdd, List.map_cons, List.map_nil, List.replicate, List.cons_append, List.nil_append, Nat.reduceSub])
    rw [in_sign, in_digs]
    (simp only [fSeq, fSet, fVar, fC, slot, fNx, fRet, fRetN, fDrop, fIfS, fOp, fUn, fTst, fTru, truS, fAndT, fOrT, fNotT, fAnd, fOr, fNot, fIf, faN, faC, fTup, fLst, fPar, fPar3, fAug, fAsg, fCa, foN, foS, fSl, gtName, gtNil, gtCons, gtTup, gtSub, fChain, gIsN, isNon, bok, bind_bad, call1, call2, call3, List.set_cons_zero, List.set_cons_succ, gRelU, c_lets, c_digs, c_sgns, c_blk, c_empty, c_zero, c_lf, c_sig, c_num, c_wrd, two_le, isTy_str, fMt, if_true, if_false, Bool.false_eq_true, Bool.not_true, Bool.not_false, decide_true, decide_false, reduceCtorEq, List.length_cons, List.length_nil, Nat.reduceAdd, List.map_cons, List.map_nil, List.replicate, List.cons_append, List.nil_append, Nat.reduceSub])
    rfl
end K11
/-! what each def gives: what is wrong with a sign; places -/
namespace K11
open PySem Fv
abbrev txs (bs : List Tx) : List SV := bs.map .str
theorem cl_txs (n : Nat) (bs : List Tx) : clL n (txs bs) = true := clL_map _ _ _ fun _ _ => by simp
theorem notin_sign (c : Nat) (l : List Nat) (h : SH) : gInD true (.str [c]) (.str l) h = .ok (.bl (!decide (c ∈ l))) h := rfl
theorem ap_if {c : FT} {i p : Nat} {it : F} {η : Sl} {H : SH} {xs : List SV} {v : SV} {b : Bool} (ec : c η H = .ok b H) (es : slot η i = some (.loc p)) (g : H.get p = some (.lst xs)) (hl : xs.length < sizeLine) (ev : it η H = .ok v H) :
    fIfS c (fDrop (fMt "list" gAppend (fVar i) (faC it faN))) fNx η H = .ok (.nx η) (if b then H.set p (.lst (xs ++ [v])) else H) := by
  unfold fIfS
  rw [ec, bok]
  cases b with
  | false => rfl
  | true =>
    simp only [if_true]
    unfold fDrop
    rw [mt_ok (var_ok es) (isTy_loc g) (faC_ok ev faN_ok) (append_loc g hl), bok]
theorem new_if (h : SH) (xs : List SV) (v : SV) (b : Bool) : (if b then (h.new (.lst xs)).set h.nx (.lst (xs ++ [v])) else h.new (.lst xs)) = h.new (.lst (xs ++ if b then [v] else [])) := by
  cases b with
  | false => simp
  | true => simp only [if_true]; rw [SH.new_set]
def wrW (bl : Bool) (w : Tx) : List Tx := match w with
  | [] => []
  | c :: _ => (if !(isL c || isD c) && !isG c then [sSig] else []) ++ ((if bNum w then [sNum] else []) ++ (if (isL c && decide (8 < w.length)) || (bl && (isL c || isD c)) then [sWrd] else []))
def befB : SV → Bool
  | .str (c :: _) => isL c || isD c
  | _ => false
def IsBef (v : SV) : Prop := v = .non ∨ ∃ c s, v = .str (c :: s) ∧ (c :: s).length < 100000
theorem lett_at {i : Nat} {η : Sl} {h : SH} {c : Nat} {s : Tx} (es : slot η i = some (.str (c :: s))) (hl : (c :: s).length < 100000) : fCall 1 fe_is_lettered (faC (fVar i) faN) η h = .ok (.bl (isL c || isD c)) h := call1_ok (var_ok es) (lettered_ok c s hl h)
theorem ix_at {i : Nat} {η : Sl} {h : SH} {c : Nat} {s : Tx} (es : slot η i = some (.str (c :: s))) (hl : (c :: s).length < 100000) : fOp gIx (fVar i) (fC (.int 0)) η h = .ok (.str [c]) h := op_ok (var_ok es) c_ok (ixs 0 rfl (by have := sizeLine_eq; omega) rfl h)
theorem len_at {i : Nat} {η : Sl} {h : SH} {s : Tx} (es : slot η i = some (.str s)) (hl : s.length < 100000) : fCa gLen (faC (fVar i) faN) η h = .ok (.int s.length) h := ca_ok (faC_ok (var_ok es) faN_ok) (len_str (by have := sizeLine_eq; omega) h)
theorem gt_at {i : Nat} {η : Sl} {h : SH} {s : Tx} (n : Nat) (es : slot η i = some (.str s)) (hl : s.length < 100000) : fTst (fOp gGtU (fCa gLen (faC (fVar i) faN)) (fC (.int (n : Int)))) η h = .ok (decide (n < s.length)) h := by
  refine tst_ok (op_ok (len_at es hl) c_ok ?_)
  unfold gGtU
  rw [rel_int]
  congr 2
  simp
theorem bNum_c (c : Nat) (s : Tx) : bNum (c :: s) = (isD c && (decide (12 < (c :: s).length) || (decide (c = 48) && decide (1 < (c :: s).length)))) := rfl
theorem wrong_ok (c : Nat) (s : Tx) (v : SV) (hv : IsBef v) (hl : (c :: s).length < 100000) (h : SH) : fe_wrong_with [.str (c :: s), v] h = .ok (.loc h.nx) (h.new (.lst (txs (wrW (befB v) (c :: s))))) := by
  unfold fe_wrong_with fb_wrong_with fBody startS
  have hs := sizeLine_eq
  rw [c_lets, c_digs, c_sgns, c_zero, c_sig, c_num, c_wrd]
  have z0 : (0 : Nat) ≤ sizeLine := by omega
  unfold fSeq
  have e0 : fSet 2 (fLst faN) [some (.str (c :: s)), some v, none, none] h = .ok (.nx [some (.str (c :: s)), some v, some (.loc h.nx), none]) (h.new (.lst (txs []))) := by
    unfold fSet fLst faN
    simp only [bok, List.length_nil, z0, if_true]
    rfl
  have e0' : fSet 2 (fLst faN) ((List.map some [SV.str (c :: s), v]) ++ List.replicate (4 - [SV.str (c :: s), v].length) none) h = .ok (.nx [some (.str (c :: s)), some v, some (.loc h.nx), none]) (h.new (.lst (txs []))) := e0
  rw [e0', bok]
  simp only
  have g0 : ∀ xs, (h.new (.lst xs)).get h.nx = some (.lst xs) := fun xs => get_new_same
  rw [ap_if (b := !(isL c || isD c) && !isG c) (and_b (not_b (tru_ok (lett_at rfl hl))) fun _ => tst_ok (op_ok (ix_at rfl hl) c_ok (notin_sign _ _ _))) rfl (g0 _) (by simp; omega) c_ok, new_if]
  rw [bok]
  simp only
  have m1 : txs [] ++ (if (!(isL c || isD c) && !isG c) = true then [SV.str sSig] else []) = txs (if (!(isL c || isD c) && !isG c) = true then [sSig] else []) := by
    split <;> rfl
  rw [m1]
  rw [ap_if (b := bNum (c :: s)) ?_ rfl (g0 _) (by split <;> simp <;> omega) c_ok, new_if]
  rotate_left
  · rw [bNum_c]
    have e1 : ∀ H : SH, fTst (fOp (gEq true) (fVar 0) (fC (.str [48]))) [some (.str (c :: s)), some v, some (.loc h.nx), none] H = .ok (!decide (c :: s = [48])) H := fun H => tst_ok (op_ok (var_ok rfl) c_ok (eq_str _ _ true _))
    have e2 : (decide (c = 48) && decide (1 < (c :: s).length)) = (decide ([c] = [48]) && !decide (c :: s = [48])) := by
      cases s with
      | nil => by_cases hc : c = 48 <;> simp [hc]
      | cons d s => by_cases hc : c = 48 <;> simp [hc]
    rw [e2, ← in_digs]
    exact and_b (tst_ok (op_ok (ix_at rfl hl) c_ok (in_sign _ _ _))) fun _ => or_b (gt_at 12 rfl hl) fun _ => and_b (tst_ok (op_ok (ix_at rfl hl) c_ok (eq_str _ _ false _))) fun _ => e1 _
  rw [bok]
  simp only
  generalize hA : txs (if (!(isL c || isD c) && !isG c) = true then [sSig] else []) ++ (if bNum (c :: s) = true then [SV.str sNum] else []) = A
  have hA2 : A = txs ((if (!(isL c || isD c) && !isG c) = true then [sSig] else []) ++ if bNum (c :: s) = true then [sNum] else []) := by
    rw [← hA]
    show _ = List.map SV.str (_ ++ _)
    rw [List.map_append]
    congr 1
    split <;> rfl
  have hA3 : A.length ≤ 2 := by
    rw [hA2]
    split <;> split <;> simp
  have e3 : fSet 3 (fAnd (fOp (gIsN true) (fVar 1) (fC .non)) (fAnd (fCall 1 fe_is_lettered (faC (fVar 1) faN)) (fCall 1 fe_is_lettered (faC (fVar 0) faN)))) [some (.str (c :: s)), some v, some (.loc h.nx), none] (h.new (.lst A)) = .ok (.nx [some (.str (c :: s)), some v, some (.loc h.nx), some (.bl (befB v && (isL c || isD c)))]) (h.new (.lst A)) := by
    unfold fSet
    have : fAnd (fOp (gIsN true) (fVar 1) (fC .non)) (fAnd (fCall 1 fe_is_lettered (faC (fVar 1) faN)) (fCall 1 fe_is_lettered (faC (fVar 0) faN))) [some (.str (c :: s)), some v, some (.loc h.nx), none] (h.new (.lst A)) = .ok (.bl (befB v && (isL c || isD c))) (h.new (.lst A)) := by
      rcases hv with rfl | ⟨c', s', rfl, hl'⟩
      · refine and_ok (k := false) (isN_ok (v := .non) true (var_ok rfl) c_ok) (fun z => by cases z) fun _ => rfl
      · refine and_ok (k := true) (isN_ok (v := .str (c' :: s')) true (var_ok rfl) c_ok) (fun _ => ?_) (fun z => by cases z)
        exact andE_b (lett_at rfl hl') fun _ => lett_at rfl hl
    rw [this, bok]
    rfl
  rw [e3, bok]
  simp only
  rw [ap_if (b := (isL c && decide (8 < (c :: s).length)) || (befB v && (isL c || isD c))) ?_ rfl (g0 _) (by omega) c_ok, new_if]
  rotate_left
  · rw [← in_lets]
    exact or_b (and_b (tst_ok (op_ok (ix_at rfl hl) c_ok (in_sign _ _ _))) fun _ => gt_at 8 rfl hl) fun _ => tru_ok (var_ok rfl)
  rw [bok]
  simp only
  unfold fRet
  rw [var_ok (v := .loc h.nx) rfl, bok]
  simp only [bok]
  congr 2
  rw [hA2]
  unfold wrW
  simp only [List.map_append, List.append_assoc]
  congr 3
  split <;> rfl
end K11
/-! places, ends -/
namespace K11
open PySem Fv
def plV (p : Pl) : SV := .tup [.int (p.1 : Nat), .int (p.2 : Nat)]
theorem cl_pl (n : Nat) (p : Pl) : clV n (plV p) = true := rfl
theorem cl_pls (n : Nat) (ps : List Pl) : clL n (ps.map plV) = true := clL_map _ _ _ fun _ _ => rfl
theorem law_letters_ok (h : SH) : fe__law_letters [] h = .ok (.str [97,98,99,100,101,102,103,104,105,106,107,108,109,110,111,112,113,114,115,116,117,118,119,120,121,122]) h := rfl
theorem law_digits_ok (h : SH) : fe__law_digits [] h = .ok (.str [48, 49, 50, 51, 52, 53, 54, 55, 56, 57]) h := rfl
theorem law_signs_ok (h : SH) : fe__law_signs [] h = .ok (.str sgL) h := rfl
theorem call0_ok {fe : FF} {η : Sl} {h : SH} {o : Out SV} (e : fe [] h = o) : fCall 0 fe faN η h = o := e
theorem law_end_ok (t : Tx) (a c : Nat) (r : Tx) (hl : t.length < 100000) (e : t.drop a = c :: r) (h : SH) : fe__law_end [.str t, .int (a : Int)] h = .ok (.int ((a + (tokN (c :: r)).length : Nat) : Int)) h := by
  unfold fe__law_end fb__law_end fBody startS
  have hs := sizeLine_eq
  have ec := drop_at e
  have ha := (List.getElem?_eq_some_iff.mp ec).1
  have c0 : ∀ {fe : FF} {η : Sl} {h : SH}, fCall 0 fe faN η h = fe [] h := rfl
  (simp only [fSeq, fSet, fVar, fC, slot, fNx, fRet, fRetN, fDrop, fIfS, fOp, fUn, fTst, fTru, truS, fAndT, fOrT, fNotT, fAnd, fOr, fNot, fIf, faN, faC, fTup, fLst, fPar, fPar3, fAug, fAsg, fCa, foN, foS, fSl, gtName, gtNil, gtCons, gtTup, gtSub, fChain, gIsN, isNon, bok, bind_bad, call1, call2, call3, List.set_cons_zero, List.set_cons_succ, gRelU, c_lets, c_digs, c_sgns, c_blk, c_empty, c_zero, c_lf, c_sig, c_num, c_wrd, two_le, isTy_str, fMt, if_true, if_false, Bool.false_eq_true, Bool.not_true, Bool.not_false, decide_true, decide_false, reduceCtorEq, List.length_cons, List.length_nil, Nat.reduceAdd, List.map_cons, List.map_nil, List.replicate, List.cons_append, List.nil_append, Nat.reduceSub])
  rw [ix_str (by omega) ec]
  (simp only [fSeq, fSet, fVar, fC, slot, fNx, fRet, fRetN, fDrop, fIfS, fOp, fUn, fTst, fTru, truS, fAndT, fOrT, fNotT, fAnd, fOr, fNot, fIf, faN, faC, fTup, fLst, fPar, fPar3, fAug, fAsg, fCa, foN, foS, fSl, gtName, gtNil, gtCons, gtTup, gtSub, fChain, gIsN, isNon, bok, bind_bad, call1, call2, call3, List.set_cons_zero, List.set_cons_succ, gRelU, c_lets, c_digs, c_sgns, c_blk, c_empty, c_zero, c_lf, c_sig, c_num, c_wrd, two_le, isTy_str, fMt, if_true, if_false, Bool.false_eq_true, Bool.not_true, Bool.not_false, decide_true, decide_false, reduceCtorEq, List.length_cons, List.length_nil, Nat.reduceAdd, List.map_cons, List.map_nil, List.replicate, List.cons_append, List.nil_append, Nat.reduceSub])
  rw [c0, law_letters_ok]
  (simp only [fSeq, fSet, fVar, fC, slot, fNx, fRet, fRetN, fDrop, fIfS, fOp, fUn, fTst, fTru, truS, fAndT, fOrT, fNotT, fAnd, fOr, fNot, fIf, faN, faC, fTup, fLst, fPar, fPar3, fAug, fAsg, fCa, foN, foS, fSl, gtName, gtNil, gtCons, gtTup, gtSub, fChain, gIsN, isNon, bok, bind_bad, call1, call2, call3, List.set_cons_zero, List.set_cons_succ, gRelU, c_lets, c_digs, c_sgns, c_blk, c_empty, c_zero, c_lf, c_sig, c_num, c_wrd, two_le, isTy_str, fMt, if_true, if_false, Bool.false_eq_true, Bool.not_true, Bool.not_false, decide_true, decide_false, reduceCtorEq, List.length_cons, List.length_nil, Nat.reduceAdd, List.map_cons, List.map_nil, List.replicate, List.cons_append, List.nil_append, Nat.reduceSub])
  rw [in_sign, in_lets]
  (simp only [fSeq, fSet, fVar, fC, slot, fNx, fRet, fRetN, fDrop, fIfS, fOp, fUn, fTst, fTru, truS, fAndT, fOrT, fNotT, fAnd, fOr, fNot, fIf, faN, faC, fTup, fLst, fPar, fPar3, fAug, fAsg, fCa, foN, foS, fSl, gtName, gtNil, gtCons, gtTup, gtSub, fChain, gIsN, isNon, bok, bind_bad, call1, call2, call3, List.set_cons_zero, List.set_cons_succ, gRelU, c_lets, c_digs, c_sgns, c_blk, c_empty, c_zero, c_lf, c_sig, c_num, c_wrd, two_le, isTy_str, fMt, if_true, if_false, Bool.false_eq_true, Bool.not_true, Bool.not_false, decide_true, decide_false, reduceCtorEq, List.length_cons, List.length_nil, Nat.reduceAdd, List.map_cons, List.map_nil, List.replicate, List.cons_append, List.nil_append, Nat.reduceSub])
  rw [tok_c]
  by_cases h1 : isL c = true
  · rw [h1]
    (simp only [fSeq, fSet, fVar, fC, slot, fNx, fRet, fRetN, fDrop, fIfS, fOp, fUn, fTst, fTru, truS, fAndT, fOrT, fNotT, fAnd, fOr, fNot, fIf, faN, faC, fTup, fLst, fPar, fPar3, fAug, fAsg, fCa, foN, foS, fSl, gtName, gtNil, gtCons, gtTup, gtSub, fChain, gIsN, isNon, bok, bind_bad, call1, call2, call3, List.set_cons_zero, List.set_cons_succ, gRelU, c_lets, c_digs, c_sgns, c_blk, c_empty, c_zero, c_lf, c_sig, c_num, c_wrd, two_le, isTy_str, fMt, if_true, if_false, Bool.false_eq_true, Bool.not_true, Bool.not_false, decide_true, decide_false, reduceCtorEq, List.length_cons, List.length_nil, Nat.reduceAdd, List.map_cons, List.map_nil, List.replicate, List.cons_append, List.nil_append, Nat.reduceSub])
    rw [c0, law_letters_ok]
    (simp only [fSeq, fSet, fVar, fC, slot, fNx, fRet, fRetN, fDrop, fIfS, fOp, fUn, fTst, fTru, truS, fAndT, fOrT, fNotT, fAnd, fOr, fNot, fIf, faN, faC, fTup, fLst, fPar, fPar3, fAug, fAsg, fCa, foN, foS, fSl, gtName, gtNil, gtCons, gtTup, gtSub, fChain, gIsN, isNon, bok, bind_bad, call1, call2, call3, List.set_cons_zero, List.set_cons_succ, gRelU, c_lets, c_digs, c_sgns, c_blk, c_empty, c_zero, c_lf, c_sig, c_num, c_wrd, two_le, isTy_str, fMt, if_true, if_false, Bool.false_eq_true, Bool.not_true, Bool.not_false, decide_true, decide_false, reduceCtorEq, List.length_cons, List.length_nil, Nat.reduceAdd, List.map_cons, List.map_nil, List.replicate, List.cons_append, List.nil_append, Nat.reduceSub])
    rw [eq_str]
    (simp only [fSeq, fSet, fVar, fC, slot, fNx, fRet, fRetN, fDrop, fIfS, fOp, fUn, fTst, fTru, truS, fAndT, fOrT, fNotT, fAnd, fOr, fNot, fIf, faN, faC, fTup, fLst, fPar, fPar3, fAug, fAsg, fCa, foN, foS, fSl, gtName, gtNil, gtCons, gtTup, gtSub, fChain, gIsN, isNon, bok, bind_bad, call1, call2, call3, List.set_cons_zero, List.set_cons_succ, gRelU, c_lets, c_digs, c_sgns, c_blk, c_empty, c_zero, c_lf, c_sig, c_num, c_wrd, two_le, isTy_str, fMt, if_true, if_false, Bool.false_eq_true, Bool.not_true, Bool.not_false, decide_true, decide_false, reduceCtorEq, List.length_cons, List.length_nil, Nat.reduceAdd, List.map_cons, List.map_nil, List.replicate, List.cons_append, List.nil_append, Nat.reduceSub])
    rw [str_loop (fun e => by (simp only [fSeq, fSet, fVar, fC, slot, fNx, fRet, fRetN, fDrop, fIfS, fOp, fUn, fTst, fTru, truS, fAndT, fOrT, fNotT, fAnd, fOr, fNot, fIf, faN, faC, fTup, fLst, fPar, fPar3, fAug, fAsg, fCa, foN, foS, fSl, gtName, gtNil, gtCons, gtTup, gtSub, fChain, gIsN, isNon, bok, bind_bad, call1, call2, call3, List.set_cons_zero, List.set_cons_succ, gRelU, c_lets, c_digs, c_sgns, c_blk, c_empty, c_zero, c_lf, c_sig, c_num, c_wrd, two_le, isTy_str, fMt, if_true, if_false, Bool.false_eq_true, Bool.not_true, Bool.not_false, decide_true, decide_false, reduceCtorEq, List.length_cons, List.length_nil, Nat.reduceAdd, List.map_cons, List.map_nil, List.replicate, List.cons_append, List.nil_append, Nat.reduceSub]); rw [add_int]; (simp only [fSeq, fSet, fVar, fC, slot, fNx, fRet, fRetN, fDrop, fIfS, fOp, fUn, fTst, fTru, truS, fAndT, fOrT, fNotT, fAnd, fOr, fNot, fIf, faN, faC, fTup, fLst, fPar, fPar3, fAug, fAsg, fCa, foN, foS, fSl, gtName, gtNil, gtCons, gtTup, gtSub, fChain, gIsN, isNon, bok, bind_bad, call1, call2, call3, List.set_cons_zero, List.set_cons_succ, gRelU, c_lets, c_digs, c_sgns, c_blk, c_empty, c_zero, c_lf, c_sig, c_num, c_wrd, two_le, isTy_str, fMt, if_true, if_false, Bool.false_eq_true, Bool.not_true, Bool.not_false, decide_true, decide_false, reduceCtorEq, List.length_cons, List.length_nil, Nat.reduceAdd, List.map_cons, List.map_nil, List.replicate, List.cons_append, List.nil_append, Nat.reduceSub]); rfl) hl (by omega), e]
    (simp only [fSeq, fSet, fVar, fC, slot, fNx, fRet, fRetN, fDrop, fIfS, fOp, fUn, fTst, fTru, truS, fAndT, fOrT, fNotT, fAnd, fOr, fNot, fIf, faN, faC, fTup, fLst, fPar, fPar3, fAug, fAsg, fCa, foN, foS, fSl, gtName, gtNil, gtCons, gtTup, gtSub, fChain, gIsN, isNon, bok, bind_bad, call1, call2, call3, List.set_cons_zero, List.set_cons_succ, gRelU, c_lets, c_digs, c_sgns, c_blk, c_empty, c_zero, c_lf, c_sig, c_num, c_wrd, two_le, isTy_str, fMt, if_true, if_false, Bool.false_eq_true, Bool.not_true, Bool.not_false, decide_true, decide_false, reduceCtorEq, List.length_cons, List.length_nil, Nat.reduceAdd, List.map_cons, List.map_nil, List.replicate, List.cons_append, List.nil_append, Nat.reduceSub])
    rw [tw_fun in_lets, List.takeWhile_cons_of_pos h1]
    rfl
  · have h1 : isL c = false := by simpa using h1
    rw [h1]
    (simp only [fSeq, fSet, fVar, fC, slot, fNx, fRet, fRetN, fDrop, fIfS, fOp, fUn, fTst, fTru, truS, fAndT, fOrT, fNotT, fAnd, fOr, fNot, fIf, faN, faC, fTup, fLst, fPar, fPar3, fAug, fAsg, fCa, foN, foS, fSl, gtName, gtNil, gtCons, gtTup, gtSub, fChain, gIsN, isNon, bok, bind_bad, call1, call2, call3, List.set_cons_zero, List.set_cons_succ, gRelU, c_lets, c_digs, c_sgns, c_blk, c_empty, c_zero, c_lf, c_sig, c_num, c_wrd, two_le, isTy_str, fMt, if_true, if_false, Bool.false_eq_true, Bool.not_true, Bool.not_false, decide_true, decide_false, reduceCtorEq, List.length_cons, List.length_nil, Nat.reduceAdd, List.map_cons, List.map_nil, List.replicate, List.cons_append, List.nil_append, Nat.reduceSub])
    rw [ix_str (by omega) ec]
    (simp only [fSeq, fSet, fVar, fC, slot, fNx, fRet, fRetN, fDrop, fIfS, fOp, fUn, fTst, fTru, truS, fAndT, fOrT, fNotT, fAnd, fOr, fNot, fIf, faN, faC, fTup, fLst, fPar, fPar3, fAug, fAsg, fCa, foN, foS, fSl, gtName, gtNil, gtCons, gtTup, gtSub, fChain, gIsN, isNon, bok, bind_bad, call1, call2, call3, List.set_cons_zero, List.set_cons_succ, gRelU, c_lets, c_digs, c_sgns, c_blk, c_empty, c_zero, c_lf, c_sig, c_num, c_wrd, two_le, isTy_str, fMt, if_true, if_false, Bool.false_eq_true, Bool.not_true, Bool.not_false, decide_true, decide_false, reduceCtorEq, List.length_cons, List.length_nil, Nat.reduceAdd, List.map_cons, List.map_nil, List.replicate, List.cons_append, List.nil_append, Nat.reduceSub])
    rw [c0, law_digits_ok]
    (simp only [fSeq, fSet, fVar, fC, slot, fNx, fRet, fRetN, fDrop, fIfS, fOp, fUn, fTst, fTru, truS, fAndT, fOrT, fNotT, fAnd, fOr, fNot, fIf, faN, faC, fTup, fLst, fPar, fPar3, fAug, fAsg, fCa, foN, foS, fSl, gtName, gtNil, gtCons, gtTup, gtSub, fChain, gIsN, isNon, bok, bind_bad, call1, call2, call3, List.set_cons_zero, List.set_cons_succ, gRelU, c_lets, c_digs, c_sgns, c_blk, c_empty, c_zero, c_lf, c_sig, c_num, c_wrd, two_le, isTy_str, fMt, if_true, if_false, Bool.false_eq_true, Bool.not_true, Bool.not_false, decide_true, decide_false, reduceCtorEq, List.length_cons, List.length_nil, Nat.reduceAdd, List.map_cons, List.map_nil, List.replicate, List.cons_append, List.nil_append, Nat.reduceSub])
    rw [in_sign, in_digs]
    (simp only [fSeq, fSet, fVar, fC, slot, fNx, fRet, fRetN, fDrop, fIfS, fOp, fUn, fTst, fTru, truS, fAndT, fOrT, fNotT, fAnd, fOr, fNot, fIf, faN, faC, fTup, fLst, fPar, fPar3, fAug, fAsg, fCa, foN, foS, fSl, gtName, gtNil, gtCons, gtTup, gtSub, fChain, gIsN, isNon, bok, bind_bad, call1, call2, call3, List.set_cons_zero, List.set_cons_succ, gRelU, c_lets, c_digs, c_sgns, c_blk, c_empty, c_zero, c_lf, c_sig, c_num, c_wrd, two_le, isTy_str, fMt, if_true, if_false, Bool.false_eq_true, Bool.not_true, Bool.not_false, decide_true, decide_false, reduceCtorEq, List.length_cons, List.length_nil, Nat.reduceAdd, List.map_cons, List.map_nil, List.replicate, List.cons_append, List.nil_append, Nat.reduceSub])
    by_cases h2 : isD c = true
    · rw [h2]
      (simp only [fSeq, fSet, fVar, fC, slot, fNx, fRet, fRetN, fDrop, fIfS, fOp, fUn, fTst, fTru, truS, fAndT, fOrT, fNotT, fAnd, fOr, fNot, fIf, faN, faC, fTup, fLst, fPar, fPar3, fAug, fAsg, fCa, foN, foS, fSl, gtName, gtNil, gtCons, gtTup, gtSub, fChain, gIsN, isNon, bok, bind_bad, call1, call2, call3, List.set_cons_zero, List.set_cons_succ, gRelU, c_lets, c_digs, c_sgns, c_blk, c_empty, c_zero, c_lf, c_sig, c_num, c_wrd, two_le, isTy_str, fMt, if_true, if_false, Bool.false_eq_true, Bool.not_true, Bool.not_false, decide_true, decide_false, reduceCtorEq, List.length_cons, List.length_nil, Nat.reduceAdd, List.map_cons, List.map_nil, List.replicate, List.cons_append, List.nil_append, Nat.reduceSub])
      rw [c0, law_digits_ok]
      (simp only [fSeq, fSet, fVar, fC, slot, fNx, fRet, fRetN, fDrop, fIfS, fOp, fUn, fTst, fTru, truS, fAndT, fOrT, fNotT, fAnd, fOr, fNot, fIf, faN, faC, fTup, fLst, fPar, fPar3, fAug, fAsg, fCa, foN, foS, fSl, gtName, gtNil, gtCons, gtTup, gtSub, fChain, gIsN, isNon, bok, bind_bad, call1, call2, call3, List.set_cons_zero, List.set_cons_succ, gRelU, c_lets, c_digs, c_sgns, c_blk, c_empty, c_zero, c_lf, c_sig, c_num, c_wrd, two_le, isTy_str, fMt, if_true, if_false, Bool.false_eq_true, Bool.not_true, Bool.not_false, decide_true, decide_false, reduceCtorEq, List.length_cons, List.length_nil, Nat.reduceAdd, List.map_cons, List.map_nil, List.replicate, List.cons_append, List.nil_append, Nat.reduceSub])
      rw [eq_str]
      (simp only [fSeq, fSet, fVar, fC, slot, fNx, fRet, fRetN, fDrop, fIfS, fOp, fUn, fTst, fTru, truS, fAndT, fOrT, fNotT, fAnd, fOr, fNot, fIf, faN, faC, fTup, fLst, fPar, fPar3, fAug, fAsg, fCa, foN, foS, fSl, gtName, gtNil, gtCons, gtTup, gtSub, fChain, gIsN, isNon, bok, bind_bad, call1, call2, call3, List.set_cons_zero, List.set_cons_succ, gRelU, c_lets, c_digs, c_sgns, c_blk, c_empty, c_zero, c_lf, c_sig, c_num, c_wrd, two_le, isTy_str, fMt, if_true, if_false, Bool.false_eq_true, Bool.not_true, Bool.not_false, decide_true, decide_false, reduceCtorEq, List.length_cons, List.length_nil, Nat.reduceAdd, List.map_cons, List.map_nil, List.replicate, List.cons_append, List.nil_append, Nat.reduceSub])
      rw [str_loop (fun e => by (simp only [fSeq, fSet, fVar, fC, slot, fNx, fRet, fRetN, fDrop, fIfS, fOp, fUn, fTst, fTru, truS, fAndT, fOrT, fNotT, fAnd, fOr, fNot, fIf, faN, faC, fTup, fLst, fPar, fPar3, fAug, fAsg, fCa, foN, foS, fSl, gtName, gtNil, gtCons, gtTup, gtSub, fChain, gIsN, isNon, bok, bind_bad, call1, call2, call3, List.set_cons_zero, List.set_cons_succ, gRelU, c_lets, c_digs, c_sgns, c_blk, c_empty, c_zero, c_lf, c_sig, c_num, c_wrd, two_le, isTy_str, fMt, if_true, if_false, Bool.false_eq_true, Bool.not_true, Bool.not_false, decide_true, decide_false, reduceCtorEq, List.length_cons, List.length_nil, Nat.reduceAdd, List.map_cons, List.map_nil, List.replicate, List.cons_append, List.nil_append, Nat.reduceSub]); rw [add_int]; (simp only [fSeq, fSet, fVar, fC, slot, fNx, fRet, fRetN, fDrop, fIfS, fOp, fUn, fTst, fTru, truS, fAndT, fOrT, fNotT, fAnd, fOr, fNot, fIf, faN, faC, fTup, fLst, fPar, fPar3, fAug, fAsg, fCa, foN, foS, fSl, gtName, gtNil, gtCons, gtTup, gtSub, fChain, gIsN, isNon, bok, bind_bad, call1, call2, call3, List.set_cons_zero, List.set_cons_succ, gRelU, c_lets, c_digs, c_sgns, c_blk, c_empty, c_zero, c_lf, c_sig, c_num, c_wrd, two_le, isTy_str, fMt, if_true, if_false, Bool.false_eq_true, Bool.not_true, Bool.not_false, decide_true, decide_false, reduceCtorEq, List.length_cons, List.length_nil, Nat.reduceAdd, List.map_cons, List.map_nil, List.replicate, List.cons_append, List.nil_append, Nat.reduceSub]); rfl) hl (by omega), e]
      (simp only [fSeq, fSet, fVar, fC, slot, fNx, fRet, fRetN, fDrop, fIfS, fOp, fUn, fTst, fTru, truS, fAndT, fOrT, fNotT, fAnd, fOr, fNot, fIf, faN, faC, fTup, fLst, fPar, fPar3, fAug, fAsg, fCa, foN, foS, fSl, gtName, gtNil, gtCons, gtTup, gtSub, fChain, gIsN, isNon, bok, bind_bad, call1, call2, call3, List.set_cons_zero, List.set_cons_succ, gRelU, c_lets, c_digs, c_sgns, c_blk, c_empty, c_zero, c_lf, c_sig, c_num, c_wrd, two_le, isTy_str, fMt, if_true, if_false, Bool.false_eq_true, Bool.not_true, Bool.not_false, decide_true, decide_false, reduceCtorEq, List.length_cons, List.length_nil, Nat.reduceAdd, List.map_cons, List.map_nil, List.replicate, List.cons_append, List.nil_append, Nat.reduceSub])
      rw [tw_fun in_digs, List.takeWhile_cons_of_pos h2]
      rfl
    · have h2 : isD c = false := by simpa using h2
      rw [h2]
      (simp only [fSeq, fSet, fVar, fC, slot, fNx, fRet, fRetN, fDrop, fIfS, fOp, fUn, fTst, fTru, truS, fAndT, fOrT, fNotT, fAnd, fOr, fNot, fIf, faN, faC, fTup, fLst, fPar, fPar3, fAug, fAsg, fCa, foN, foS, fSl, gtName, gtNil, gtCons, gtTup, gtSub, fChain, gIsN, isNon, bok, bind_bad, call1, call2, call3, List.set_cons_zero, List.set_cons_succ, gRelU, c_lets, c_digs, c_sgns, c_blk, c_empty, c_zero, c_lf, c_sig, c_num, c_wrd, two_le, isTy_str, fMt, if_true, if_false, Bool.false_eq_true, Bool.not_true, Bool.not_false, decide_true, decide_false, reduceCtorEq, List.length_cons, List.length_nil, Nat.reduceAdd, List.map_cons, List.map_nil, List.replicate, List.cons_append, List.nil_append, Nat.reduceSub])
      rw [eq_str]
      (simp only [fSeq, fSet, fVar, fC, slot, fNx, fRet, fRetN, fDrop, fIfS, fOp, fUn, fTst, fTru, truS, fAndT, fOrT, fNotT, fAnd, fOr, fNot, fIf, faN, faC, fTup, fLst, fPar, fPar3, fAug, fAsg, fCa, foN, foS, fSl, gtName, gtNil, gtCons, gtTup, gtSub, fChain, gIsN, isNon, bok, bind_bad, call1, call2, call3, List.set_cons_zero, List.set_cons_succ, gRelU, c_lets, c_digs, c_sgns, c_blk, c_empty, c_zero, c_lf, c_sig, c_num, c_wrd, two_le, isTy_str, fMt, if_true, if_false, Bool.false_eq_true, Bool.not_true, Bool.not_false, decide_true, decide_false, reduceCtorEq, List.length_cons, List.length_nil, Nat.reduceAdd, List.map_cons, List.map_nil, List.replicate, List.cons_append, List.nil_append, Nat.reduceSub])
      rw [add_int]
      (simp only [fSeq, fSet, fVar, fC, slot, fNx, fRet, fRetN, fDrop, fIfS, fOp, fUn, fTst, fTru, truS, fAndT, fOrT, fNotT, fAnd, fOr, fNot, fIf, faN, faC, fTup, fLst, fPar, fPar3, fAug, fAsg, fCa, foN, foS, fSl, gtName, gtNil, gtCons, gtTup, gtSub, fChain, gIsN, isNon, bok, bind_bad, call1, call2, call3, List.set_cons_zero, List.set_cons_succ, gRelU, c_lets, c_digs, c_sgns, c_blk, c_empty, c_zero, c_lf, c_sig, c_num, c_wrd, two_le, isTy_str, fMt, if_true, if_false, Bool.false_eq_true, Bool.not_true, Bool.not_false, decide_true, decide_false, reduceCtorEq, List.length_cons, List.length_nil, Nat.reduceAdd, List.map_cons, List.map_nil, List.replicate, List.cons_append, List.nil_append, Nat.reduceSub])
      have e2 : (a : Int) + 2 = ((a + 2 : Nat) : Int) := by simp
      rw [e2, sl_str (by omega), e]
      have e3 : a + 2 - a = 2 := by omega
      rw [e3]
      (simp only [fSeq, fSet, fVar, fC, slot, fNx, fRet, fRetN, fDrop, fIfS, fOp, fUn, fTst, fTru, truS, fAndT, fOrT, fNotT, fAnd, fOr, fNot, fIf, faN, faC, fTup, fLst, fPar, fPar3, fAug, fAsg, fCa, foN, foS, fSl, gtName, gtNil, gtCons, gtTup, gtSub, fChain, gIsN, isNon, bok, bind_bad, call1, call2, call3, List.set_cons_zero, List.set_cons_succ, gRelU, c_lets, c_digs, c_sgns, c_blk, c_empty, c_zero, c_lf, c_sig, c_num, c_wrd, two_le, isTy_str, fMt, if_true, if_false, Bool.false_eq_true, Bool.not_true, Bool.not_false, decide_true, decide_false, reduceCtorEq, List.length_cons, List.length_nil, Nat.reduceAdd, List.map_cons, List.map_nil, List.replicate, List.cons_append, List.nil_append, Nat.reduceSub])
      have e4 : gInD false (.str ((c :: r).take 2)) (.tup [.str (("<=" : PySem.Str).cps.toList), .str ((">=" : PySem.Str).cps.toList), .str (("<>" : PySem.Str).cps.toList)]) h = .ok (.bl (dbl ((c :: r).take 2))) h := in_dbl _ h
      have z3 : 3 ≤ sizeLine := by omega
      simp only [z3, if_true]
      (simp only [fSeq, fSet, fVar, fC, slot, fNx, fRet, fRetN, fDrop, fIfS, fOp, fUn, fTst, fTru, truS, fAndT, fOrT, fNotT, fAnd, fOr, fNot, fIf, faN, faC, fTup, fLst, fPar, fPar3, fAug, fAsg, fCa, foN, foS, fSl, gtName, gtNil, gtCons, gtTup, gtSub, fChain, gIsN, isNon, bok, bind_bad, call1, call2, call3, List.set_cons_zero, List.set_cons_succ, gRelU, c_lets, c_digs, c_sgns, c_blk, c_empty, c_zero, c_lf, c_sig, c_num, c_wrd, two_le, isTy_str, fMt, if_true, if_false, Bool.false_eq_true, Bool.not_true, Bool.not_false, decide_true, decide_false, reduceCtorEq, List.length_cons, List.length_nil, Nat.reduceAdd, List.map_cons, List.map_nil, List.replicate, List.cons_append, List.nil_append, Nat.reduceSub])
      rw [e4]
      (simp only [fSeq, fSet, fVar, fC, slot, fNx, fRet, fRetN, fDrop, fIfS, fOp, fUn, fTst, fTru, truS, fAndT, fOrT, fNotT, fAnd, fOr, fNot, fIf, faN, faC, fTup, fLst, fPar, fPar3, fAug, fAsg, fCa, foN, foS, fSl, gtName, gtNil, gtCons, gtTup, gtSub, fChain, gIsN, isNon, bok, bind_bad, call1, call2, call3, List.set_cons_zero, List.set_cons_succ, gRelU, c_lets, c_digs, c_sgns, c_blk, c_empty, c_zero, c_lf, c_sig, c_num, c_wrd, two_le, isTy_str, fMt, if_true, if_false, Bool.false_eq_true, Bool.not_true, Bool.not_false, decide_true, decide_false, reduceCtorEq, List.length_cons, List.length_nil, Nat.reduceAdd, List.map_cons, List.map_nil, List.replicate, List.cons_append, List.nil_append, Nat.reduceSub])
      by_cases h3 : dbl ((c :: r).take 2) = true
      · rw [h3]
        (simp only [fSeq, fSet, fVar, fC, slot, fNx, fRet, fRetN, fDrop, fIfS, fOp, fUn, fTst, fTru, truS, fAndT, fOrT, fNotT, fAnd, fOr, fNot, fIf, faN, faC, fTup, fLst, fPar, fPar3, fAug, fAsg, fCa, foN, foS, fSl, gtName, gtNil, gtCons, gtTup, gtSub, fChain, gIsN, isNon, bok, bind_bad, call1, call2, call3, List.set_cons_zero, List.set_cons_succ, gRelU, c_lets, c_digs, c_sgns, c_blk, c_empty, c_zero, c_lf, c_sig, c_num, c_wrd, two_le, isTy_str, fMt, if_true, if_false, Bool.false_eq_true, Bool.not_true, Bool.not_false, decide_true, decide_false, reduceCtorEq, List.length_cons, List.length_nil, Nat.reduceAdd, List.map_cons, List.map_nil, List.replicate, List.cons_append, List.nil_append, Nat.reduceSub])
        rw [add_int]
        (simp only [fSeq, fSet, fVar, fC, slot, fNx, fRet, fRetN, fDrop, fIfS, fOp, fUn, fTst, fTru, truS, fAndT, fOrT, fNotT, fAnd, fOr, fNot, fIf, faN, faC, fTup, fLst, fPar, fPar3, fAug, fAsg, fCa, foN, foS, fSl, gtName, gtNil, gtCons, gtTup, gtSub, fChain, gIsN, isNon, bok, bind_bad, call1, call2, call3, List.set_cons_zero, List.set_cons_succ, gRelU, c_lets, c_digs, c_sgns, c_blk, c_empty, c_zero, c_lf, c_sig, c_num, c_wrd, two_le, isTy_str, fMt, if_true, if_false, Bool.false_eq_true, Bool.not_true, Bool.not_false, decide_true, decide_false, reduceCtorEq, List.length_cons, List.length_nil, Nat.reduceAdd, List.map_cons, List.map_nil, List.replicate, List.cons_append, List.nil_append, Nat.reduceSub])
        have : ((c :: r).take 2).length = 2 := by
          cases r with
          | nil => exact absurd h3 (by unfold dbl; simp)
          | cons d r => rfl
        rw [this, e2]
      · have h3 : dbl ((c :: r).take 2) = false := by simpa using h3
        rw [h3]
        (simp only [fSeq, fSet, fVar, fC, slot, fNx, fRet, fRetN, fDrop, fIfS, fOp, fUn, fTst, fTru, truS, fAndT, fOrT, fNotT, fAnd, fOr, fNot, fIf, faN, faC, fTup, fLst, fPar, fPar3, fAug, fAsg, fCa, foN, foS, fSl, gtName, gtNil, gtCons, gtTup, gtSub, fChain, gIsN, isNon, bok, bind_bad, call1, call2, call3, List.set_cons_zero, List.set_cons_succ, gRelU, c_lets, c_digs, c_sgns, c_blk, c_empty, c_zero, c_lf, c_sig, c_num, c_wrd, two_le, isTy_str, fMt, if_true, if_false, Bool.false_eq_true, Bool.not_true, Bool.not_false, decide_true, decide_false, reduceCtorEq, List.length_cons, List.length_nil, Nat.reduceAdd, List.map_cons, List.map_nil, List.replicate, List.cons_append, List.nil_append, Nat.reduceSub])
        rw [add_int]
        rfl
theorem it_str {i : Nat} {η : Sl} {h : SH} {l : List Nat} (e : slot η i = some (.str l)) : fiAny (fVar i) η h = .ok (.str l) h := by
  unfold fiAny fVar
  rw [e]
  rfl
theorem law_place_ok (t : Tx) (a : Nat) (hl : t.length < 100000) (ha : a ≤ t.length) (h : SH) : fe__law_place [.str t, .int (a : Int)] h = .ok (plV (plA t a)) h := by
  unfold fe__law_place fb__law_place fBody startS
  have hs := sizeLine_eq
  (simp only [fSeq, fSet, fVar, fC, slot, fNx, fRet, fRetN, fDrop, fIfS, fOp, fUn, fTst, fTru, truS, fAndT, fOrT, fNotT, fAnd, fOr, fNot, fIf, faN, faC, fTup, fLst, fPar, fPar3, fAug, fAsg, fCa, foN, foS, fSl, gtName, gtNil, gtCons, gtTup, gtSub, fChain, gIsN, isNon, bok, bind_bad, call1, call2, call3, List.set_cons_zero, List.set_cons_succ, gRelU, c_lets, c_digs, c_sgns, c_blk, c_empty, c_zero, c_lf, c_sig, c_num, c_wrd, two_le, isTy_str, fMt, if_true, if_false, Bool.false_eq_true, Bool.not_true, Bool.not_false, decide_true, decide_false, reduceCtorEq, List.length_cons, List.length_nil, Nat.reduceAdd, List.map_cons, List.map_nil, List.replicate, List.cons_append, List.nil_append, Nat.reduceSub])
  rw [sl_str_to (by omega)]
  (simp only [fSeq, fSet, fVar, fC, slot, fNx, fRet, fRetN, fDrop, fIfS, fOp, fUn, fTst, fTru, truS, fAndT, fOrT, fNotT, fAnd, fOr, fNot, fIf, faN, faC, fTup, fLst, fPar, fPar3, fAug, fAsg, fCa, foN, foS, fSl, gtName, gtNil, gtCons, gtTup, gtSub, fChain, gIsN, isNon, bok, bind_bad, call1, call2, call3, List.set_cons_zero, List.set_cons_succ, gRelU, c_lets, c_digs, c_sgns, c_blk, c_empty, c_zero, c_lf, c_sig, c_num, c_wrd, two_le, isTy_str, fMt, if_true, if_false, Bool.false_eq_true, Bool.not_true, Bool.not_false, decide_true, decide_false, reduceCtorEq, List.length_cons, List.length_nil, Nat.reduceAdd, List.map_cons, List.map_nil, List.replicate, List.cons_append, List.nil_append, Nat.reduceSub])
  have e1 : gCountS (.str (t.take a)) [.str [10]] h = .ok (.int (Txt.count (mkS (t.take a)) (mkS [10]))) h := rfl
  have e2 : gRfind (.str (t.take a)) [.str [10]] h = .ok (.int (Txt.rfind (mkS (t.take a)) (mkS [10]))) h := rfl
  rw [e1]
  (simp only [fSeq, fSet, fVar, fC, slot, fNx, fRet, fRetN, fDrop, fIfS, fOp, fUn, fTst, fTru, truS, fAndT, fOrT, fNotT, fAnd, fOr, fNot, fIf, faN, faC, fTup, fLst, fPar, fPar3, fAug, fAsg, fCa, foN, foS, fSl, gtName, gtNil, gtCons, gtTup, gtSub, fChain, gIsN, isNon, bok, bind_bad, call1, call2, call3, List.set_cons_zero, List.set_cons_succ, gRelU, c_lets, c_digs, c_sgns, c_blk, c_empty, c_zero, c_lf, c_sig, c_num, c_wrd, two_le, isTy_str, fMt, if_true, if_false, Bool.false_eq_true, Bool.not_true, Bool.not_false, decide_true, decide_false, reduceCtorEq, List.length_cons, List.length_nil, Nat.reduceAdd, List.map_cons, List.map_nil, List.replicate, List.cons_append, List.nil_append, Nat.reduceSub])
  rw [add_int]
  (simp only [fSeq, fSet, fVar, fC, slot, fNx, fRet, fRetN, fDrop, fIfS, fOp, fUn, fTst, fTru, truS, fAndT, fOrT, fNotT, fAnd, fOr, fNot, fIf, faN, faC, fTup, fLst, fPar, fPar3, fAug, fAsg, fCa, foN, foS, fSl, gtName, gtNil, gtCons, gtTup, gtSub, fChain, gIsN, isNon, bok, bind_bad, call1, call2, call3, List.set_cons_zero, List.set_cons_succ, gRelU, c_lets, c_digs, c_sgns, c_blk, c_empty, c_zero, c_lf, c_sig, c_num, c_wrd, two_le, isTy_str, fMt, if_true, if_false, Bool.false_eq_true, Bool.not_true, Bool.not_false, decide_true, decide_false, reduceCtorEq, List.length_cons, List.length_nil, Nat.reduceAdd, List.map_cons, List.map_nil, List.replicate, List.cons_append, List.nil_append, Nat.reduceSub])
  rw [sl_str_to (by omega)]
  (simp only [fSeq, fSet, fVar, fC, slot, fNx, fRet, fRetN, fDrop, fIfS, fOp, fUn, fTst, fTru, truS, fAndT, fOrT, fNotT, fAnd, fOr, fNot, fIf, faN, faC, fTup, fLst, fPar, fPar3, fAug, fAsg, fCa, foN, foS, fSl, gtName, gtNil, gtCons, gtTup, gtSub, fChain, gIsN, isNon, bok, bind_bad, call1, call2, call3, List.set_cons_zero, List.set_cons_succ, gRelU, c_lets, c_digs, c_sgns, c_blk, c_empty, c_zero, c_lf, c_sig, c_num, c_wrd, two_le, isTy_str, fMt, if_true, if_false, Bool.false_eq_true, Bool.not_true, Bool.not_false, decide_true, decide_false, reduceCtorEq, List.length_cons, List.length_nil, Nat.reduceAdd, List.map_cons, List.map_nil, List.replicate, List.cons_append, List.nil_append, Nat.reduceSub])
  rw [e2]
  (simp only [fSeq, fSet, fVar, fC, slot, fNx, fRet, fRetN, fDrop, fIfS, fOp, fUn, fTst, fTru, truS, fAndT, fOrT, fNotT, fAnd, fOr, fNot, fIf, faN, faC, fTup, fLst, fPar, fPar3, fAug, fAsg, fCa, foN, foS, fSl, gtName, gtNil, gtCons, gtTup, gtSub, fChain, gIsN, isNon, bok, bind_bad, call1, call2, call3, List.set_cons_zero, List.set_cons_succ, gRelU, c_lets, c_digs, c_sgns, c_blk, c_empty, c_zero, c_lf, c_sig, c_num, c_wrd, two_le, isTy_str, fMt, if_true, if_false, Bool.false_eq_true, Bool.not_true, Bool.not_false, decide_true, decide_false, reduceCtorEq, List.length_cons, List.length_nil, Nat.reduceAdd, List.map_cons, List.map_nil, List.replicate, List.cons_append, List.nil_append, Nat.reduceSub])
  have e3 : ∀ i j : Int, gSub (.int i) (.int j) h = .ok (.int (i - j)) h := fun _ _ => rfl
  rw [e3]
  (simp only [fSeq, fSet, fVar, fC, slot, fNx, fRet, fRetN, fDrop, fIfS, fOp, fUn, fTst, fTru, truS, fAndT, fOrT, fNotT, fAnd, fOr, fNot, fIf, faN, faC, fTup, fLst, fPar, fPar3, fAug, fAsg, fCa, foN, foS, fSl, gtName, gtNil, gtCons, gtTup, gtSub, fChain, gIsN, isNon, bok, bind_bad, call1, call2, call3, List.set_cons_zero, List.set_cons_succ, gRelU, c_lets, c_digs, c_sgns, c_blk, c_empty, c_zero, c_lf, c_sig, c_num, c_wrd, two_le, isTy_str, fMt, if_true, if_false, Bool.false_eq_true, Bool.not_true, Bool.not_false, decide_true, decide_false, reduceCtorEq, List.length_cons, List.length_nil, Nat.reduceAdd, List.map_cons, List.map_nil, List.replicate, List.cons_append, List.nil_append, Nat.reduceSub])
  obtain ⟨p1, p2⟩ := place_eq (t.take a)
  have e4 : (t.take a).length = a := by simp; omega
  rw [e4] at p2
  rw [p1, p2]
  rfl
theorem cut_ext {h : SH} {ex : List SO} {v w : SV} (C : Cn h) (e : fzV h.nx ⟨h.c ++ ex⟩ 8 v = some w) : cutO h.nx (.ok v ⟨h.c ++ ex⟩) = .ok w h := by
  unfold cutO
  have h1 : h.nx ≤ SH.nx ⟨h.c ++ ex⟩ := by unfold SH.nx; simp
  have h2 : (h.c ++ ex).take h.nx = h.c := by unfold SH.nx; rw [List.take_left]
  simp only
  rw [if_pos ⟨h1, by rw [h2]; exact C⟩, e]
  simp only
  unfold cutH
  rw [h2]
theorem cut_clean {h : SH} {ex : List SO} {v : SV} (C : Cn h) (e : clV h.nx v = true) : cutO h.nx (.ok v ⟨h.c ++ ex⟩) = .ok v h := cut_ext C (fz_clean 8 e)
theorem add_loc_ls {h : SH} {p : Nat} {a b : List SV} (g : h.get p = some (.lst a)) (hl : a.length + b.length ≤ sizeLine) : gAdd (.loc p) (.ls b) h = .ok (.loc h.nx) (h.new (.lst (a ++ b))) := by
  have e1 : lstOf h (.loc p) = some a := by unfold lstOf; simp only [g]
  have e2 : gAdd (.loc p) (.ls b) h = match lstOf h (.loc p), lstOf h (.ls b) with
    | some a, some b => if a.length + b.length ≤ sizeLine then .ok (.loc h.nx) (h.new (.lst (a ++ b))) else .bad
    | _, _ => .bad := rfl
  rw [e2, e1]
  show (if a.length + b.length ≤ sizeLine then _ else _) = _
  rw [if_pos hl]
theorem places_ok (t : Tx) (hl : t.length < 100000) (h : SH) (C : Cn h) (η : Sl) (es : slot η 0 = some (.str t)) : fFz (fCall 1 fe_places_of (faC (fVar 0) faN)) η h = .ok (.ls ((plcs (1, 1) t).map plV)) h := by
  have hs := sizeLine_eq
  have main : ∃ L : List SV, clL h.nx L = true ∧ fe_places_of [.str t] h = .ok (.ls ((plcs (1, 1) t).map plV)) (h.new (.lst L)) := by
    refine ⟨((plcs (1, 1) t).take t.length).map plV, cl_pls _ _, ?_⟩
    refine wp.eqP fun P hP => ?_
    unfold fe_places_of fb_places_of
    apply wp_body
    simp only [startS, List.map_cons, List.map_nil, List.length_cons, List.length_nil, List.replicate, List.cons_append, List.nil_append, Nat.reduceAdd, Nat.reduceSub]
    unfold fSeq
    rw [wp_bind]
    have e0 : fPar3 1 2 3 (faC (fLst faN) (faC (fC (.int 1)) (faC (fC (.int 1)) faN))) [some (.str t), none, none, none, none] h = .ok (.nx [some (.str t), some (.loc h.nx), some (.int ((plF []).1 : Nat)), some (.int ((plF []).2 : Nat)), none]) (h.new (.lst (((plcs (1, 1) t).take 0).map plV))) := by
      have z : (0 : Nat) ≤ sizeLine := by omega
      unfold fPar3 faC fLst faN fC
      simp only [bok, List.length_nil, z, if_true]
      rfl
    rw [e0, wp_ok]
    simp only
    rw [wp_bind]
    refine wp_for ?_
    rw [it_str rfl, wp_ok]
    refine ⟨t.map fun c => .str [c], fun rest η h' => ∃ (pre post : Tx) (z : Option SV), t = pre ++ post ∧ rest = post.map (fun c => SV.str [c]) ∧ η = [some (.str t), some (.loc h.nx), some (.int ((plF pre).1 : Nat)), some (.int ((plF pre).2 : Nat)), z] ∧ h' = h.new (.lst (((plcs (1, 1) t).take pre.length).map plV)), rfl, ⟨[], t, none, rfl, rfl, rfl, rfl⟩, ?_, ?_⟩
    · rintro x rest η h' ⟨pre, post, z, ht, hr, rfl, rfl⟩
      cases post with
      | nil => cases hr
      | cons c post =>
        obtain ⟨hx, hr2⟩ := List.cons.inj hr
        subst hx
        have hg : (plcs (1, 1) t)[pre.length]? = some (plF pre) := by
          rw [plcs_get t _ _ (by rw [ht]; simp), ht, List.take_left]
          rfl
        have hlen : pre.length < t.length := by rw [ht]; simp
        (simp only [fSeq, fSet, fVar, fC, slot, fNx, fRet, fRetN, fDrop, fIfS, fOp, fUn, fTst, fTru, truS, fAndT, fOrT, fNotT, fAnd, fOr, fNot, fIf, faN, faC, fTup, fLst, fPar, fPar3, fAug, fAsg, fCa, foN, foS, fSl, gtName, gtNil, gtCons, gtTup, gtSub, fChain, gIsN, isNon, bok, bind_bad, call1, call2, call3, List.set_cons_zero, List.set_cons_succ, gRelU, c_lets, c_digs, c_sgns, c_blk, c_empty, c_zero, c_lf, c_sig, c_num, c_wrd, two_le, isTy_str, fMt, if_true, if_false, Bool.false_eq_true, Bool.not_true, Bool.not_false, decide_true, decide_false, reduceCtorEq, List.length_cons, List.length_nil, Nat.reduceAdd, List.map_cons, List.map_nil, List.replicate, List.cons_append, List.nil_append, Nat.reduceSub])
        rw [wp_ok]
        (simp only [fSeq, fSet, fVar, fC, slot, fNx, fRet, fRetN, fDrop, fIfS, fOp, fUn, fTst, fTru, truS, fAndT, fOrT, fNotT, fAnd, fOr, fNot, fIf, faN, faC, fTup, fLst, fPar, fPar3, fAug, fAsg, fCa, foN, foS, fSl, gtName, gtNil, gtCons, gtTup, gtSub, fChain, gIsN, isNon, bok, bind_bad, call1, call2, call3, List.set_cons_zero, List.set_cons_succ, gRelU, c_lets, c_digs, c_sgns, c_blk, c_empty, c_zero, c_lf, c_sig, c_num, c_wrd, two_le, isTy_str, fMt, if_true, if_false, Bool.false_eq_true, Bool.not_true, Bool.not_false, decide_true, decide_false, reduceCtorEq, List.length_cons, List.length_nil, Nat.reduceAdd, List.map_cons, List.map_nil, List.replicate, List.cons_append, List.nil_append, Nat.reduceSub])
        have gg : ∀ xs, (h.new (.lst xs)).get h.nx = some (.lst xs) := fun xs => get_new_same
        rw [isTy_loc (gg _)]
        (simp only [fSeq, fSet, fVar, fC, slot, fNx, fRet, fRetN, fDrop, fIfS, fOp, fUn, fTst, fTru, truS, fAndT, fOrT, fNotT, fAnd, fOr, fNot, fIf, faN, faC, fTup, fLst, fPar, fPar3, fAug, fAsg, fCa, foN, foS, fSl, gtName, gtNil, gtCons, gtTup, gtSub, fChain, gIsN, isNon, bok, bind_bad, call1, call2, call3, List.set_cons_zero, List.set_cons_succ, gRelU, c_lets, c_digs, c_sgns, c_blk, c_empty, c_zero, c_lf, c_sig, c_num, c_wrd, two_le, isTy_str, fMt, if_true, if_false, Bool.false_eq_true, Bool.not_true, Bool.not_false, decide_true, decide_false, reduceCtorEq, List.length_cons, List.length_nil, Nat.reduceAdd, List.map_cons, List.map_nil, List.replicate, List.cons_append, List.nil_append, Nat.reduceSub])
        rw [append_loc (gg _) (by simp; omega), SH.new_set]
        (simp only [fSeq, fSet, fVar, fC, slot, fNx, fRet, fRetN, fDrop, fIfS, fOp, fUn, fTst, fTru, truS, fAndT, fOrT, fNotT, fAnd, fOr, fNot, fIf, faN, faC, fTup, fLst, fPar, fPar3, fAug, fAsg, fCa, foN, foS, fSl, gtName, gtNil, gtCons, gtTup, gtSub, fChain, gIsN, isNon, bok, bind_bad, call1, call2, call3, List.set_cons_zero, List.set_cons_succ, gRelU, c_lets, c_digs, c_sgns, c_blk, c_empty, c_zero, c_lf, c_sig, c_num, c_wrd, two_le, isTy_str, fMt, if_true, if_false, Bool.false_eq_true, Bool.not_true, Bool.not_false, decide_true, decide_false, reduceCtorEq, List.length_cons, List.length_nil, Nat.reduceAdd, List.map_cons, List.map_nil, List.replicate, List.cons_append, List.nil_append, Nat.reduceSub])
        have e2 : ((plcs (1, 1) t).take pre.length).map plV ++ [SV.tup [.int ((plF pre).1 : Nat), .int ((plF pre).2 : Nat)]] = ((plcs (1, 1) t).take (pre.length + 1)).map plV := by
          rw [List.take_succ, hg, List.map_append]
          rfl
        rw [e2, eq_str]
        (simp only [fSeq, fSet, fVar, fC, slot, fNx, fRet, fRetN, fDrop, fIfS, fOp, fUn, fTst, fTru, truS, fAndT, fOrT, fNotT, fAnd, fOr, fNot, fIf, faN, faC, fTup, fLst, fPar, fPar3, fAug, fAsg, fCa, foN, foS, fSl, gtName, gtNil, gtCons, gtTup, gtSub, fChain, gIsN, isNon, bok, bind_bad, call1, call2, call3, List.set_cons_zero, List.set_cons_succ, gRelU, c_lets, c_digs, c_sgns, c_blk, c_empty, c_zero, c_lf, c_sig, c_num, c_wrd, two_le, isTy_str, fMt, if_true, if_false, Bool.false_eq_true, Bool.not_true, Bool.not_false, decide_true, decide_false, reduceCtorEq, List.length_cons, List.length_nil, Nat.reduceAdd, List.map_cons, List.map_nil, List.replicate, List.cons_append, List.nil_append, Nat.reduceSub])
        by_cases hc : c = 10
        · subst hc
          (simp only [fSeq, fSet, fVar, fC, slot, fNx, fRet, fRetN, fDrop, fIfS, fOp, fUn, fTst, fTru, truS, fAndT, fOrT, fNotT, fAnd, fOr, fNot, fIf, faN, faC, fTup, fLst, fPar, fPar3, fAug, fAsg, fCa, foN, foS, fSl, gtName, gtNil, gtCons, gtTup, gtSub, fChain, gIsN, isNon, bok, bind_bad, call1, call2, call3, List.set_cons_zero, List.set_cons_succ, gRelU, c_lets, c_digs, c_sgns, c_blk, c_empty, c_zero, c_lf, c_sig, c_num, c_wrd, two_le, isTy_str, fMt, if_true, if_false, Bool.false_eq_true, Bool.not_true, Bool.not_false, decide_true, decide_false, reduceCtorEq, List.length_cons, List.length_nil, Nat.reduceAdd, List.map_cons, List.map_nil, List.replicate, List.cons_append, List.nil_append, Nat.reduceSub])
          rw [add_int]
          (simp only [fSeq, fSet, fVar, fC, slot, fNx, fRet, fRetN, fDrop, fIfS, fOp, fUn, fTst, fTru, truS, fAndT, fOrT, fNotT, fAnd, fOr, fNot, fIf, faN, faC, fTup, fLst, fPar, fPar3, fAug, fAsg, fCa, foN, foS, fSl, gtName, gtNil, gtCons, gtTup, gtSub, fChain, gIsN, isNon, bok, bind_bad, call1, call2, call3, List.set_cons_zero, List.set_cons_succ, gRelU, c_lets, c_digs, c_sgns, c_blk, c_empty, c_zero, c_lf, c_sig, c_num, c_wrd, two_le, isTy_str, fMt, if_true, if_false, Bool.false_eq_true, Bool.not_true, Bool.not_false, decide_true, decide_false, reduceCtorEq, List.length_cons, List.length_nil, Nat.reduceAdd, List.map_cons, List.map_nil, List.replicate, List.cons_append, List.nil_append, Nat.reduceSub])
          rw [wp_ok]
          refine ⟨pre ++ [10], post, some (.str [10]), by rw [ht]; simp, hr2, ?_, by simp⟩
          rw [plF_snoc]
          rfl
        · have e3 : decide ([c] = [10]) = false := by simp [hc]
          simp only [e3]
          (simp only [fSeq, fSet, fVar, fC, slot, fNx, fRet, fRetN, fDrop, fIfS, fOp, fUn, fTst, fTru, truS, fAndT, fOrT, fNotT, fAnd, fOr, fNot, fIf, faN, faC, fTup, fLst, fPar, fPar3, fAug, fAsg, fCa, foN, foS, fSl, gtName, gtNil, gtCons, gtTup, gtSub, fChain, gIsN, isNon, bok, bind_bad, call1, call2, call3, List.set_cons_zero, List.set_cons_succ, gRelU, c_lets, c_digs, c_sgns, c_blk, c_empty, c_zero, c_lf, c_sig, c_num, c_wrd, two_le, isTy_str, fMt, if_true, if_false, Bool.false_eq_true, Bool.not_true, Bool.not_false, decide_true, decide_false, reduceCtorEq, List.length_cons, List.length_nil, Nat.reduceAdd, List.map_cons, List.map_nil, List.replicate, List.cons_append, List.nil_append, Nat.reduceSub])
          rw [add_int]
          (simp only [fSeq, fSet, fVar, fC, slot, fNx, fRet, fRetN, fDrop, fIfS, fOp, fUn, fTst, fTru, truS, fAndT, fOrT, fNotT, fAnd, fOr, fNot, fIf, faN, faC, fTup, fLst, fPar, fPar3, fAug, fAsg, fCa, foN, foS, fSl, gtName, gtNil, gtCons, gtTup, gtSub, fChain, gIsN, isNon, bok, bind_bad, call1, call2, call3, List.set_cons_zero, List.set_cons_succ, gRelU, c_lets, c_digs, c_sgns, c_blk, c_empty, c_zero, c_lf, c_sig, c_num, c_wrd, two_le, isTy_str, fMt, if_true, if_false, Bool.false_eq_true, Bool.not_true, Bool.not_false, decide_true, decide_false, reduceCtorEq, List.length_cons, List.length_nil, Nat.reduceAdd, List.map_cons, List.map_nil, List.replicate, List.cons_append, List.nil_append, Nat.reduceSub])
          rw [wp_ok]
          refine ⟨pre ++ [c], post, some (.str [c]), by rw [ht]; simp, hr2, ?_, by simp⟩
          rw [plF_snoc]
          unfold stp
          rw [if_neg hc]
          rfl
    · rintro η h' ⟨pre, post, z, ht, hr, rfl, rfl⟩
      have : post = [] := by cases post with | nil => rfl | cons _ _ => cases hr
      subst this
      rw [List.append_nil] at ht
      subst ht
      have C' : Cn (h.new (.lst (((plcs (1, 1) t).take t.length).map plV))) := C.newL (cl_pls _ _)
      have gg : ∀ xs, (h.new (.lst xs)).get h.nx = some (.lst xs) := fun xs => get_new_same
      have e5 : fFz (fOp gAdd (fVar 1) (fFz (fLst (faC (fTup (faC (fVar 2) (faC (fVar 3) faN))) faN)))) [some (.str t), some (.loc h.nx), some (.int ((plF t).1 : Nat)), some (.int ((plF t).2 : Nat)), z] (h.new (.lst (((plcs (1, 1) t).take t.length).map plV))) = .ok (.ls ((plcs (1, 1) t).map plV)) (h.new (.lst (((plcs (1, 1) t).take t.length).map plV))) := by
        have e6 : plcs (1, 1) t = (plcs (1, 1) t).take t.length ++ [plF t] := by
          have h1 : (plcs (1, 1) t).take (t.length + 1) = plcs (1, 1) t := List.take_of_length_le (by rw [plcs_len]; omega)
          have h2 : (plcs (1, 1) t)[t.length]? = some (plF t) := by
            rw [plcs_get t _ _ (by omega), List.take_length]
            rfl
          conv => lhs; rw [← h1]
          rw [List.take_succ, h2]
          rfl
        refine fz_new C' ?_ (cl_pls _ _)
        refine op_ok (var_ok rfl) (fz_lst' C' (faC_ok (tup_ok (faC_ok (var_ok rfl) (faC_ok (var_ok rfl) faN_ok)) (by simp; omega)) faN_ok) (cl_pls _ [plF t]) (by simp; omega)) ?_
        have e7 : ((plcs (1, 1) t).take t.length).map plV ++ [SV.tup [.int ((plF t).1 : Nat), .int ((plF t).2 : Nat)]] = (plcs (1, 1) t).map plV := by
          conv => rhs; rw [e6]
          rw [List.map_append]
          rfl
        rw [add_loc_ls (gg _) (by simp; omega), e7]
      simp only
      rw [wp_ret, wp_eq e5]
      exact hP
  obtain ⟨L, hL, e⟩ := main
  unfold fFz
  rw [call1_ok (var_ok es) e]
  exact cut_clean C (cl_pls _ _)
end K11
/-! the signs of a text, by the program -/
namespace K11
open PySem Fv
theorem strOk_small {w : Tx} (h : ∀ c ∈ w, c < 128) : PyData.strOk ⟨⟨w⟩⟩ = true := by
  unfold PyData.strOk
  rw [Array.all_eq_true]
  intro i hi
  have := h w[i] (List.getElem_mem hi)
  exact decide_eq_true (by show w[i] < 1114112; omega)
theorem dw_head {p : Nat → Bool} : ∀ (r : Tx) {x : Nat} {y : Tx}, r.drop (r.takeWhile p).length = x :: y → p x = false
  | [], x, y, e => by simp at e
  | c :: r, x, y, e => by
    by_cases h : p c = true
    · rw [List.takeWhile_cons_of_pos h, List.length_cons, List.drop_succ_cons] at e
      exact dw_head r e
    · rw [List.takeWhile_cons_of_neg h] at e
      simp at e
      rw [← e.1]
      simpa using h
theorem tw_all {p : Nat → Bool} : ∀ {r : Tx} {c : Nat}, c ∈ r.takeWhile p → p c = true
  | [], c, h => by simp at h
  | d :: r, c, h => by
    by_cases hd : p d = true
    · rw [List.takeWhile_cons_of_pos hd] at h
      rcases List.mem_cons.mp h with rfl | h
      · exact hd
      · exact tw_all h
    · rw [List.takeWhile_cons_of_neg hd] at h
      cases h
theorem ld_no {c : Nat} (h : isL c = true) : isD c = false := by
  unfold isL isD at *
  have := of_decide_eq_true h
  exact decide_eq_false (by omega)
theorem dl_no {c : Nat} (h : isD c = true) : isL c = false := by
  unfold isL isD at *
  have := of_decide_eq_true h
  exact decide_eq_false (by omega)
theorem tok_last (c : Nat) (r : Tx) : ∃ d, (tokN (c :: r)).getLast? = some d ∧ isL d = isL c ∧ isD d = isD c ∧ ∀ x y, (c :: r).drop (tokN (c :: r)).length = x :: y → (isL c = true → isL x = false) ∧ (isD c = true → isD x = false) := by
  have tw : ∀ p : Nat → Bool, p c = true → ∃ d, (c :: r.takeWhile p).getLast? = some d ∧ p d = true := fun p hp => by
    refine ⟨_, List.getLast?_eq_some_getLast (by simp), ?_⟩
    have := List.getLast_mem (l := c :: r.takeWhile p) (by simp)
    rcases List.mem_cons.mp this with e | h
    · rw [e]; exact hp
    · exact tw_all h
  rw [tok_c]
  by_cases h1 : isL c = true
  · rw [if_pos h1]
    obtain ⟨d, e, hd⟩ := tw _ h1
    refine ⟨d, e, by rw [hd, h1], by rw [ld_no hd, ld_no h1], fun x y z => ⟨fun _ => ?_, fun q => ?_⟩⟩
    · rw [List.length_cons, List.drop_succ_cons] at z
      exact dw_head r z
    · rw [ld_no h1] at q; cases q
  · rw [if_neg h1]
    by_cases h2 : isD c = true
    · rw [if_pos h2]
      obtain ⟨d, e, hd⟩ := tw _ h2
      refine ⟨d, e, by rw [dl_no hd, dl_no h2], by rw [hd, h2], fun x y z => ⟨fun q => ?_, fun _ => ?_⟩⟩
      · exact absurd q h1
      · rw [List.length_cons, List.drop_succ_cons] at z
        exact dw_head r z
    · rw [if_neg h2]
      have f1 : isL c = false := by simpa using h1
      have f2 : isD c = false := by simpa using h2
      by_cases h3 : dbl ((c :: r).take 2) = true
      · rw [if_pos h3]
        cases r with
        | nil => exact absurd h3 (by unfold dbl; simp)
        | cons d r =>
          have h4 : (c = 60 ∧ d = 61) ∨ (c = 62 ∧ d = 61) ∨ (c = 60 ∧ d = 62) := by
            unfold dbl at h3
            simpa using h3
          have h5 : isL d = false ∧ isD d = false := by rcases h4 with ⟨_, rfl⟩ | ⟨_, rfl⟩ | ⟨_, rfl⟩ <;> exact ⟨rfl, rfl⟩
          exact ⟨d, rfl, by rw [h5.1, f1], by rw [h5.2, f2], fun x y z => ⟨fun q => absurd q h1, fun q => absurd q h2⟩⟩
      · rw [if_neg h3]
        exact ⟨c, rfl, rfl, rfl, fun x y z => ⟨fun q => absurd q h1, fun q => absurd q h2⟩⟩
theorem wrW_eq {bl : Bool} {p : Option Nat} {c : Nat} {s : Tx} (hb : isB c = false) (hs : (bl && (isL c || isD c)) = side p c) : wrW bl (c :: s) = wr p (c :: s) := by
  unfold wrW wr
  have e1 : (!(isL c || isD c) && !isG c) = bSig (c :: s) := by
    show _ = !(isL c || (isD c || (isG c || isB c)))
    rw [hb]
    cases isL c <;> cases isD c <;> cases isG c <;> rfl
  have e2 : ((isL c && decide (8 < (c :: s).length)) || (bl && (isL c || isD c))) = bWrd p (c :: s) := by
    unfold bWrd
    rw [hs]
  simp only
  rw [e1, e2]
def Bf (v : SV) (p : Option Nat) (u : Tx) : Prop := IsBef v ∧ ∀ c r, u = c :: r → (befB v && (isL c || isD c)) = side p c
theorem Bf.none {u : Tx} : Bf .non none u := ⟨.inl rfl, fun _ _ _ => rfl⟩
theorem Bf.blank {u : Tx} {d : Nat} (h : isB d = true) : Bf .non (some d) u := ⟨.inl rfl, fun c r _ => by
  have : d = 32 ∨ d = 10 := by unfold isB at h; exact of_decide_eq_true h
  have h2 : isL d = false ∧ isD d = false := by rcases this with rfl | rfl <;> exact ⟨rfl, rfl⟩
  unfold side
  simp only
  rw [h2.1, h2.2]
  simp [befB]⟩
theorem Bf.tok {c : Nat} {r : Tx} (hl : (c :: r).length < 100000) : Bf (.str (tokN (c :: r))) (tokN (c :: r)).getLast? ((c :: r).drop (tokN (c :: r)).length) := by
  obtain ⟨s, e⟩ := tok_cons c r
  obtain ⟨d, e1, e2, e3, e4⟩ := tok_last c r
  have hlen := tok_len (c :: r)
  refine ⟨.inr ⟨c, s, by rw [e], by rw [← e]; omega⟩, fun x y z => ?_⟩
  obtain ⟨n1, n2⟩ := e4 x y z
  rw [e1, e]
  unfold befB side
  simp only
  rw [e2, e3]
  cases hl : isL c with
  | true =>
    rw [n1 hl, ld_no hl]
    simp
  | false =>
    cases hd : isD c with
    | true =>
      rw [n2 hd]
      simp
    | false => simp
theorem blank_tok {c : Nat} {r : Tx} (h : isB c = true) : tokN (c :: r) = [c] := by
  have : c = 32 ∨ c = 10 := by unfold isB at h; exact of_decide_eq_true h
  rw [tok_c]
  rcases this with rfl | rfl
  · rw [if_neg (by decide), if_neg (by decide)]
    cases r with
    | nil => rfl
    | cons d r => rw [if_neg (by unfold dbl; simp)]
  · rw [if_neg (by decide), if_neg (by decide)]
    cases r with
    | nil => rfl
    | cons d r => rw [if_neg (by unfold dbl; simp)]
theorem blank_wr {c : Nat} {p : Option Nat} (h : isB c = true) : wr p [c] = [] := by
  have : c = 32 ∨ c = 10 := by unfold isB at h; exact of_decide_eq_true h
  have h2 : isL c = false ∧ isD c = false := by rcases this with rfl | rfl <;> exact ⟨rfl, rfl⟩
  have b1 : bSig [c] = false := by
    show (!(isL c || (isD c || (isG c || isB c)))) = false
    rw [h]
    cases isL c <;> cases isD c <;> cases isG c <;> rfl
  have b2 : bNum [c] = false := by
    show (isD c && _) = false
    rw [h2.2]
    rfl
  have b3 : bWrd p [c] = false := by
    show ((isL c && _) || side p c) = false
    unfold side
    cases p <;> simp [h2.1, h2.2]
  unfold wr
  rw [b1, b2, b3]
  rfl
def okC (x : Ct) : Bool := (wr x.2.1 x.2.2).isEmpty
def fnd (cs : List Ct) : List Ct := (cs.takeWhile okC).filter fun x => !blank x.2.2
def bad (cs : List Ct) : Option Ct := cs.find? fun x => !okC x
theorem fnd_cons (x : Ct) (cs : List Ct) : fnd (x :: cs) = if okC x then (if blank x.2.2 then fnd cs else x :: fnd cs) else [] := by
  unfold fnd
  by_cases h : okC x = true
  · rw [List.takeWhile_cons_of_pos h, if_pos h, List.filter_cons]
    cases blank x.2.2 <;> simp
  · rw [List.takeWhile_cons_of_neg h, if_neg h]
    rfl
theorem bad_cons (x : Ct) (cs : List Ct) : bad (x :: cs) = if okC x then bad cs else some x := by
  unfold bad
  rw [List.find?_cons]
  cases okC x <;> rfl
def tkV (x : Ct) : SV := .tup [.str x.2.2, .int (x.1 : Nat)]
theorem cl_tks (n : Nat) (cs : List Ct) : clL n (cs.map tkV) = true := clL_map _ _ _ fun _ _ => rfl
/-- where and what: the end of the walk -/
def endV (n : Nat) : Option Ct → SV × SV
  | none => (.int (n : Int), .non)
  | some x => (.int (x.1 : Int), .str ((wr x.2.1 x.2.2).headD []))
theorem eq_nil (ws : List Tx) (hw : ∀ w ∈ ws, ∀ c ∈ w, c < 128) (h : SH) : gEq true (.ls (txs ws)) (.ls []) h = .ok (.bl (!ws.isEmpty)) h := by
  have e : (txs ws).all (dvB 0) = true := by
    rw [List.all_map, List.all_eq_true]
    exact fun w h1 => strOk_small (hw w h1)
  refine (eq_dv (k := 1) (b := ws.isEmpty) true h (by unfold dvB; exact e) rfl (by omega) rfl ?_).trans rfl
  unfold pd
  cases ws <;> simp [PyData.eqv, PyData.eqvAll]
theorem wr_small (p : Option Nat) (w : Tx) : ∀ x ∈ wr p w, ∀ c ∈ x, c < 128 := by
  have h1 : ∀ c ∈ sSig, c < 128 := by decide
  have h2 : ∀ c ∈ sNum, c < 128 := by decide
  have h3 : ∀ c ∈ sWrd, c < 128 := by decide
  intro x hx
  unfold wr at hx
  rcases List.mem_append.mp hx with hx | hx
  · split at hx
    · rw [List.mem_singleton.mp hx]; exact h1
    · cases hx
  · rcases List.mem_append.mp hx with hx | hx
    · split at hx
      · rw [List.mem_singleton.mp hx]; exact h2
      · cases hx
    · split at hx
      · rw [List.mem_singleton.mp hx]; exact h3
      · cases hx
theorem tokens_by_ok (t : Tx) (hl : t.length < 100000) (h : SH) (C : Cn h) : fe_tokens_by [.str t] h = .ok (.tup [.loc h.nx, (endV t.length (bad (cuts none 0 t))).1, (endV t.length (bad (cuts none 0 t))).2]) (h.new (.lst ((fnd (cuts none 0 t)).map tkV))) := by
  refine wp.eqP fun P hP => ?_
  unfold fe_tokens_by fb_tokens_by
  have hs := sizeLine_eq
  apply wp_body
  simp only [startS, List.map_cons, List.map_nil, List.length_cons, List.length_nil, List.replicate, List.cons_append, List.nil_append, Nat.reduceAdd, Nat.reduceSub]
  unfold fSeq
  rw [wp_bind]
  have e0 : fPar3 1 2 3 (faC (fLst faN) (faC (fC (.int 0)) (faC (fC .non) faN))) [some (.str t), none, none, none, none, none] h = .ok (.nx [some (.str t), some (.loc h.nx), some (.int ((0 : Nat) : Int)), some .non, none, none]) (h.new (.lst (([] : List Ct).map tkV))) := by
    have z : (0 : Nat) ≤ sizeLine := by omega
    unfold fPar3 faC fLst faN fC
    simp only [bok, List.length_nil, z, if_true]
    rfl
  rw [e0, wp_ok]
  simp only
  rw [wp_bind]
  refine wp_while (fun m η h' => ∃ (a : Nat) (u : Tx) (p : Option Nat) (v : SV) (z4 z5 : Option SV) (fs : List Ct), t.drop a = u ∧ a + u.length = t.length ∧ m = u.length ∧ Bf v p u ∧ fs ++ fnd (cuts p a u) = fnd (cuts none 0 t) ∧ bad (cuts p a u) = bad (cuts none 0 t) ∧ fs.length ≤ a ∧
      η = [some (.str t), some (.loc h.nx), some (.int (a : Int)), some v, z4, z5] ∧ h' = h.new (.lst (fs.map tkV))) t.length hl ⟨0, t, none, .non, none, none, [], rfl, by omega, rfl, Bf.none, rfl, rfl, Nat.le_refl _, rfl, rfl⟩ ?_
  rintro m η h' ⟨a, u, p, v, z4, z5, fs, hu, hau, hm, hb, hf, hbd, hfl, rfl, rfl⟩
  have gg : ∀ xs, (h.new (.lst xs)).get h.nx = some (.lst xs) := fun xs => get_new_same
  have C' : ∀ xs : List Ct, Cn (h.new (.lst (xs.map tkV))) := fun xs => C.newL (cl_tks _ _)
  (simp only [fSeq, fSet, fVar, fC, slot, fNx, fRet, fRetN, fDrop, fIfS, fOp, fUn, fTst, fTru, truS, fAndT, fOrT, fNotT, fAnd, fOr, fNot, fIf, faN, faC, fTup, fLst, fPar, fPar3, fAug, fAsg, fCa, foN, foS, fSl, gtName, gtNil, gtCons, gtTup, gtSub, fChain, gIsN, isNon, bok, bind_bad, call1, call2, call3, List.set_cons_zero, List.set_cons_succ, gRelU, c_lets, c_digs, c_sgns, c_blk, c_empty, c_zero, c_lf, c_sig, c_num, c_wrd, two_le, isTy_str, fMt, if_true, if_false, Bool.false_eq_true, Bool.not_true, Bool.not_false, decide_true, decide_false, reduceCtorEq, List.length_cons, List.length_nil, Nat.reduceAdd, List.map_cons, List.map_nil, List.replicate, List.cons_append, List.nil_append, Nat.reduceSub])
  rw [len_str (by omega)]
  (simp only [fSeq, fSet, fVar, fC, slot, fNx, fRet, fRetN, fDrop, fIfS, fOp, fUn, fTst, fTru, truS, fAndT, fOrT, fNotT, fAnd, fOr, fNot, fIf, faN, faC, fTup, fLst, fPar, fPar3, fAug, fAsg, fCa, foN, foS, fSl, gtName, gtNil, gtCons, gtTup, gtSub, fChain, gIsN, isNon, bok, bind_bad, call1, call2, call3, List.set_cons_zero, List.set_cons_succ, gRelU, c_lets, c_digs, c_sgns, c_blk, c_empty, c_zero, c_lf, c_sig, c_num, c_wrd, two_le, isTy_str, fMt, if_true, if_false, Bool.false_eq_true, Bool.not_true, Bool.not_false, decide_true, decide_false, reduceCtorEq, List.length_cons, List.length_nil, Nat.reduceAdd, List.map_cons, List.map_nil, List.replicate, List.cons_append, List.nil_append, Nat.reduceSub])
  rw [wp_ok]
  cases u with
  | nil =>
    have e1 : decide ((a : Int) < (t.length : Int)) = false := by simp at hau; simp; omega
    simp only [e1]
    refine ⟨fun _ => ?_, fun z => absurd z (by simp)⟩
    rw [cuts_nil] at hf hbd
    have hf : fs = fnd (cuts none 0 t) := by simpa [fnd] using hf
    have hbd : none = bad (cuts none 0 t) := hbd
    rw [← hbd, ← hf] at hP
    simp at hau
    subst hau
    have z3 : 3 ≤ sizeLine := by omega
    rw [if_pos z3, bok, wp_ok]
    exact hP
  | cons c r =>
    have e1 : decide ((a : Int) < (t.length : Int)) = true := by simp at hau; simp; omega
    simp only [e1]
    refine ⟨fun z => absurd z (by simp), fun _ => ?_⟩
    have ec := drop_at hu
    rw [ix_str (by omega) ec]
    (simp only [fSeq, fSet, fVar, fC, slot, fNx, fRet, fRetN, fDrop, fIfS, fOp, fUn, fTst, fTru, truS, fAndT, fOrT, fNotT, fAnd, fOr, fNot, fIf, faN, faC, fTup, fLst, fPar, fPar3, fAug, fAsg, fCa, foN, foS, fSl, gtName, gtNil, gtCons, gtTup, gtSub, fChain, gIsN, isNon, bok, bind_bad, call1, call2, call3, List.set_cons_zero, List.set_cons_succ, gRelU, c_lets, c_digs, c_sgns, c_blk, c_empty, c_zero, c_lf, c_sig, c_num, c_wrd, two_le, isTy_str, fMt, if_true, if_false, Bool.false_eq_true, Bool.not_true, Bool.not_false, decide_true, decide_false, reduceCtorEq, List.length_cons, List.length_nil, Nat.reduceAdd, List.map_cons, List.map_nil, List.replicate, List.cons_append, List.nil_append, Nat.reduceSub])
    rw [in_sign, in_blk]
    (simp only [fSeq, fSet, fVar, fC, slot, fNx, fRet, fRetN, fDrop, fIfS, fOp, fUn, fTst, fTru, truS, fAndT, fOrT, fNotT, fAnd, fOr, fNot, fIf, faN, faC, fTup, fLst, fPar, fPar3, fAug, fAsg, fCa, foN, foS, fSl, gtName, gtNil, gtCons, gtTup, gtSub, fChain, gIsN, isNon, bok, bind_bad, call1, call2, call3, List.set_cons_zero, List.set_cons_succ, gRelU, c_lets, c_digs, c_sgns, c_blk, c_empty, c_zero, c_lf, c_sig, c_num, c_wrd, two_le, isTy_str, fMt, if_true, if_false, Bool.false_eq_true, Bool.not_true, Bool.not_false, decide_true, decide_false, reduceCtorEq, List.length_cons, List.length_nil, Nat.reduceAdd, List.map_cons, List.map_nil, List.replicate, List.cons_append, List.nil_append, Nat.reduceSub])
    obtain ⟨s, et⟩ := tok_cons c r
    rw [cuts_ne (u := c :: r) (by simp)] at hf hbd
    rw [fnd_cons] at hf
    rw [bad_cons] at hbd
    by_cases hc : isB c = true
    · rw [hc]
      (simp only [fSeq, fSet, fVar, fC, slot, fNx, fRet, fRetN, fDrop, fIfS, fOp, fUn, fTst, fTru, truS, fAndT, fOrT, fNotT, fAnd, fOr, fNot, fIf, faN, faC, fTup, fLst, fPar, fPar3, fAug, fAsg, fCa, foN, foS, fSl, gtName, gtNil, gtCons, gtTup, gtSub, fChain, gIsN, isNon, bok, bind_bad, call1, call2, call3, List.set_cons_zero, List.set_cons_succ, gRelU, c_lets, c_digs, c_sgns, c_blk, c_empty, c_zero, c_lf, c_sig, c_num, c_wrd, two_le, isTy_str, fMt, if_true, if_false, Bool.false_eq_true, Bool.not_true, Bool.not_false, decide_true, decide_false, reduceCtorEq, List.length_cons, List.length_nil, Nat.reduceAdd, List.map_cons, List.map_nil, List.replicate, List.cons_append, List.nil_append, Nat.reduceSub])
      rw [add_int]
      (simp only [fSeq, fSet, fVar, fC, slot, fNx, fRet, fRetN, fDrop, fIfS, fOp, fUn, fTst, fTru, truS, fAndT, fOrT, fNotT, fAnd, fOr, fNot, fIf, faN, faC, fTup, fLst, fPar, fPar3, fAug, fAsg, fCa, foN, foS, fSl, gtName, gtNil, gtCons, gtTup, gtSub, fChain, gIsN, isNon, bok, bind_bad, call1, call2, call3, List.set_cons_zero, List.set_cons_succ, gRelU, c_lets, c_digs, c_sgns, c_blk, c_empty, c_zero, c_lf, c_sig, c_num, c_wrd, two_le, isTy_str, fMt, if_true, if_false, Bool.false_eq_true, Bool.not_true, Bool.not_false, decide_true, decide_false, reduceCtorEq, List.length_cons, List.length_nil, Nat.reduceAdd, List.map_cons, List.map_nil, List.replicate, List.cons_append, List.nil_append, Nat.reduceSub])
      rw [wp_ok]
      have k1 : okC (a, p, tokN (c :: r)) = true := by
        unfold okC
        simp only
        rw [blank_tok hc, blank_wr hc]
        rfl
      have k2 : blank (tokN (c :: r)) = true := by rw [et]; exact hc
      rw [if_pos k1] at hf hbd
      simp only [k2, if_true] at hf
      have k3 := blank_tok (r := r) hc
      rw [k3] at hf hbd
      refine ⟨r.length, by rw [hm]; simp, a + 1, r, some c, .non, z4, z5, fs, ?_, by simp at hau; omega, rfl, Bf.blank hc, hf, hbd, by omega, rfl, rfl⟩
      rw [← List.drop_drop, hu]
      rfl
    · have hc : isB c = false := by simpa using hc
      rw [hc]
      (simp only [fSeq, fSet, fVar, fC, slot, fNx, fRet, fRetN, fDrop, fIfS, fOp, fUn, fTst, fTru, truS, fAndT, fOrT, fNotT, fAnd, fOr, fNot, fIf, faN, faC, fTup, fLst, fPar, fPar3, fAug, fAsg, fCa, foN, foS, fSl, gtName, gtNil, gtCons, gtTup, gtSub, fChain, gIsN, isNon, bok, bind_bad, call1, call2, call3, List.set_cons_zero, List.set_cons_succ, gRelU, c_lets, c_digs, c_sgns, c_blk, c_empty, c_zero, c_lf, c_sig, c_num, c_wrd, two_le, isTy_str, fMt, if_true, if_false, Bool.false_eq_true, Bool.not_true, Bool.not_false, decide_true, decide_false, reduceCtorEq, List.length_cons, List.length_nil, Nat.reduceAdd, List.map_cons, List.map_nil, List.replicate, List.cons_append, List.nil_append, Nat.reduceSub])
      rw [token_ok t a c r hl hu]
      (simp only [fSeq, fSet, fVar, fC, slot, fNx, fRet, fRetN, fDrop, fIfS, fOp, fUn, fTst, fTru, truS, fAndT, fOrT, fNotT, fAnd, fOr, fNot, fIf, faN, faC, fTup, fLst, fPar, fPar3, fAug, fAsg, fCa, foN, foS, fSl, gtName, gtNil, gtCons, gtTup, gtSub, fChain, gIsN, isNon, bok, bind_bad, call1, call2, call3, List.set_cons_zero, List.set_cons_succ, gRelU, c_lets, c_digs, c_sgns, c_blk, c_empty, c_zero, c_lf, c_sig, c_num, c_wrd, two_le, isTy_str, fMt, if_true, if_false, Bool.false_eq_true, Bool.not_true, Bool.not_false, decide_true, decide_false, reduceCtorEq, List.length_cons, List.length_nil, Nat.reduceAdd, List.map_cons, List.map_nil, List.replicate, List.cons_append, List.nil_append, Nat.reduceSub])
      have hlen : (c :: r).length ≤ t.length := by omega
      have hlen2 := tok_len (c :: r)
      have hw : wrW (befB v) (tokN (c :: r)) = wr p (tokN (c :: r)) := by
        rw [et]
        exact wrW_eq hc (hb.2 c r rfl)
      have e5 : ∀ (q : Option SV), fFz (fCall 2 fe_wrong_with (faC (fVar 4) (faC (fVar 3) faN))) [some (.str t), some (.loc h.nx), some (.int (a : Int)), some v, some (.str (tokN (c :: r))), q] (h.new (.lst (fs.map tkV))) = .ok (.ls (txs (wr p (tokN (c :: r))))) (h.new (.lst (fs.map tkV))) := fun q => by
        refine fz_new (C' fs) ?_ (cl_txs _ _)
        refine call2_ok (var_ok rfl) (var_ok rfl) ?_
        rw [← hw, et]
        exact wrong_ok c s v hb.1 (by rw [← et]; omega) _
      rw [e5]
      (simp only [fSeq, fSet, fVar, fC, slot, fNx, fRet, fRetN, fDrop, fIfS, fOp, fUn, fTst, fTru, truS, fAndT, fOrT, fNotT, fAnd, fOr, fNot, fIf, faN, faC, fTup, fLst, fPar, fPar3, fAug, fAsg, fCa, foN, foS, fSl, gtName, gtNil, gtCons, gtTup, gtSub, fChain, gIsN, isNon, bok, bind_bad, call1, call2, call3, List.set_cons_zero, List.set_cons_succ, gRelU, c_lets, c_digs, c_sgns, c_blk, c_empty, c_zero, c_lf, c_sig, c_num, c_wrd, two_le, isTy_str, fMt, if_true, if_false, Bool.false_eq_true, Bool.not_true, Bool.not_false, decide_true, decide_false, reduceCtorEq, List.length_cons, List.length_nil, Nat.reduceAdd, List.map_cons, List.map_nil, List.replicate, List.cons_append, List.nil_append, Nat.reduceSub])
      have e6 : ∀ η : Sl, fFz (fLst faN) η (h.new (.lst (fs.map tkV))) = .ok (.ls []) (h.new (.lst (fs.map tkV))) := fun η => fz_lst' (C' fs) faN_ok rfl (by simp)
      rw [e6]
      (simp only [fSeq, fSet, fVar, fC, slot, fNx, fRet, fRetN, fDrop, fIfS, fOp, fUn, fTst, fTru, truS, fAndT, fOrT, fNotT, fAnd, fOr, fNot, fIf, faN, faC, fTup, fLst, fPar, fPar3, fAug, fAsg, fCa, foN, foS, fSl, gtName, gtNil, gtCons, gtTup, gtSub, fChain, gIsN, isNon, bok, bind_bad, call1, call2, call3, List.set_cons_zero, List.set_cons_succ, gRelU, c_lets, c_digs, c_sgns, c_blk, c_empty, c_zero, c_lf, c_sig, c_num, c_wrd, two_le, isTy_str, fMt, if_true, if_false, Bool.false_eq_true, Bool.not_true, Bool.not_false, decide_true, decide_false, reduceCtorEq, List.length_cons, List.length_nil, Nat.reduceAdd, List.map_cons, List.map_nil, List.replicate, List.cons_append, List.nil_append, Nat.reduceSub])
      rw [eq_nil _ (wr_small _ _)]
      (simp only [fSeq, fSet, fVar, fC, slot, fNx, fRet, fRetN, fDrop, fIfS, fOp, fUn, fTst, fTru, truS, fAndT, fOrT, fNotT, fAnd, fOr, fNot, fIf, faN, faC, fTup, fLst, fPar, fPar3, fAug, fAsg, fCa, foN, foS, fSl, gtName, gtNil, gtCons, gtTup, gtSub, fChain, gIsN, isNon, bok, bind_bad, call1, call2, call3, List.set_cons_zero, List.set_cons_succ, gRelU, c_lets, c_digs, c_sgns, c_blk, c_empty, c_zero, c_lf, c_sig, c_num, c_wrd, two_le, isTy_str, fMt, if_true, if_false, Bool.false_eq_true, Bool.not_true, Bool.not_false, decide_true, decide_false, reduceCtorEq, List.length_cons, List.length_nil, Nat.reduceAdd, List.map_cons, List.map_nil, List.replicate, List.cons_append, List.nil_append, Nat.reduceSub])
      by_cases hk : (wr p (tokN (c :: r))).isEmpty = true
      · rw [hk]
        (simp only [fSeq, fSet, fVar, fC, slot, fNx, fRet, fRetN, fDrop, fIfS, fOp, fUn, fTst, fTru, truS, fAndT, fOrT, fNotT, fAnd, fOr, fNot, fIf, faN, faC, fTup, fLst, fPar, fPar3, fAug, fAsg, fCa, foN, foS, fSl, gtName, gtNil, gtCons, gtTup, gtSub, fChain, gIsN, isNon, bok, bind_bad, call1, call2, call3, List.set_cons_zero, List.set_cons_succ, gRelU, c_lets, c_digs, c_sgns, c_blk, c_empty, c_zero, c_lf, c_sig, c_num, c_wrd, two_le, isTy_str, fMt, if_true, if_false, Bool.false_eq_true, Bool.not_true, Bool.not_false, decide_true, decide_false, reduceCtorEq, List.length_cons, List.length_nil, Nat.reduceAdd, List.map_cons, List.map_nil, List.replicate, List.cons_append, List.nil_append, Nat.reduceSub])
        have k1 : okC (a, p, tokN (c :: r)) = true := hk
        have k2 : blank (tokN (c :: r)) = false := by rw [et]; exact hc
        rw [if_pos k1] at hf hbd
        simp only [k2, Bool.false_eq_true, if_false] at hf
        rw [isTy_loc (gg _)]
        (simp only [fSeq, fSet, fVar, fC, slot, fNx, fRet, fRetN, fDrop, fIfS, fOp, fUn, fTst, fTru, truS, fAndT, fOrT, fNotT, fAnd, fOr, fNot, fIf, faN, faC, fTup, fLst, fPar, fPar3, fAug, fAsg, fCa, foN, foS, fSl, gtName, gtNil, gtCons, gtTup, gtSub, fChain, gIsN, isNon, bok, bind_bad, call1, call2, call3, List.set_cons_zero, List.set_cons_succ, gRelU, c_lets, c_digs, c_sgns, c_blk, c_empty, c_zero, c_lf, c_sig, c_num, c_wrd, two_le, isTy_str, fMt, if_true, if_false, Bool.false_eq_true, Bool.not_true, Bool.not_false, decide_true, decide_false, reduceCtorEq, List.length_cons, List.length_nil, Nat.reduceAdd, List.map_cons, List.map_nil, List.replicate, List.cons_append, List.nil_append, Nat.reduceSub])
        rw [append_loc (gg _) (by simp; omega), SH.new_set]
        (simp only [fSeq, fSet, fVar, fC, slot, fNx, fRet, fRetN, fDrop, fIfS, fOp, fUn, fTst, fTru, truS, fAndT, fOrT, fNotT, fAnd, fOr, fNot, fIf, faN, faC, fTup, fLst, fPar, fPar3, fAug, fAsg, fCa, foN, foS, fSl, gtName, gtNil, gtCons, gtTup, gtSub, fChain, gIsN, isNon, bok, bind_bad, call1, call2, call3, List.set_cons_zero, List.set_cons_succ, gRelU, c_lets, c_digs, c_sgns, c_blk, c_empty, c_zero, c_lf, c_sig, c_num, c_wrd, two_le, isTy_str, fMt, if_true, if_false, Bool.false_eq_true, Bool.not_true, Bool.not_false, decide_true, decide_false, reduceCtorEq, List.length_cons, List.length_nil, Nat.reduceAdd, List.map_cons, List.map_nil, List.replicate, List.cons_append, List.nil_append, Nat.reduceSub])
        have e7 : fs.map tkV ++ [SV.tup [.str (tokN (c :: r)), .int (a : Int)]] = (fs ++ [(a, p, tokN (c :: r))]).map tkV := by
          rw [List.map_append]
          rfl
        rw [e7]
        rw [len_str (by omega)]
        (simp only [fSeq, fSet, fVar, fC, slot, fNx, fRet, fRetN, fDrop, fIfS, fOp, fUn, fTst, fTru, truS, fAndT, fOrT, fNotT, fAnd, fOr, fNot, fIf, faN, faC, fTup, fLst, fPar, fPar3, fAug, fAsg, fCa, foN, foS, fSl, gtName, gtNil, gtCons, gtTup, gtSub, fChain, gIsN, isNon, bok, bind_bad, call1, call2, call3, List.set_cons_zero, List.set_cons_succ, gRelU, c_lets, c_digs, c_sgns, c_blk, c_empty, c_zero, c_lf, c_sig, c_num, c_wrd, two_le, isTy_str, fMt, if_true, if_false, Bool.false_eq_true, Bool.not_true, Bool.not_false, decide_true, decide_false, reduceCtorEq, List.length_cons, List.length_nil, Nat.reduceAdd, List.map_cons, List.map_nil, List.replicate, List.cons_append, List.nil_append, Nat.reduceSub])
        rw [add_int]
        (simp only [fSeq, fSet, fVar, fC, slot, fNx, fRet, fRetN, fDrop, fIfS, fOp, fUn, fTst, fTru, truS, fAndT, fOrT, fNotT, fAnd, fOr, fNot, fIf, faN, faC, fTup, fLst, fPar, fPar3, fAug, fAsg, fCa, foN, foS, fSl, gtName, gtNil, gtCons, gtTup, gtSub, fChain, gIsN, isNon, bok, bind_bad, call1, call2, call3, List.set_cons_zero, List.set_cons_succ, gRelU, c_lets, c_digs, c_sgns, c_blk, c_empty, c_zero, c_lf, c_sig, c_num, c_wrd, two_le, isTy_str, fMt, if_true, if_false, Bool.false_eq_true, Bool.not_true, Bool.not_false, decide_true, decide_false, reduceCtorEq, List.length_cons, List.length_nil, Nat.reduceAdd, List.map_cons, List.map_nil, List.replicate, List.cons_append, List.nil_append, Nat.reduceSub])
        rw [wp_ok]
        have h1 : 1 ≤ (tokN (c :: r)).length := by rw [et]; simp
        have e8 : (a : Int) + ((tokN (c :: r)).length : Nat) = ((a + (tokN (c :: r)).length : Nat) : Int) := by simp
        rw [e8]
        refine ⟨((c :: r).drop (tokN (c :: r)).length).length, by rw [hm, List.length_drop]; simp at hlen2 ⊢; omega, a + (tokN (c :: r)).length, _, _, _, _, _, fs ++ [(a, p, tokN (c :: r))], ?_, ?_, rfl, Bf.tok (by omega), by rw [List.append_assoc]; exact hf, hbd, by simp; omega, rfl, rfl⟩
        · rw [← List.drop_drop, hu]
        · rw [List.length_drop]
          omega
      · have hk : (wr p (tokN (c :: r))).isEmpty = false := by simpa using hk
        rw [hk]
        (simp only [fSeq, fSet, fVar, fC, slot, fNx, fRet, fRetN, fDrop, fIfS, fOp, fUn, fTst, fTru, truS, fAndT, fOrT, fNotT, fAnd, fOr, fNot, fIf, faN, faC, fTup, fLst, fPar, fPar3, fAug, fAsg, fCa, foN, foS, fSl, gtName, gtNil, gtCons, gtTup, gtSub, fChain, gIsN, isNon, bok, bind_bad, call1, call2, call3, List.set_cons_zero, List.set_cons_succ, gRelU, c_lets, c_digs, c_sgns, c_blk, c_empty, c_zero, c_lf, c_sig, c_num, c_wrd, two_le, isTy_str, fMt, if_true, if_false, Bool.false_eq_true, Bool.not_true, Bool.not_false, decide_true, decide_false, reduceCtorEq, List.length_cons, List.length_nil, Nat.reduceAdd, List.map_cons, List.map_nil, List.replicate, List.cons_append, List.nil_append, Nat.reduceSub])
        have k1 : okC (a, p, tokN (c :: r)) = false := hk
        rw [k1] at hf hbd
        simp only [Bool.false_eq_true, if_false, List.append_nil] at hf hbd
        rw [← hbd, ← hf] at hP
        have e9 : (txs (wr p (tokN (c :: r))))[0]? = some (.str ((wr p (tokN (c :: r))).headD [])) := by
          cases hq : wr p (tokN (c :: r)) with
          | nil => rw [hq] at hk; cases hk
          | cons x y => rfl
        rw [ixl 0 (i := 0) rfl e9]
        have z3 : 3 ≤ sizeLine := by omega
        (simp only [fSeq, fSet, fVar, fC, slot, fNx, fRet, fRetN, fDrop, fIfS, fOp, fUn, fTst, fTru, truS, fAndT, fOrT, fNotT, fAnd, fOr, fNot, fIf, faN, faC, fTup, fLst, fPar, fPar3, fAug, fAsg, fCa, foN, foS, fSl, gtName, gtNil, gtCons, gtTup, gtSub, fChain, gIsN, isNon, bok, bind_bad, call1, call2, call3, List.set_cons_zero, List.set_cons_succ, gRelU, c_lets, c_digs, c_sgns, c_blk, c_empty, c_zero, c_lf, c_sig, c_num, c_wrd, two_le, isTy_str, fMt, if_true, if_false, Bool.false_eq_true, Bool.not_true, Bool.not_false, decide_true, decide_false, reduceCtorEq, List.length_cons, List.length_nil, Nat.reduceAdd, List.map_cons, List.map_nil, List.replicate, List.cons_append, List.nil_append, Nat.reduceSub])
        simp only [z3, if_true]
        (simp only [fSeq, fSet, fVar, fC, slot, fNx, fRet, fRetN, fDrop, fIfS, fOp, fUn, fTst, fTru, truS, fAndT, fOrT, fNotT, fAnd, fOr, fNot, fIf, faN, faC, fTup, fLst, fPar, fPar3, fAug, fAsg, fCa, foN, foS, fSl, gtName, gtNil, gtCons, gtTup, gtSub, fChain, gIsN, isNon, bok, bind_bad, call1, call2, call3, List.set_cons_zero, List.set_cons_succ, gRelU, c_lets, c_digs, c_sgns, c_blk, c_empty, c_zero, c_lf, c_sig, c_num, c_wrd, two_le, isTy_str, fMt, if_true, if_false, Bool.false_eq_true, Bool.not_true, Bool.not_false, decide_true, decide_false, reduceCtorEq, List.length_cons, List.length_nil, Nat.reduceAdd, List.map_cons, List.map_nil, List.replicate, List.cons_append, List.nil_append, Nat.reduceSub])
        rw [wp_ok]
        simp only
        rw [wp_ok]
        exact hP
end K11
/-! tokens and their fault, by the program -/
namespace K11
open PySem Fv
theorem cuts_ind {Q : Ct → Prop} {t : Tx} : ∀ (n : Nat) (p : Option Nat) (a : Nat) (u : Tx), u.length ≤ n → t.drop a = u → a + u.length = t.length → p = bef t a → (∀ a c r, t.drop a = c :: r → a + (c :: r).length = t.length → Q (a, bef t a, tokN (c :: r))) → ∀ x ∈ cuts p a u, Q x
  | n, p, a, [], _, _, _, _, _, x, hx => by rw [cuts_nil] at hx; cases hx
  | 0, p, a, c :: r, h, _, _, _, _, x, hx => by simp at h
  | n + 1, p, a, c :: r, h, hu, hau, hp, hQ, x, hx => by
    rw [cuts_ne (u := c :: r) (by simp)] at hx
    rcases List.mem_cons.mp hx with rfl | hx
    · rw [hp]
      exact hQ a c r hu hau
    · obtain ⟨s, e⟩ := tok_cons c r
      have h1 : 1 ≤ (tokN (c :: r)).length := by rw [e]; simp
      have h2 := tok_len (c :: r)
      refine cuts_ind n _ _ _ ?_ ?_ ?_ ?_ hQ x hx
      · rw [List.length_drop]
        omega
      · rw [← List.drop_drop, hu]
      · rw [List.length_drop]
        omega
      · rw [bef_next hu (by omega) (by simp)]
theorem cuts_all {Q : Ct → Prop} {t : Tx} (hQ : ∀ a c r, t.drop a = c :: r → a + (c :: r).length = t.length → Q (a, bef t a, tokN (c :: r))) : ∀ x ∈ cuts none 0 t, Q x :=
  cuts_ind t.length none 0 t (Nat.le_refl _) rfl (by omega) rfl hQ
theorem cuts_lt {t : Tx} : ∀ x ∈ cuts none 0 t, x.1 < t.length := cuts_all fun a c r _ h => by simp at h; show a < _; omega
theorem fnd_mem {cs : List Ct} {x : Ct} (h : x ∈ fnd cs) : x ∈ cs := by
  unfold fnd at h
  exact (List.takeWhile_prefix _).sublist.subset (List.mem_filter.mp h).1
theorem bad_mem {cs : List Ct} {x : Ct} (h : bad cs = some x) : x ∈ cs := List.mem_of_find?_eq_some h
theorem lc_new {fi : FI} {it : SIt} {t : GT} {c : FT} {e : F} {η : Sl} {h : SH} {vs : List Nat} {xs : List SV} (ft : SV → Sl) (fc : SV → Bool) (fe : SV → SV) (C : Cn h)
    (hi : fi η h = .ok it h) (walk : it.vals = some xs) (hl : xs.length ≤ sizeLine) (ht : ∀ x ∈ xs, ∀ h, Cn h → t x (wipeS η vs) h = .ok (ft x) h) (hc : ∀ x ∈ xs, ∀ h, Cn h → c (ft x) h = .ok (fc x) h)
    (he : ∀ x ∈ xs, fc x = true → ∀ h, Cn h → e (ft x) h = .ok (fe x) h) (hcl : ∀ x ∈ xs, fc x = true → clV h.nx (fe x) = true) :
    fLc fi t c e vs η h = .ok (.loc h.nx) (h.new (.lst ((xs.filter fc).map fe))) := by
  unfold fLc
  rw [hi]
  simp only [bind_ok]
  rw [lc_go ft fc fe C walk ht hc he hcl xs _ 0 [] rfl (by have := SIt.size_vals walk h; omega) (by simpa using hl) rfl]
  simp only [List.nil_append]
def sLng : Tx := [108, 111, 110, 103]
theorem c_lng : (("long" : PySem.Str).cps.toList) = sLng := rfl
/-- the fault of a text: word and place -/
def fl (t : Tx) : Option (Tx × Nat) := match bad (cuts none 0 t) with
  | none => if 4000 < t.length then some (sLng, 4000) else none
  | some x => if 4000 < t.length ∧ 4000 < x.1 then some (sLng, 4000) else some ((wr x.2.1 x.2.2).headD [], x.1)
def endW (n : Nat) : Option (Tx × Nat) → SV × SV
  | none => (.int (n : Int), .non)
  | some (w, a) => (.int (a : Int), .str w)
theorem fl_le {t : Tx} {w : Tx} {a : Nat} (h : fl t = some (w, a)) : a ≤ t.length := by
  unfold fl at h
  cases e : bad (cuts none 0 t) with
  | none =>
    rw [e] at h
    simp only at h
    split at h
    · cases h; omega
    · cases h
  | some x =>
    rw [e] at h
    simp only at h
    have := cuts_lt x (bad_mem e)
    split at h
    · cases h; omega
    · cases h; omega
def faultV (t : Tx) : Option (Tx × Nat) → SV
  | none => .non
  | some (w, a) => .tup [.str w, .int ((plA t a).1 : Nat), .int ((plA t a).2 : Nat)]
def kpB (f : Option (Tx × Nat)) (x : Ct) : Bool := match f with
  | none => true
  | some (_, a) => decide (x.1 < a)
def kpV (t : Tx) (x : Ct) : SV := .tup [.str x.2.2, plV (plA t x.1)]
def kept (t : Tx) : List Ct := (fnd (cuts none 0 t)).filter (kpB (fl t))
theorem cl_kept (n : Nat) (t : Tx) (cs : List Ct) : clL n (cs.map (kpV t)) = true := clL_map _ _ _ fun _ _ => rfl
theorem plcs_at {t : Tx} {a : Nat} (h : a ≤ t.length) : ((plcs (1, 1) t).map plV)[a]? = some (plV (plA t a)) := by
  rw [List.getElem?_map, plcs_get t _ _ h]
  rfl
theorem plcs_last (t : Tx) : (plcs (1, 1) t).map plV = ((plcs (1, 1) t).take t.length).map plV ++ [plV (plF t)] := by
  have h1 : (plcs (1, 1) t).take (t.length + 1) = plcs (1, 1) t := List.take_of_length_le (by rw [plcs_len]; omega)
  have h2 : (plcs (1, 1) t)[t.length]? = some (plF t) := by
    rw [plcs_get t _ _ (by omega), List.take_length]
    rfl
  conv => lhs; rw [← h1]
  rw [List.take_succ, h2, List.map_append]
  rfl
theorem cuts_len : ∀ (n : Nat) (p : Option Nat) (a : Nat) (u : Tx), u.length ≤ n → (cuts p a u).length ≤ u.length
  | n, p, a, [], _ => by rw [cuts_nil]; simp
  | 0, p, a, c :: r, h => by simp at h
  | n + 1, p, a, c :: r, h => by
    rw [cuts_ne (u := c :: r) (by simp)]
    obtain ⟨s, e⟩ := tok_cons c r
    have h1 : 1 ≤ (tokN (c :: r)).length := by rw [e]; simp
    have h2 := tok_len (c :: r)
    have := cuts_len n (tokN (c :: r)).getLast? (a + (tokN (c :: r)).length) ((c :: r).drop (tokN (c :: r)).length) (by rw [List.length_drop]; omega)
    rw [List.length_drop] at this
    rw [List.length_cons (as := cuts _ _ _)]
    omega
theorem fnd_len (cs : List Ct) : (fnd cs).length ≤ cs.length := by
  unfold fnd
  exact Nat.le_trans (List.length_filter_le _ _) (List.takeWhile_prefix _).length_le
def ftK (η : Sl) (x : SV) : Sl := match x with
  | .tup [a, b] => ((wipeS η [6, 7]).set 6 (some a)).set 7 (some b)
  | _ => η
def fcK (f : Option (Tx × Nat)) (x : SV) : Bool := match x with
  | .tup [_, .int i] => (match f with
    | none => true
    | some (_, a) => decide (i < (a : Int)))
  | _ => false
def feK (t : Tx) (x : SV) : SV := match x with
  | .tup [w, .int i] => .tup [w, plV (plA t i.toNat)]
  | _ => .non
theorem read_signs_ok (t : Tx) (hl : t.length < 100000) (h : SH) (C : Cn h) : fe_read_signs [.str t] h = .ok (.tup [.loc h.nx, plV (plF t), faultV t (fl t)]) (h.new (.lst ((kept t).map (kpV t)))) := by
  unfold fe_read_signs fb_read_signs fBody startS
  have hs := sizeLine_eq
  simp only [List.map_cons, List.map_nil, List.length_cons, List.length_nil, List.replicate, List.cons_append, List.nil_append, Nat.reduceAdd, Nat.reduceSub]
  unfold fSeq
  have e1 : fSet 1 (fFz (fCall 1 fe_places_of (faC (fVar 0) faN))) [some (.str t), none, none, none, none, none, none, none] h = .ok (.nx [some (.str t), some (.ls ((plcs (1, 1) t).map plV)), none, none, none, none, none, none]) h := by
    unfold fSet
    rw [places_ok t hl h C _ rfl, bok]
    rfl
  rw [e1, bok]
  simp only
  have e2 : fAsg (fFz (fCall 1 fe_tokens_by (faC (fVar 0) faN))) (gtTup 3 (gtCons (gtName 2) (gtCons (gtName 3) (gtCons (gtName 4) gtNil)))) [some (.str t), some (.ls ((plcs (1, 1) t).map plV)), none, none, none, none, none, none] h =
      .ok (.nx [some (.str t), some (.ls ((plcs (1, 1) t).map plV)), some (.ls ((fnd (cuts none 0 t)).map tkV)), some (endV t.length (bad (cuts none 0 t))).1, some (endV t.length (bad (cuts none 0 t))).2, none, none, none]) h := by
    have e3 : fFz (fCall 1 fe_tokens_by (faC (fVar 0) faN)) [some (.str t), some (.ls ((plcs (1, 1) t).map plV)), none, none, none, none, none, none] h = .ok (.tup [.ls ((fnd (cuts none 0 t)).map tkV), (endV t.length (bad (cuts none 0 t))).1, (endV t.length (bad (cuts none 0 t))).2]) h := by
      unfold fFz
      rw [call1_ok (var_ok rfl) (tokens_by_ok t hl h C)]
      refine cut_ext C ?_
      have c1 : clV h.nx (endV t.length (bad (cuts none 0 t))).1 = true := by cases bad (cuts none 0 t) <;> rfl
      have c2 : clV h.nx (endV t.length (bad (cuts none 0 t))).2 = true := by cases bad (cuts none 0 t) <;> rfl
      have c3 : fzV h.nx ⟨h.c ++ [.lst ((fnd (cuts none 0 t)).map tkV)]⟩ 7 (.loc h.nx) = some (.ls ((fnd (cuts none 0 t)).map tkV)) := fzV_loc (h' := h.new (.lst ((fnd (cuts none 0 t)).map tkV))) get_new_same (Nat.le_refl _) (cl_tks _ _)
      have c4 : clV h.nx (.tup [.loc h.nx, (endV t.length (bad (cuts none 0 t))).1, (endV t.length (bad (cuts none 0 t))).2]) = false := by
        unfold clV clL clV
        simp
      unfold fzV
      rw [c4, if_neg (by simp)]
      simp only
      unfold mapO mapO mapO mapO
      rw [c3, fz_clean 7 c1, fz_clean 7 c2]
      rfl
    unfold fAsg
    rw [e3, bok]
    rfl
  rw [e2, bok]
  simp only
  have e4 : fIfS (fAndT (fTst (fOp gGtU (fCa gLen (faC (fVar 0) (faN))) (fC (.int 4000)))) (fOrT (fTst (fOp (gIsN false) (fVar 4) (fC .non))) (fTst (fOp gGtU (fVar 3) (fC (.int 4000)))))) (fAsg (fTup (faC (fC (.int 4000)) (faC (fC (.str (("long" : PySem.Str).cps.toList))) (faN)))) (gtTup 2 (gtCons (gtName 3) (gtCons (gtName 4) (gtNil))))) (fNx)
      [some (.str t), some (.ls ((plcs (1, 1) t).map plV)), some (.ls ((fnd (cuts none 0 t)).map tkV)), some (endV t.length (bad (cuts none 0 t))).1, some (endV t.length (bad (cuts none 0 t))).2, none, none, none] h =
      .ok (.nx [some (.str t), some (.ls ((plcs (1, 1) t).map plV)), some (.ls ((fnd (cuts none 0 t)).map tkV)), some (endW t.length (fl t)).1, some (endW t.length (fl t)).2, none, none, none]) h := by
    have asg : ∀ x y : SV, fAsg (fTup (faC (fC (.int 4000)) (faC (fC (.str (("long" : PySem.Str).cps.toList))) (faN)))) (gtTup 2 (gtCons (gtName 3) (gtCons (gtName 4) (gtNil)))) [some (.str t), some (.ls ((plcs (1, 1) t).map plV)), some (.ls ((fnd (cuts none 0 t)).map tkV)), some x, some y, none, none, none] h = .ok (.nx [some (.str t), some (.ls ((plcs (1, 1) t).map plV)), some (.ls ((fnd (cuts none 0 t)).map tkV)), some (.int 4000), some (.str sLng), none, none, none]) h := fun x y => by
      unfold fAsg
      rw [tup_ok (faC_ok c_ok (faC_ok c_ok faN_ok)) (by simp; omega), bok]
      rfl
    unfold fIfS
    cases e : bad (cuts none 0 t) with
    | none =>
      have cnd : fAndT (fTst (fOp gGtU (fCa gLen (faC (fVar 0) (faN))) (fC (.int 4000)))) (fOrT (fTst (fOp (gIsN false) (fVar 4) (fC .non))) (fTst (fOp gGtU (fVar 3) (fC (.int 4000))))) [some (.str t), some (.ls ((plcs (1, 1) t).map plV)), some (.ls ((fnd (cuts none 0 t)).map tkV)), some (endV t.length none).1, some (endV t.length none).2, none, none, none] h = .ok (decide (4000 < t.length) && true) h :=
        and_b (gt_at 4000 rfl hl) fun _ => or_t (isN_f .non (var_ok rfl) c_ok)
      rw [cnd, bok]
      have hf : fl t = if 4000 < t.length then some (sLng, 4000) else none := by unfold fl; rw [e]
      rw [hf]
      by_cases h4 : 4000 < t.length
      · rw [decide_eq_true h4, if_pos h4]
        simp only [Bool.and_self, if_true]
        rw [asg]
        rfl
      · rw [decide_eq_false h4, if_neg h4]
        rfl
    | some x =>
      have cnd : fAndT (fTst (fOp gGtU (fCa gLen (faC (fVar 0) (faN))) (fC (.int 4000)))) (fOrT (fTst (fOp (gIsN false) (fVar 4) (fC .non))) (fTst (fOp gGtU (fVar 3) (fC (.int 4000))))) [some (.str t), some (.ls ((plcs (1, 1) t).map plV)), some (.ls ((fnd (cuts none 0 t)).map tkV)), some (endV t.length (some x)).1, some (endV t.length (some x)).2, none, none, none] h = .ok (decide (4000 < t.length) && (false || decide ((4000 : Int) < (x.1 : Int)))) h :=
        and_b (gt_at 4000 rfl hl) fun _ => or_b (isN_f (.str _) (var_ok rfl) c_ok) fun _ => tst_ok (op_ok (var_ok rfl) c_ok (rel_int _ _ _ _ _))
      rw [cnd, bok]
      have hf : fl t = if 4000 < t.length ∧ 4000 < x.1 then some (sLng, 4000) else some ((wr x.2.1 x.2.2).headD [], x.1) := by unfold fl; rw [e]
      rw [hf]
      by_cases h4 : 4000 < t.length ∧ 4000 < x.1
      · have : decide ((4000 : Int) < (x.1 : Int)) = true := decide_eq_true (by omega)
        rw [decide_eq_true h4.1, if_pos h4, this]
        simp only [Bool.and_self, Bool.or_true, if_true]
        rw [asg]
        rfl
      · have : (decide (4000 < t.length) && (false || decide ((4000 : Int) < (x.1 : Int)))) = false := by
          by_cases h5 : 4000 < t.length
          · rw [decide_eq_true h5, decide_eq_false (by omega)]
            rfl
          · rw [decide_eq_false h5]
            rfl
        rw [this, if_neg h4]
        rfl
  rw [e4, bok]
  simp only
  have hfl : ∀ w a, fl t = some (w, a) → a ≤ t.length := fun w a e => fl_le e
  have e5 : ∀ η : Sl, η = [some (.str t), some (.ls ((plcs (1, 1) t).map plV)), some (.ls ((fnd (cuts none 0 t)).map tkV)), some (endW t.length (fl t)).1, some (endW t.length (fl t)).2, none, none, none] → fSet 5 (fLc (fiAny (fVar 2)) (gtTup 2 (gtCons (gtName 6) (gtCons (gtName 7) (gtNil)))) (fOrT (fTst (fOp (gIsN false) (fVar 4) (fC .non))) (fTst (fOp gLtU (fVar 7) (fVar 3)))) (fTup (faC (fVar 6) (faC (fOp gIx (fVar 1) (fVar 7)) (faN)))) [6, 7])
      η h = .ok (.nx [some (.str t), some (.ls ((plcs (1, 1) t).map plV)), some (.ls ((fnd (cuts none 0 t)).map tkV)), some (endW t.length (fl t)).1, some (endW t.length (fl t)).2, some (.loc h.nx), none, none]) (h.new (.lst ((kept t).map (kpV t)))) := by
    intro η hη
    unfold fSet
    have mem : ∀ x ∈ (fnd (cuts none 0 t)).map tkV, ∃ y : Ct, x = tkV y ∧ y.1 < t.length := fun x hx => by
      obtain ⟨y, hy, rfl⟩ := List.mem_map.mp hx
      exact ⟨y, rfl, cuts_lt y (fnd_mem hy)⟩
    rw [lc_new (xs := (fnd (cuts none 0 t)).map tkV) (it := .fl ((fnd (cuts none 0 t)).map tkV)) (ftK η) (fcK (fl t)) (feK t) C (by rw [hη]; rfl) rfl ?_ ?_ ?_ ?_ ?_]
    · rw [bok, hη]
      have : (((fnd (cuts none 0 t)).map tkV).filter (fcK (fl t))).map (feK t) = (kept t).map (kpV t) := by
        unfold kept
        rw [List.filter_map, List.map_map]
        have e6 : (fun x => fcK (fl t) (tkV x)) = kpB (fl t) := by
          funext x
          unfold fcK tkV kpB
          simp only
          cases fl t with
          | none => rfl
          | some q =>
            obtain ⟨w, a⟩ := q
            simp
        have e7 : (feK t ∘ tkV) = kpV t := by
          funext x
          unfold feK tkV kpV
          simp
        have e8 : (fcK (fl t) ∘ tkV) = kpB (fl t) := e6
        rw [e7, e8]
      rw [this]
      rfl
    · rw [List.length_map]
      have := fnd_len (cuts none 0 t)
      have := cuts_len _ none 0 t (Nat.le_refl _)
      omega
    · rintro x hx h' _
      obtain ⟨y, rfl, _⟩ := mem x hx
      rw [hη]
      rfl
    · rintro x hx h' _
      obtain ⟨y, rfl, _⟩ := mem x hx
      rw [hη]
      cases e : fl t with
      | none => exact or_t (isN_f .non (var_ok rfl) c_ok)
      | some q =>
        obtain ⟨w, a⟩ := q
        have : fcK (some (w, a)) (tkV y) = (false || decide ((y.1 : Int) < (a : Int))) := by simp [fcK, tkV]
        rw [this]
        exact or_b (isN_f (.str _) (var_ok rfl) c_ok) fun _ => tst_ok (op_ok (var_ok rfl) (var_ok rfl) (rel_int _ _ _ _ _))
    · rintro x hx _ h' _
      obtain ⟨y, rfl, hy⟩ := mem x hx
      rw [hη]
      refine tup_ok (faC_ok (var_ok rfl) (faC_ok (op_ok (var_ok rfl) (var_ok rfl) (ixl y.1 rfl (plcs_at (by omega)) h')) faN_ok)) (by simp; omega)
    · rintro x hx _
      obtain ⟨y, rfl, hy⟩ := mem x hx
      rfl
  rw [e5 _ rfl, bok]
  simp only
  unfold fRet
  have l3 : ∀ a b c : SV, [a, b, c].length ≤ sizeLine := fun a b c => by simp; omega
  have e9 : ∀ H : SH, fIf (fTst (fOp (gIsN true) (fVar 4) (fC .non))) (fOp gAdd (fTup (faC (fVar 4) (faN))) (fOp gIx (fVar 1) (fVar 3))) (fC .non) [some (.str t), some (.ls ((plcs (1, 1) t).map plV)), some (.ls ((fnd (cuts none 0 t)).map tkV)), some (endW t.length (fl t)).1, some (endW t.length (fl t)).2, some (.loc h.nx), none, none] H = .ok (faultV t (fl t)) H := fun H => by
    cases e : fl t with
    | none => exact ifE_ok (k := false) (isN_t .non (var_ok rfl) c_ok) (fun z => by cases z) fun _ => rfl
    | some q =>
      obtain ⟨w, a⟩ := q
      refine ifE_ok (k := true) (isN_t (.str w) (var_ok rfl) c_ok) (fun _ => ?_) (fun z => by cases z)
      refine op_ok (tup_ok (faC_ok (var_ok rfl) faN_ok) (by simp; omega)) (op_ok (var_ok rfl) (var_ok rfl) (ixl a rfl (plcs_at (hfl w a e)) H)) ?_
      show gAdd (.tup [.str w]) (plV (plA t a)) H = _
      unfold gAdd
      have : [SV.str w].length + [SV.int ((plA t a).1 : Nat), .int ((plA t a).2 : Nat)].length ≤ sizeLine := by simp; omega
      unfold plV
      simp only
      rw [if_pos this]
      rfl
  rw [tup_ok (faC_ok (v := .loc h.nx) (var_ok rfl) (faC_ok (v := plV (plF t)) (op_ok (var_ok rfl) (neg1_ok _ _) (by rw [plcs_last]; exact ix_last _)) (faC_ok (e9 _) faN_ok))) (l3 _ _ _), bok]
  simp only [bok]
end K11
/-! draws, the same, pots -/
namespace K11
open PySem Fv
theorem cl_ints (n : Nat) (r : List Int) : clL n (r.map SV.int) = true := clL_map _ _ _ fun _ _ => by simp
variable {tl : List SO} {h : SH} {p : Nat}
theorem draw_ok (P : PH 2 tl h) (l : p < 2) {m : Int} (hm : 0 < m) (hm2 : m < 1073741824) : wp (fe__law_draw [.loc p, .int m] h) fun v h' => ∃ d : Nat, v = .int (d : Int) ∧ (d : Int) < m ∧ PH 2 tl h' := by
  obtain ⟨a, b, g⟩ := P.pot l
  have nxl : p < h.nx := by rw [P.nx]; omega
  have nn : ∀ x : Int, ∃ d : Nat, x % m = (d : Int) ∧ (d : Int) < m := fun x => ⟨(x % m).toNat, by have := Int.emod_nonneg x (Int.ne_of_gt hm); omega, by have := Int.emod_lt_of_pos x hm; have := Int.emod_nonneg x (Int.ne_of_gt hm); omega⟩
  have ii : ∀ (i : Int) (h : SH), gInt [.int i] h = .ok (.int i) h := fun _ _ => rfl
  refine wp.via fun Q hQ => ?_
  unfold fe__law_draw fb__law_draw
  apply wp_body
  simp only [startS, List.map_cons, List.map_nil, List.length_cons, List.length_nil, List.replicate, List.cons_append, List.nil_append, Nat.reduceAdd, Nat.reduceSub]
  (simp only [fSeq, fSet, fVar, fC, slot, fNx, fRet, fRetN, fDrop, fIfS, fOp, fUn, fTst, fTru, truS, fAndT, fOrT, fNotT, fAnd, fOr, fNot, fIf, faN, faC, fTup, fLst, fPar, fPar3, fAug, fAsg, fCa, foN, foS, fSl, gtName, gtNil, gtCons, gtTup, gtSub, fChain, gIsN, isNon, bok, bind_bad, call1, call2, call3, List.set_cons_zero, List.set_cons_succ, gRelU, c_lets, c_digs, c_sgns, c_blk, c_empty, c_zero, c_lf, c_sig, c_num, c_wrd, two_le, isTy_str, fMt, if_true, if_false, Bool.false_eq_true, Bool.not_true, Bool.not_false, decide_true, decide_false, reduceCtorEq, List.length_cons, List.length_nil, Nat.reduceAdd, List.map_cons, List.map_nil, List.replicate, List.cons_append, List.nil_append, Nat.reduceSub])
  rw [ix0 g]
  (simp only [fSeq, fSet, fVar, fC, slot, fNx, fRet, fRetN, fDrop, fIfS, fOp, fUn, fTst, fTru, truS, fAndT, fOrT, fNotT, fAnd, fOr, fNot, fIf, faN, faC, fTup, fLst, fPar, fPar3, fAug, fAsg, fCa, foN, foS, fSl, gtName, gtNil, gtCons, gtTup, gtSub, fChain, gIsN, isNon, bok, bind_bad, call1, call2, call3, List.set_cons_zero, List.set_cons_succ, gRelU, c_lets, c_digs, c_sgns, c_blk, c_empty, c_zero, c_lf, c_sig, c_num, c_wrd, two_le, isTy_str, fMt, if_true, if_false, Bool.false_eq_true, Bool.not_true, Bool.not_false, decide_true, decide_false, reduceCtorEq, List.length_cons, List.length_nil, Nat.reduceAdd, List.map_cons, List.map_nil, List.replicate, List.cons_append, List.nil_append, Nat.reduceSub])
  by_cases c : 0 < a
  · rw [decide_eq_true c]
    (simp only [fSeq, fSet, fVar, fC, slot, fNx, fRet, fRetN, fDrop, fIfS, fOp, fUn, fTst, fTru, truS, fAndT, fOrT, fNotT, fAnd, fOr, fNot, fIf, faN, faC, fTup, fLst, fPar, fPar3, fAug, fAsg, fCa, foN, foS, fSl, gtName, gtNil, gtCons, gtTup, gtSub, fChain, gIsN, isNon, bok, bind_bad, call1, call2, call3, List.set_cons_zero, List.set_cons_succ, gRelU, c_lets, c_digs, c_sgns, c_blk, c_empty, c_zero, c_lf, c_sig, c_num, c_wrd, two_le, isTy_str, fMt, if_true, if_false, Bool.false_eq_true, Bool.not_true, Bool.not_false, decide_true, decide_false, reduceCtorEq, List.length_cons, List.length_nil, Nat.reduceAdd, List.map_cons, List.map_nil, List.replicate, List.cons_append, List.nil_append, Nat.reduceSub])
    rw [ix0 g]
    (simp only [fSeq, fSet, fVar, fC, slot, fNx, fRet, fRetN, fDrop, fIfS, fOp, fUn, fTst, fTru, truS, fAndT, fOrT, fNotT, fAnd, fOr, fNot, fIf, faN, faC, fTup, fLst, fPar, fPar3, fAug, fAsg, fCa, foN, foS, fSl, gtName, gtNil, gtCons, gtTup, gtSub, fChain, gIsN, isNon, bok, bind_bad, call1, call2, call3, List.set_cons_zero, List.set_cons_succ, gRelU, c_lets, c_digs, c_sgns, c_blk, c_empty, c_zero, c_lf, c_sig, c_num, c_wrd, two_le, isTy_str, fMt, if_true, if_false, Bool.false_eq_true, Bool.not_true, Bool.not_false, decide_true, decide_false, reduceCtorEq, List.length_cons, List.length_nil, Nat.reduceAdd, List.map_cons, List.map_nil, List.replicate, List.cons_append, List.nil_append, Nat.reduceSub])
    rw [ii]
    (simp only [fSeq, fSet, fVar, fC, slot, fNx, fRet, fRetN, fDrop, fIfS, fOp, fUn, fTst, fTru, truS, fAndT, fOrT, fNotT, fAnd, fOr, fNot, fIf, faN, faC, fTup, fLst, fPar, fPar3, fAug, fAsg, fCa, foN, foS, fSl, gtName, gtNil, gtCons, gtTup, gtSub, fChain, gIsN, isNon, bok, bind_bad, call1, call2, call3, List.set_cons_zero, List.set_cons_succ, gRelU, c_lets, c_digs, c_sgns, c_blk, c_empty, c_zero, c_lf, c_sig, c_num, c_wrd, two_le, isTy_str, fMt, if_true, if_false, Bool.false_eq_true, Bool.not_true, Bool.not_false, decide_true, decide_false, reduceCtorEq, List.length_cons, List.length_nil, Nat.reduceAdd, List.map_cons, List.map_nil, List.replicate, List.cons_append, List.nil_append, Nat.reduceSub])
    obtain ⟨d, e1, e2⟩ := nn a
    rw [mod_ok hm, e1]
    (simp only [fSeq, fSet, fVar, fC, slot, fNx, fRet, fRetN, fDrop, fIfS, fOp, fUn, fTst, fTru, truS, fAndT, fOrT, fNotT, fAnd, fOr, fNot, fIf, faN, faC, fTup, fLst, fPar, fPar3, fAug, fAsg, fCa, foN, foS, fSl, gtName, gtNil, gtCons, gtTup, gtSub, fChain, gIsN, isNon, bok, bind_bad, call1, call2, call3, List.set_cons_zero, List.set_cons_succ, gRelU, c_lets, c_digs, c_sgns, c_blk, c_empty, c_zero, c_lf, c_sig, c_num, c_wrd, two_le, isTy_str, fMt, if_true, if_false, Bool.false_eq_true, Bool.not_true, Bool.not_false, decide_true, decide_false, reduceCtorEq, List.length_cons, List.length_nil, Nat.reduceAdd, List.map_cons, List.map_nil, List.replicate, List.cons_append, List.nil_append, Nat.reduceSub])
    rw [ix0 g]
    (simp only [fSeq, fSet, fVar, fC, slot, fNx, fRet, fRetN, fDrop, fIfS, fOp, fUn, fTst, fTru, truS, fAndT, fOrT, fNotT, fAnd, fOr, fNot, fIf, faN, faC, fTup, fLst, fPar, fPar3, fAug, fAsg, fCa, foN, foS, fSl, gtName, gtNil, gtCons, gtTup, gtSub, fChain, gIsN, isNon, bok, bind_bad, call1, call2, call3, List.set_cons_zero, List.set_cons_succ, gRelU, c_lets, c_digs, c_sgns, c_blk, c_empty, c_zero, c_lf, c_sig, c_num, c_wrd, two_le, isTy_str, fMt, if_true, if_false, Bool.false_eq_true, Bool.not_true, Bool.not_false, decide_true, decide_false, reduceCtorEq, List.length_cons, List.length_nil, Nat.reduceAdd, List.map_cons, List.map_nil, List.replicate, List.cons_append, List.nil_append, Nat.reduceSub])
    rw [ii]
    (simp only [fSeq, fSet, fVar, fC, slot, fNx, fRet, fRetN, fDrop, fIfS, fOp, fUn, fTst, fTru, truS, fAndT, fOrT, fNotT, fAnd, fOr, fNot, fIf, faN, faC, fTup, fLst, fPar, fPar3, fAug, fAsg, fCa, foN, foS, fSl, gtName, gtNil, gtCons, gtTup, gtSub, fChain, gIsN, isNon, bok, bind_bad, call1, call2, call3, List.set_cons_zero, List.set_cons_succ, gRelU, c_lets, c_digs, c_sgns, c_blk, c_empty, c_zero, c_lf, c_sig, c_num, c_wrd, two_le, isTy_str, fMt, if_true, if_false, Bool.false_eq_true, Bool.not_true, Bool.not_false, decide_true, decide_false, reduceCtorEq, List.length_cons, List.length_nil, Nat.reduceAdd, List.map_cons, List.map_nil, List.replicate, List.cons_append, List.nil_append, Nat.reduceSub])
    rw [div_ok hm hm2]
    (simp only [fSeq, fSet, fVar, fC, slot, fNx, fRet, fRetN, fDrop, fIfS, fOp, fUn, fTst, fTru, truS, fAndT, fOrT, fNotT, fAnd, fOr, fNot, fIf, faN, faC, fTup, fLst, fPar, fPar3, fAug, fAsg, fCa, foN, foS, fSl, gtName, gtNil, gtCons, gtTup, gtSub, fChain, gIsN, isNon, bok, bind_bad, call1, call2, call3, List.set_cons_zero, List.set_cons_succ, gRelU, c_lets, c_digs, c_sgns, c_blk, c_empty, c_zero, c_lf, c_sig, c_num, c_wrd, two_le, isTy_str, fMt, if_true, if_false, Bool.false_eq_true, Bool.not_true, Bool.not_false, decide_true, decide_false, reduceCtorEq, List.length_cons, List.length_nil, Nat.reduceAdd, List.map_cons, List.map_nil, List.replicate, List.cons_append, List.nil_append, Nat.reduceSub])
    rw [setL0 g]
    (simp only [fSeq, fSet, fVar, fC, slot, fNx, fRet, fRetN, fDrop, fIfS, fOp, fUn, fTst, fTru, truS, fAndT, fOrT, fNotT, fAnd, fOr, fNot, fIf, faN, faC, fTup, fLst, fPar, fPar3, fAug, fAsg, fCa, foN, foS, fSl, gtName, gtNil, gtCons, gtTup, gtSub, fChain, gIsN, isNon, bok, bind_bad, call1, call2, call3, List.set_cons_zero, List.set_cons_succ, gRelU, c_lets, c_digs, c_sgns, c_blk, c_empty, c_zero, c_lf, c_sig, c_num, c_wrd, two_le, isTy_str, fMt, if_true, if_false, Bool.false_eq_true, Bool.not_true, Bool.not_false, decide_true, decide_false, reduceCtorEq, List.length_cons, List.length_nil, Nat.reduceAdd, List.map_cons, List.map_nil, List.replicate, List.cons_append, List.nil_append, Nat.reduceSub])
    rw [wp_ok]
    exact hQ _ _ ⟨d, rfl, e2, P.setP l _ _⟩
  · rw [decide_eq_false c]
    (simp only [fSeq, fSet, fVar, fC, slot, fNx, fRet, fRetN, fDrop, fIfS, fOp, fUn, fTst, fTru, truS, fAndT, fOrT, fNotT, fAnd, fOr, fNot, fIf, faN, faC, fTup, fLst, fPar, fPar3, fAug, fAsg, fCa, foN, foS, fSl, gtName, gtNil, gtCons, gtTup, gtSub, fChain, gIsN, isNon, bok, bind_bad, call1, call2, call3, List.set_cons_zero, List.set_cons_succ, gRelU, c_lets, c_digs, c_sgns, c_blk, c_empty, c_zero, c_lf, c_sig, c_num, c_wrd, two_le, isTy_str, fMt, if_true, if_false, Bool.false_eq_true, Bool.not_true, Bool.not_false, decide_true, decide_false, reduceCtorEq, List.length_cons, List.length_nil, Nat.reduceAdd, List.map_cons, List.map_nil, List.replicate, List.cons_append, List.nil_append, Nat.reduceSub])
    rw [ix1 g]
    (simp only [fSeq, fSet, fVar, fC, slot, fNx, fRet, fRetN, fDrop, fIfS, fOp, fUn, fTst, fTru, truS, fAndT, fOrT, fNotT, fAnd, fOr, fNot, fIf, faN, faC, fTup, fLst, fPar, fPar3, fAug, fAsg, fCa, foN, foS, fSl, gtName, gtNil, gtCons, gtTup, gtSub, fChain, gIsN, isNon, bok, bind_bad, call1, call2, call3, List.set_cons_zero, List.set_cons_succ, gRelU, c_lets, c_digs, c_sgns, c_blk, c_empty, c_zero, c_lf, c_sig, c_num, c_wrd, two_le, isTy_str, fMt, if_true, if_false, Bool.false_eq_true, Bool.not_true, Bool.not_false, decide_true, decide_false, reduceCtorEq, List.length_cons, List.length_nil, Nat.reduceAdd, List.map_cons, List.map_nil, List.replicate, List.cons_append, List.nil_append, Nat.reduceSub])
    rw [mulU_ok (by decide)]
    (simp only [fSeq, fSet, fVar, fC, slot, fNx, fRet, fRetN, fDrop, fIfS, fOp, fUn, fTst, fTru, truS, fAndT, fOrT, fNotT, fAnd, fOr, fNot, fIf, faN, faC, fTup, fLst, fPar, fPar3, fAug, fAsg, fCa, foN, foS, fSl, gtName, gtNil, gtCons, gtTup, gtSub, fChain, gIsN, isNon, bok, bind_bad, call1, call2, call3, List.set_cons_zero, List.set_cons_succ, gRelU, c_lets, c_digs, c_sgns, c_blk, c_empty, c_zero, c_lf, c_sig, c_num, c_wrd, two_le, isTy_str, fMt, if_true, if_false, Bool.false_eq_true, Bool.not_true, Bool.not_false, decide_true, decide_false, reduceCtorEq, List.length_cons, List.length_nil, Nat.reduceAdd, List.map_cons, List.map_nil, List.replicate, List.cons_append, List.nil_append, Nat.reduceSub])
    rw [add_int]
    (simp only [fSeq, fSet, fVar, fC, slot, fNx, fRet, fRetN, fDrop, fIfS, fOp, fUn, fTst, fTru, truS, fAndT, fOrT, fNotT, fAnd, fOr, fNot, fIf, faN, faC, fTup, fLst, fPar, fPar3, fAug, fAsg, fCa, foN, foS, fSl, gtName, gtNil, gtCons, gtTup, gtSub, fChain, gIsN, isNon, bok, bind_bad, call1, call2, call3, List.set_cons_zero, List.set_cons_succ, gRelU, c_lets, c_digs, c_sgns, c_blk, c_empty, c_zero, c_lf, c_sig, c_num, c_wrd, two_le, isTy_str, fMt, if_true, if_false, Bool.false_eq_true, Bool.not_true, Bool.not_false, decide_true, decide_false, reduceCtorEq, List.length_cons, List.length_nil, Nat.reduceAdd, List.map_cons, List.map_nil, List.replicate, List.cons_append, List.nil_append, Nat.reduceSub])
    rw [ii]
    (simp only [fSeq, fSet, fVar, fC, slot, fNx, fRet, fRetN, fDrop, fIfS, fOp, fUn, fTst, fTru, truS, fAndT, fOrT, fNotT, fAnd, fOr, fNot, fIf, faN, faC, fTup, fLst, fPar, fPar3, fAug, fAsg, fCa, foN, foS, fSl, gtName, gtNil, gtCons, gtTup, gtSub, fChain, gIsN, isNon, bok, bind_bad, call1, call2, call3, List.set_cons_zero, List.set_cons_succ, gRelU, c_lets, c_digs, c_sgns, c_blk, c_empty, c_zero, c_lf, c_sig, c_num, c_wrd, two_le, isTy_str, fMt, if_true, if_false, Bool.false_eq_true, Bool.not_true, Bool.not_false, decide_true, decide_false, reduceCtorEq, List.length_cons, List.length_nil, Nat.reduceAdd, List.map_cons, List.map_nil, List.replicate, List.cons_append, List.nil_append, Nat.reduceSub])
    rw [mod_ok (by decide)]
    (simp only [fSeq, fSet, fVar, fC, slot, fNx, fRet, fRetN, fDrop, fIfS, fOp, fUn, fTst, fTru, truS, fAndT, fOrT, fNotT, fAnd, fOr, fNot, fIf, faN, faC, fTup, fLst, fPar, fPar3, fAug, fAsg, fCa, foN, foS, fSl, gtName, gtNil, gtCons, gtTup, gtSub, fChain, gIsN, isNon, bok, bind_bad, call1, call2, call3, List.set_cons_zero, List.set_cons_succ, gRelU, c_lets, c_digs, c_sgns, c_blk, c_empty, c_zero, c_lf, c_sig, c_num, c_wrd, two_le, isTy_str, fMt, if_true, if_false, Bool.false_eq_true, Bool.not_true, Bool.not_false, decide_true, decide_false, reduceCtorEq, List.length_cons, List.length_nil, Nat.reduceAdd, List.map_cons, List.map_nil, List.replicate, List.cons_append, List.nil_append, Nat.reduceSub])
    rw [setL1 g]
    (simp only [fSeq, fSet, fVar, fC, slot, fNx, fRet, fRetN, fDrop, fIfS, fOp, fUn, fTst, fTru, truS, fAndT, fOrT, fNotT, fAnd, fOr, fNot, fIf, faN, faC, fTup, fLst, fPar, fPar3, fAug, fAsg, fCa, foN, foS, fSl, gtName, gtNil, gtCons, gtTup, gtSub, fChain, gIsN, isNon, bok, bind_bad, call1, call2, call3, List.set_cons_zero, List.set_cons_succ, gRelU, c_lets, c_digs, c_sgns, c_blk, c_empty, c_zero, c_lf, c_sig, c_num, c_wrd, two_le, isTy_str, fMt, if_true, if_false, Bool.false_eq_true, Bool.not_true, Bool.not_false, decide_true, decide_false, reduceCtorEq, List.length_cons, List.length_nil, Nat.reduceAdd, List.map_cons, List.map_nil, List.replicate, List.cons_append, List.nil_append, Nat.reduceSub])
    have g2 := get_set_same (o := .lst [.int a, .int ((b * 40127 + 6329) % 2147483587)]) nxl
    generalize hb : (b * 40127 + 6329) % 2147483587 = b2 at *
    have hb1 : 0 ≤ b2 := by rw [← hb]; exact Int.emod_nonneg _ (by decide)
    have hb2 : b2 < 2147483587 := by rw [← hb]; exact Int.emod_lt_of_pos _ (by decide)
    rw [ix1 g2]
    (simp only [fSeq, fSet, fVar, fC, slot, fNx, fRet, fRetN, fDrop, fIfS, fOp, fUn, fTst, fTru, truS, fAndT, fOrT, fNotT, fAnd, fOr, fNot, fIf, faN, faC, fTup, fLst, fPar, fPar3, fAug, fAsg, fCa, foN, foS, fSl, gtName, gtNil, gtCons, gtTup, gtSub, fChain, gIsN, isNon, bok, bind_bad, call1, call2, call3, List.set_cons_zero, List.set_cons_succ, gRelU, c_lets, c_digs, c_sgns, c_blk, c_empty, c_zero, c_lf, c_sig, c_num, c_wrd, two_le, isTy_str, fMt, if_true, if_false, Bool.false_eq_true, Bool.not_true, Bool.not_false, decide_true, decide_false, reduceCtorEq, List.length_cons, List.length_nil, Nat.reduceAdd, List.map_cons, List.map_nil, List.replicate, List.cons_append, List.nil_append, Nat.reduceSub])
    rw [ix1 g2]
    (simp only [fSeq, fSet, fVar, fC, slot, fNx, fRet, fRetN, fDrop, fIfS, fOp, fUn, fTst, fTru, truS, fAndT, fOrT, fNotT, fAnd, fOr, fNot, fIf, faN, faC, fTup, fLst, fPar, fPar3, fAug, fAsg, fCa, foN, foS, fSl, gtName, gtNil, gtCons, gtTup, gtSub, fChain, gIsN, isNon, bok, bind_bad, call1, call2, call3, List.set_cons_zero, List.set_cons_succ, gRelU, c_lets, c_digs, c_sgns, c_blk, c_empty, c_zero, c_lf, c_sig, c_num, c_wrd, two_le, isTy_str, fMt, if_true, if_false, Bool.false_eq_true, Bool.not_true, Bool.not_false, decide_true, decide_false, reduceCtorEq, List.length_cons, List.length_nil, Nat.reduceAdd, List.map_cons, List.map_nil, List.replicate, List.cons_append, List.nil_append, Nat.reduceSub])
    rw [mulU_ok (by omega)]
    (simp only [fSeq, fSet, fVar, fC, slot, fNx, fRet, fRetN, fDrop, fIfS, fOp, fUn, fTst, fTru, truS, fAndT, fOrT, fNotT, fAnd, fOr, fNot, fIf, faN, faC, fTup, fLst, fPar, fPar3, fAug, fAsg, fCa, foN, foS, fSl, gtName, gtNil, gtCons, gtTup, gtSub, fChain, gIsN, isNon, bok, bind_bad, call1, call2, call3, List.set_cons_zero, List.set_cons_succ, gRelU, c_lets, c_digs, c_sgns, c_blk, c_empty, c_zero, c_lf, c_sig, c_num, c_wrd, two_le, isTy_str, fMt, if_true, if_false, Bool.false_eq_true, Bool.not_true, Bool.not_false, decide_true, decide_false, reduceCtorEq, List.length_cons, List.length_nil, Nat.reduceAdd, List.map_cons, List.map_nil, List.replicate, List.cons_append, List.nil_append, Nat.reduceSub])
    rw [ii]
    (simp only [fSeq, fSet, fVar, fC, slot, fNx, fRet, fRetN, fDrop, fIfS, fOp, fUn, fTst, fTru, truS, fAndT, fOrT, fNotT, fAnd, fOr, fNot, fIf, faN, faC, fTup, fLst, fPar, fPar3, fAug, fAsg, fCa, foN, foS, fSl, gtName, gtNil, gtCons, gtTup, gtSub, fChain, gIsN, isNon, bok, bind_bad, call1, call2, call3, List.set_cons_zero, List.set_cons_succ, gRelU, c_lets, c_digs, c_sgns, c_blk, c_empty, c_zero, c_lf, c_sig, c_num, c_wrd, two_le, isTy_str, fMt, if_true, if_false, Bool.false_eq_true, Bool.not_true, Bool.not_false, decide_true, decide_false, reduceCtorEq, List.length_cons, List.length_nil, Nat.reduceAdd, List.map_cons, List.map_nil, List.replicate, List.cons_append, List.nil_append, Nat.reduceSub])
    rw [mod_ok (by decide)]
    (simp only [fSeq, fSet, fVar, fC, slot, fNx, fRet, fRetN, fDrop, fIfS, fOp, fUn, fTst, fTru, truS, fAndT, fOrT, fNotT, fAnd, fOr, fNot, fIf, faN, faC, fTup, fLst, fPar, fPar3, fAug, fAsg, fCa, foN, foS, fSl, gtName, gtNil, gtCons, gtTup, gtSub, fChain, gIsN, isNon, bok, bind_bad, call1, call2, call3, List.set_cons_zero, List.set_cons_succ, gRelU, c_lets, c_digs, c_sgns, c_blk, c_empty, c_zero, c_lf, c_sig, c_num, c_wrd, two_le, isTy_str, fMt, if_true, if_false, Bool.false_eq_true, Bool.not_true, Bool.not_false, decide_true, decide_false, reduceCtorEq, List.length_cons, List.length_nil, Nat.reduceAdd, List.map_cons, List.map_nil, List.replicate, List.cons_append, List.nil_append, Nat.reduceSub])
    rw [div_ok (by decide) (by decide)]
    (simp only [fSeq, fSet, fVar, fC, slot, fNx, fRet, fRetN, fDrop, fIfS, fOp, fUn, fTst, fTru, truS, fAndT, fOrT, fNotT, fAnd, fOr, fNot, fIf, faN, faC, fTup, fLst, fPar, fPar3, fAug, fAsg, fCa, foN, foS, fSl, gtName, gtNil, gtCons, gtTup, gtSub, fChain, gIsN, isNon, bok, bind_bad, call1, call2, call3, List.set_cons_zero, List.set_cons_succ, gRelU, c_lets, c_digs, c_sgns, c_blk, c_empty, c_zero, c_lf, c_sig, c_num, c_wrd, two_le, isTy_str, fMt, if_true, if_false, Bool.false_eq_true, Bool.not_true, Bool.not_false, decide_true, decide_false, reduceCtorEq, List.length_cons, List.length_nil, Nat.reduceAdd, List.map_cons, List.map_nil, List.replicate, List.cons_append, List.nil_append, Nat.reduceSub])
    rw [ii]
    (simp only [fSeq, fSet, fVar, fC, slot, fNx, fRet, fRetN, fDrop, fIfS, fOp, fUn, fTst, fTru, truS, fAndT, fOrT, fNotT, fAnd, fOr, fNot, fIf, faN, faC, fTup, fLst, fPar, fPar3, fAug, fAsg, fCa, foN, foS, fSl, gtName, gtNil, gtCons, gtTup, gtSub, fChain, gIsN, isNon, bok, bind_bad, call1, call2, call3, List.set_cons_zero, List.set_cons_succ, gRelU, c_lets, c_digs, c_sgns, c_blk, c_empty, c_zero, c_lf, c_sig, c_num, c_wrd, two_le, isTy_str, fMt, if_true, if_false, Bool.false_eq_true, Bool.not_true, Bool.not_false, decide_true, decide_false, reduceCtorEq, List.length_cons, List.length_nil, Nat.reduceAdd, List.map_cons, List.map_nil, List.replicate, List.cons_append, List.nil_append, Nat.reduceSub])
    obtain ⟨d, e1, e2⟩ := nn (b2 * b2 % 2147483549 / 23)
    rw [mod_ok hm, e1]
    (simp only [fSeq, fSet, fVar, fC, slot, fNx, fRet, fRetN, fDrop, fIfS, fOp, fUn, fTst, fTru, truS, fAndT, fOrT, fNotT, fAnd, fOr, fNot, fIf, faN, faC, fTup, fLst, fPar, fPar3, fAug, fAsg, fCa, foN, foS, fSl, gtName, gtNil, gtCons, gtTup, gtSub, fChain, gIsN, isNon, bok, bind_bad, call1, call2, call3, List.set_cons_zero, List.set_cons_succ, gRelU, c_lets, c_digs, c_sgns, c_blk, c_empty, c_zero, c_lf, c_sig, c_num, c_wrd, two_le, isTy_str, fMt, if_true, if_false, Bool.false_eq_true, Bool.not_true, Bool.not_false, decide_true, decide_false, reduceCtorEq, List.length_cons, List.length_nil, Nat.reduceAdd, List.map_cons, List.map_nil, List.replicate, List.cons_append, List.nil_append, Nat.reduceSub])
    rw [wp_ok]
    exact hQ _ _ ⟨d, rfl, e2, P.setP l _ _⟩
/-- a pick from texts -/
theorem pick_ok (P : PH 2 tl h) (l : p < 2) {xs : List SV} (hx : 0 < xs.length) (hl : xs.length < 1000000) : wp (fe__law_pick [.loc p, .ls xs] h) fun v h' => v ∈ xs ∧ PH 2 tl h' := by
  refine wp.via fun Q hQ => ?_
  unfold fe__law_pick fb__law_pick
  apply wp_body
  simp only [startS, List.map_cons, List.map_nil, List.length_cons, List.length_nil, List.replicate, List.cons_append, List.nil_append, Nat.reduceAdd, Nat.reduceSub]
  (simp only [fSeq, fSet, fVar, fC, slot, fNx, fRet, fRetN, fDrop, fIfS, fOp, fUn, fTst, fTru, truS, fAndT, fOrT, fNotT, fAnd, fOr, fNot, fIf, faN, faC, fTup, fLst, fPar, fPar3, fAug, fAsg, fCa, foN, foS, fSl, gtName, gtNil, gtCons, gtTup, gtSub, fChain, gIsN, isNon, bok, bind_bad, call1, call2, call3, List.set_cons_zero, List.set_cons_succ, gRelU, c_lets, c_digs, c_sgns, c_blk, c_empty, c_zero, c_lf, c_sig, c_num, c_wrd, two_le, isTy_str, fMt, if_true, if_false, Bool.false_eq_true, Bool.not_true, Bool.not_false, decide_true, decide_false, reduceCtorEq, List.length_cons, List.length_nil, Nat.reduceAdd, List.map_cons, List.map_nil, List.replicate, List.cons_append, List.nil_append, Nat.reduceSub])
  rw [len_ls]
  (simp only [fSeq, fSet, fVar, fC, slot, fNx, fRet, fRetN, fDrop, fIfS, fOp, fUn, fTst, fTru, truS, fAndT, fOrT, fNotT, fAnd, fOr, fNot, fIf, faN, faC, fTup, fLst, fPar, fPar3, fAug, fAsg, fCa, foN, foS, fSl, gtName, gtNil, gtCons, gtTup, gtSub, fChain, gIsN, isNon, bok, bind_bad, call1, call2, call3, List.set_cons_zero, List.set_cons_succ, gRelU, c_lets, c_digs, c_sgns, c_blk, c_empty, c_zero, c_lf, c_sig, c_num, c_wrd, two_le, isTy_str, fMt, if_true, if_false, Bool.false_eq_true, Bool.not_true, Bool.not_false, decide_true, decide_false, reduceCtorEq, List.length_cons, List.length_nil, Nat.reduceAdd, List.map_cons, List.map_nil, List.replicate, List.cons_append, List.nil_append, Nat.reduceSub])
  rw [wp_bind, wp_bind]
  refine (draw_ok P l (by omega) (by omega)).mono fun v h1 ⟨d, e, e2, P1⟩ => ?_
  subst e
  have hd : d < xs.length := by omega
  rw [ix_ls (List.getElem?_eq_getElem hd), wp_ok, wp_ok]
  exact hQ _ _ ⟨List.getElem_mem hd, P1⟩
theorem drawP {i : Nat} {m : Int} {n : Nat} {η : Sl} (P : PH 2 tl h) (l : p < 2) (e : slot η i = some (.loc p)) (hn : m = (n : Int) + 1) (hm2 : m < 1000) : wp (fCall 2 fe__law_draw (faC (fVar i) (faC (fC (.int m)) (faN))) η h) fun v h' => ∃ d : Nat, v = .int (d : Int) ∧ 0 ≤ d ∧ d ≤ n ∧ PH 2 tl h' := by
  rw [wp_call2, wp_var e, wp_c]
  exact (draw_ok P l (by omega) (by omega)).mono fun v h1 ⟨d, e, e2, P1⟩ => ⟨d, e, by omega, by omega, P1⟩
theorem same_rc : ∀ k, rc__law_same k = rcSame k
  | 0 => rfl
  | k + 1 => by
    funext j
    cases j with
    | zero =>
      show fBody 4 (fb__law_same (rc__law_same k)) = fBody 4 (fbSame (rcSame k))
      rw [same_rc k]
      rfl
    | succ j => rfl
theorem law_same_ok {v w : SV} {h : SH} (s : Sm h 12 v w) (C : Cn h) : fe__law_same [v, w] h = .ok (.bl true) h := by
  show rc__law_same 12 0 [v, w] h = _
  rw [same_rc]
  exact same_ok 12 v w h s C
theorem sl_fl_to (xs : List SV) (b : Nat) (h : SH) : gSl (.fl xs) none (some (b : Int)) h = .ok (.loc h.nx) (h.new (.lst (xs.take b))) := by
  have e : gSl (.fl xs) none (some (b : Int)) h = .ok (.loc h.nx) (h.new (.lst (cutL xs none (some (b : Int))))) := rfl
  rw [e, cutL_to]
theorem abs_ok (i : Int) (h : SH) : ∃ j, gAbs [.int i] h = .ok (.int j) h := ⟨_, rfl⟩
theorem max_ok (i j : Int) (h : SH) : ∃ m, gMax [.int i, .int j] h = .ok (.int m) h := by
  unfold gMax orL g2I
  exact ⟨_, rfl⟩
theorem pot_ok (ns : List Int) (hl : ns.length ≤ 63) {k : Int} (k0 : 0 ≤ k) (k1 : k ≤ 10) (h : SH) (C : Cn h) : ∃ a b : Int, fe__law_pot [.fl (ns.map .int), .int k] h = .ok (.loc h.nx) (h.new (.lst [.int a, .int b])) := by
  have hs := sizeLine_eq
  have key : ∃ a b : Int, wp (fe__law_pot [.fl (ns.map .int), .int k] h) fun v h' => v = .loc h.nx ∧ h' = h.new (.lst [.int a, .int b]) := by
    unfold fe__law_pot fb__law_pot
    have v0 : ∀ z2 z3, fVar 0 [some (.fl (ns.map .int)), some (.int k), z2, z3] h = .ok (.fl (ns.map .int)) h := fun _ _ => rfl
    have v1 : ∀ z2 z3, fVar 1 [some (.fl (ns.map .int)), some (.int k), z2, z3] h = .ok (.int k) h := fun _ _ => rfl
    have e1 : fFz (fSl gSl (fVar 0) foN (foS (fC (.int 1)))) [some (.fl (ns.map .int)), some (.int k), none, none] h = .ok (.ls ((ns.take 1).map .int)) h := by
      have esl : gSl (.fl (ns.map SV.int)) none (some 1) h = .ok (.loc h.nx) (h.new (.lst ((ns.take 1).map .int))) := by
        rw [List.map_take]
        exact sl_fl_to _ 1 h
      exact fz_new C (sl_ok (v0 _ _) oN_ok (oS_ok c_ok) esl) (cl_ints _ _)
    obtain ⟨j, ej⟩ := abs_ok (ns.take 1).sum h
    have ii : ∀ (i : Int), gInt [.int i] h = .ok (.int i) h := fun _ => rfl
    have e2 := op_ok (g := gAdd) (op_ok (g := gAdd) (op_ok (g := gMulU) (c_ok (v := .int 839)) (v1 none none) (mulU_ok (by omega))) (c_ok (v := .int 431)) (add_int _ _ _)) (op_ok (g := gMod) (ca_ok (g := gInt) (faC_ok (ca_ok (g := gAbs) (faC_ok (ca_ok (g := gSum) (faC_ok e1 faN_ok) (sum_ints h)) faN_ok) ej) faN_ok) (ii j)) (c_ok (v := .int 1000003)) (mod_ok (by decide))) (add_int _ _ _)
    have hcell : ∀ sp : Int, ∃ cell : Int, fIf (fTst (fOp gLtU (fVar 1) (fCa gLen (faC (fVar 0) (faN))))) (fCa gAbs (faC (fOp gIx (fVar 0) (fVar 1)) (faN))) (fVar 2) [some (.fl (ns.map .int)), some (.int k), some (.int sp), none] h = .ok (.int cell) h := fun sp => by
      have t1 : fTst (fOp gLtU (fVar 1) (fCa gLen (faC (fVar 0) faN))) [some (.fl (ns.map .int)), some (.int k), some (.int sp), none] h = .ok (decide (k < ((ns.map SV.int).length : Nat))) h := tst_ok (op_ok (v1 _ _) (ca_ok (faC_ok (v0 _ _) faN_ok) (rfl : gLen [.fl (ns.map SV.int)] h = .ok (.int ((ns.map SV.int).length : Nat)) h)) (rel_int _ _ _ _ _))
      by_cases c : k < ((ns.map SV.int).length : Nat)
      · rw [decide_eq_true c] at t1
        have hk : k.toNat < (ns.map SV.int).length := by omega
        obtain ⟨i, hi⟩ : ∃ i : Int, (ns.map SV.int)[k.toNat]? = some (.int i) := by
          rw [List.length_map] at hk
          exact ⟨ns[k.toNat], by rw [List.getElem?_map, List.getElem?_eq_getElem hk]; rfl⟩
        have ei : gIx (.fl (ns.map SV.int)) (.int k) h = .ok (.int i) h := by
          have e : k = ((k.toNat : Nat) : Int) := by omega
          rw [e]
          unfold gIx items
          simp only [atI_nat hi]
        obtain ⟨m, em⟩ := abs_ok i h
        exact ⟨m, ifE_ok t1 (fun _ => ca_ok (faC_ok (op_ok (v0 _ _) (v1 _ _) ei) faN_ok) em) (fun z => by cases z)⟩
      · rw [decide_eq_false c] at t1
        exact ⟨sp, ifE_ok t1 (fun z => by cases z) (fun _ => var_ok rfl)⟩
    revert e2
    generalize (839 * k + 431 + j % 1000003) = sp
    intro e2
    obtain ⟨cell, e3⟩ := hcell sp
    have v3 : fVar 3 [some (.fl (ns.map .int)), some (.int k), some (.int sp), some (.int cell)] h = .ok (.int cell) h := rfl
    have epow : gPow (.int 10) (.int 18) h = .ok (.int (10 ^ 18)) h := rfl
    obtain ⟨m, em⟩ := max_ok 0 (cell - 10 ^ 18) h
    have a1 := ca_ok (g := gMax) (faC_ok (c_ok (v := .int 0)) (faC_ok (op_ok (g := gSub) v3 (op_ok (g := gPow) (c_ok (v := .int 10)) (c_ok (v := .int 18)) epow) rfl) faN_ok)) em
    have a2 := op_ok (g := gAdd) (op_ok (g := gMod) (ca_ok (g := gInt) (faC_ok (op_ok (g := gAdd) (op_ok (g := gAdd) (op_ok (g := gMulU) (op_ok (g := gMod) (ca_ok (g := gInt) (faC_ok v3 faN_ok) (ii cell)) (c_ok (v := .int 2147483579)) (mod_ok (by decide))) (c_ok (v := .int 40127)) (mulU_ok (by decide))) (op_ok (g := gMulU) (c_ok (v := .int 6329)) (v1 (some (.int sp)) (some (.int cell))) (mulU_ok (by omega))) (add_int _ _ _)) (c_ok (v := .int 431)) (add_int _ _ _)) faN_ok) (ii _)) (c_ok (v := .int 2147483563)) (mod_ok (by decide))) (c_ok (v := .int 1)) (add_int _ _ _)
    refine ⟨m, (cell % 2147483579 * 40127 + 6329 * k + 431) % 2147483563 + 1, ?_⟩
    apply wp_body
    (simp only [startS, List.map_cons, List.map_nil, List.length_cons, List.length_nil, List.replicate, List.cons_append, List.nil_append, Nat.reduceAdd, Nat.reduceSub])
    rw [wp_seq, wp_set, wp_eq e2, seqK_nx, wp_seq, wp_set]
    try simp only [List.set_cons_zero, List.set_cons_succ]
    rw [wp_eq e3, seqK_nx, wp_ret]
    try simp only [List.set_cons_zero, List.set_cons_succ]
    have el : fLst (faC (fCa gMax (faC (fC (.int 0)) (faC (fOp gSub (fVar 3) (fOp gPow (fC (.int 10)) (fC (.int 18)))) (faN)))) (faC (fOp gAdd (fOp gMod (fCa gInt (faC (fOp gAdd (fOp gAdd (fOp gMulU (fOp gMod (fCa gInt (faC (fVar 3) (faN))) (fC (.int 2147483579))) (fC (.int 40127))) (fOp gMulU (fC (.int 6329)) (fVar 1))) (fC (.int 431))) (faN))) (fC (.int 2147483563))) (fC (.int 1))) (faN))) [some (.fl (ns.map .int)), some (.int k), some (.int sp), some (.int cell)] h = .ok (.loc h.nx) (h.new (.lst [.int m, .int ((cell % 2147483579 * 40127 + 6329 * k + 431) % 2147483563 + 1)])) := by
      unfold fLst
      rw [faC_ok a1 (faC_ok a2 faN_ok), bok, if_pos (by show 2 ≤ _; omega)]
    rw [wp_eq el]
    exact ⟨rfl, rfl⟩
  obtain ⟨a, b, w⟩ := key
  exact ⟨a, b, w.eq⟩
theorem bl_all : ∀ {vs : List SV}, (∀ v ∈ vs, v = .bl true) → vs = (List.replicate vs.length true).map .bl
  | [], _ => rfl
  | v :: vs, k => by
    rw [List.length_cons, List.replicate_succ, List.map_cons, k v (List.mem_cons_self ..)]
    congr 1
    exact bl_all fun w hw => k w (List.mem_cons_of_mem _ hw)
end K11
/-! the law's own reading of the signs -/
namespace K11
open PySem Fv
def lx0 : FS := (fPar 4 5 (faC (fCall 2 fe__law_end (faC (fVar 0) (faC (fVar 3) (faN)))) (faC (fCall 2 fe__law_place (faC (fVar 0) (faC (fVar 3) (faN)))) (faN))))
def lx1 : FS := (fPar 6 7 (faC (fSl gSl (fVar 0) (foS (fVar 3)) (foS (fVar 4))) (faC (fSl gSl (fVar 0) (foS (fOp gSub (fVar 3) (fC (.int 1)))) (foS (fVar 3))) (faN))))
def lx2 : FS := (fSet 8 (fAnd (fOp (gEq true) (fVar 7) (fC (.str (("" : PySem.Str).cps.toList)))) (fOr (fAnd (fOp (gInD false) (fOp gIx (fVar 6) (fC (.int 0))) (fCall 0 fe__law_letters faN)) (fOp (gInD false) (fVar 7) (fCall 0 fe__law_digits faN))) (fAnd (fOp (gInD false) (fOp gIx (fVar 6) (fC (.int 0))) (fCall 0 fe__law_digits faN)) (fOp (gInD false) (fVar 7) (fCall 0 fe__law_letters faN))))))
def lx3 : FS := (fIfS (fTst (fOp (gInD true) (fOp gIx (fVar 6) (fC (.int 0))) (fOp gAdd (fOp gAdd (fOp gAdd (fCall 0 fe__law_letters faN) (fCall 0 fe__law_digits faN)) (fCall 0 fe__law_signs faN)) (fC (.str ((" \n" : PySem.Str).cps.toList)))))) (fDrop (fMt "list" gAppend (fVar 2) (faC (fOp gAdd (fTup (faC (fC (.str (("sign" : PySem.Str).cps.toList))) (faN))) (fVar 5)) (faN)))) (fNx))
def lx4 : FS := (fIfS (fAndT (fTst (fOp (gInD false) (fOp gIx (fVar 6) (fC (.int 0))) (fCall 0 fe__law_digits faN))) (fOrT (fTst (fOp gGtU (fCa gLen (faC (fVar 6) (faN))) (fC (.int 12)))) (fAndT (fTst (fOp (gEq false) (fOp gIx (fVar 6) (fC (.int 0))) (fC (.str (("0" : PySem.Str).cps.toList))))) (fTst (fOp gGtU (fCa gLen (faC (fVar 6) (faN))) (fC (.int 1))))))) (fDrop (fMt "list" gAppend (fVar 2) (faC (fOp gAdd (fTup (faC (fC (.str (("numeral" : PySem.Str).cps.toList))) (faN))) (fVar 5)) (faN)))) (fNx))
def lx5 : FS := (fIfS (fOrT (fAndT (fTst (fOp (gInD false) (fOp gIx (fVar 6) (fC (.int 0))) (fCall 0 fe__law_letters faN))) (fTst (fOp gGtU (fCa gLen (faC (fVar 6) (faN))) (fC (.int 8))))) (fTru (fVar 8))) (fDrop (fMt "list" gAppend (fVar 2) (faC (fOp gAdd (fTup (faC (fC (.str (("word" : PySem.Str).cps.toList))) (faN))) (fVar 5)) (faN)))) (fNx))
def lx6 : FS := (fIfS (fTst (fOp (gInD false) (fOp gIx (fVar 6) (fC (.int 0))) (fOp gAdd (fOp gAdd (fCall 0 fe__law_letters faN) (fCall 0 fe__law_digits faN)) (fCall 0 fe__law_signs faN)))) (fDrop (fMt "list" gAppend (fVar 1) (faC (fTup (faC (fVar 6) (faC (fVar 5) (faN)))) (faN)))) (fNx))
def lx7 : FS := (fSet 3 (fVar 4))
def lxB : FS := fSeq lx0 (fSeq lx1 (fSeq lx2 (fSeq lx3 (fSeq lx4 (fSeq lx5 (fSeq lx6 (lx7)))))))
def HB (h : SH) (xs ys : List SV) : SH := (h.new (.lst xs)).new (.lst ys)
theorem HB_cn {h : SH} (C : Cn h) {xs ys : List SV} (c1 : ∀ n, clL n xs = true) (c2 : ∀ n, clL n ys = true) : Cn (HB h xs ys) := (C.newL (c1 _)).newL (c2 _)
theorem HB_get1 (h : SH) (xs ys : List SV) : (HB h xs ys).get h.nx = some (.lst xs) := by
  unfold HB
  rw [SH.get_new_lt (by rw [SH.nx_new]; omega), get_new_same]
theorem HB_get2 (h : SH) (xs ys : List SV) : (HB h xs ys).get (h.nx + 1) = some (.lst ys) := by
  unfold HB
  have : (h.new (.lst xs)).nx = h.nx + 1 := SH.nx_new _ _
  rw [← this, get_new_same]
theorem HB_if1 (h : SH) (xs ys : List SV) (v : SV) (b : Bool) : (if b then (HB h xs ys).set h.nx (.lst (xs ++ [v])) else HB h xs ys) = HB h (xs ++ if b then [v] else []) ys := by
  cases b with
  | false => simp
  | true =>
    simp only [if_true]
    unfold HB
    rw [SH.set_new (by rw [SH.nx_new]; omega), SH.new_set]
theorem HB_if2 (h : SH) (xs ys : List SV) (v : SV) (b : Bool) : (if b then (HB h xs ys).set (h.nx + 1) (.lst (ys ++ [v])) else HB h xs ys) = HB h xs (ys ++ if b then [v] else []) := by
  cases b with
  | false => simp
  | true =>
    simp only [if_true]
    unfold HB
    have : (h.new (.lst xs)).nx = h.nx + 1 := SH.nx_new _ _
    rw [← this, SH.new_set]
def hdk (w : Tx) : Bool := match w with
  | [] => false
  | c :: _ => isL c || (isD c || isG c)
/-- all faults, in order -/
def fau (cs : List Ct) : List (Tx × Nat) := cs.flatMap fun x => (wr x.2.1 x.2.2).map fun w => (w, x.1)
def fndL (cs : List Ct) : List Ct := cs.filter fun x => hdk x.2.2
def fpV (t : Tx) (f : Tx × Nat) : SV := faultV t (some f)
theorem cl_fps (n : Nat) (t : Tx) (fs : List (Tx × Nat)) : clL n (fs.map (fpV t)) = true := clL_map _ _ _ fun _ _ => rfl
theorem pre1 {t : Tx} {a : Nat} (hl : t.length < 100000) (ha : a < t.length) (h : SH) : gSl (.str t) (some ((a : Int) - 1)) (some (a : Int)) h = .ok (.str (bef t a).toList) h := by
  have hs := sizeLine_eq
  unfold bef
  by_cases h0 : a = 0
  · subst h0
    rw [if_pos rfl]
    have e : gSl (.str t) (some (((0 : Nat) : Int) - 1)) (some ((0 : Nat) : Int)) h = if t.length ≤ sizeLine then .ok (.str (cutL t (some (((0 : Nat) : Int) - 1)) (some ((0 : Nat) : Int)))) h else .bad := rfl
    rw [e, if_pos (by omega)]
    congr 2
    unfold cutL
    have : HT.sIx t.length t.length (some ((0 : Nat) : Int)) = 0 := by rw [sIx_nat]; simp
    rw [this]
    simp
  · rw [if_neg h0]
    have e : (a : Int) - 1 = ((a - 1 : Nat) : Int) := by omega
    have e2 : a - (a - 1) = 1 := by omega
    rw [e, sl_str (by omega), e2]
    have h1 : t[a - 1]? = some t[a - 1] := List.getElem?_eq_getElem (by omega)
    rw [h1]
    congr 2
    rw [List.drop_eq_getElem_cons (by omega : a - 1 < t.length), List.take_succ_cons, List.take_zero]
    rfl
theorem in_all (c : Nat) : decide (c ∈ [97,98,99,100,101,102,103,104,105,106,107,108,109,110,111,112,113,114,115,116,117,118,119,120,121,122] ++ [48, 49, 50, 51, 52, 53, 54, 55, 56, 57] ++ sgL) = (isL c || (isD c || isG c)) := by
  rw [← in_lets, ← in_digs, ← in_sgns]
  by_cases h1 : c ∈ [97,98,99,100,101,102,103,104,105,106,107,108,109,110,111,112,113,114,115,116,117,118,119,120,121,122]
  · rw [decide_eq_true h1, decide_eq_true (List.mem_append.mpr (.inl (List.mem_append.mpr (.inl h1))))]
    rfl
  · by_cases h2 : c ∈ [48, 49, 50, 51, 52, 53, 54, 55, 56, 57]
    · rw [decide_eq_true h2, decide_eq_false h1, decide_eq_true (List.mem_append.mpr (.inl (List.mem_append.mpr (.inr h2))))]
      rfl
    · by_cases h3 : c ∈ sgL
      · rw [decide_eq_true h3, decide_eq_false h1, decide_eq_false h2, decide_eq_true (List.mem_append.mpr (.inr h3))]
        rfl
      · rw [decide_eq_false h1, decide_eq_false h2, decide_eq_false h3, decide_eq_false fun z => ?_]
        · rfl
        · rcases List.mem_append.mp z with z | z
          · rcases List.mem_append.mp z with z | z
            · exact h1 z
            · exact h2 z
          · exact h3 z
theorem in_all2 (c : Nat) : decide (c ∈ [97,98,99,100,101,102,103,104,105,106,107,108,109,110,111,112,113,114,115,116,117,118,119,120,121,122] ++ [48, 49, 50, 51, 52, 53, 54, 55, 56, 57] ++ sgL ++ [32, 10]) = (isL c || (isD c || (isG c || isB c))) := by
  have e1 := in_all c
  have e2 := in_blk c
  by_cases h1 : c ∈ [97,98,99,100,101,102,103,104,105,106,107,108,109,110,111,112,113,114,115,116,117,118,119,120,121,122] ++ [48, 49, 50, 51, 52, 53, 54, 55, 56, 57] ++ sgL
  · rw [decide_eq_true h1] at e1
    rw [decide_eq_true (List.mem_append.mpr (.inl h1))]
    cases hL : isL c <;> cases hD : isD c <;> cases hG : isG c <;> first | rfl | (rw [hL, hD, hG] at e1; cases e1)
  · rw [decide_eq_false h1] at e1
    have hx : (isL c || (isD c || isG c)) = false := e1.symm
    simp only [Bool.or_eq_false_iff] at hx
    obtain ⟨hL, hD, hG⟩ := hx
    rw [hL, hD, hG, ← e2]
    by_cases h2 : c ∈ [32, 10]
    · rw [decide_eq_true h2, decide_eq_true (List.mem_append.mpr (.inr h2))]
      rfl
    · rw [decide_eq_false h2, decide_eq_false fun z => ?_]
      · rfl
      · rcases List.mem_append.mp z with z | z
        · exact h1 z
        · exact h2 z
theorem lets_c (η : Sl) (h : SH) : fCall 0 fe__law_letters faN η h = .ok (.str [97,98,99,100,101,102,103,104,105,106,107,108,109,110,111,112,113,114,115,116,117,118,119,120,121,122]) h := rfl
theorem digs_c (η : Sl) (h : SH) : fCall 0 fe__law_digits faN η h = .ok (.str [48, 49, 50, 51, 52, 53, 54, 55, 56, 57]) h := rfl
theorem all_c (η : Sl) (h : SH) : fOp gAdd (fOp gAdd (fCall 0 fe__law_letters faN) (fCall 0 fe__law_digits faN)) (fCall 0 fe__law_signs faN) η h = .ok (.str ([97,98,99,100,101,102,103,104,105,106,107,108,109,110,111,112,113,114,115,116,117,118,119,120,121,122] ++ [48, 49, 50, 51, 52, 53, 54, 55, 56, 57] ++ sgL)) h := by
  refine op_ok (op_ok (lets_c _ _) (digs_c _ _) (add_str (by decide) h)) rfl (add_str (by decide) h)
theorem all2_c (η : Sl) (h : SH) : fOp gAdd (fOp gAdd (fOp gAdd (fCall 0 fe__law_letters faN) (fCall 0 fe__law_digits faN)) (fCall 0 fe__law_signs faN)) (fC (.str ((" \n" : PySem.Str).cps.toList))) η h = .ok (.str ([97,98,99,100,101,102,103,104,105,106,107,108,109,110,111,112,113,114,115,116,117,118,119,120,121,122] ++ [48, 49, 50, 51, 52, 53, 54, 55, 56, 57] ++ sgL ++ [32, 10])) h := by
  refine op_ok (all_c _ _) rfl (add_str (by decide) h)
theorem orE_b {a b : F} {η : Sl} {h : SH} {x y : Bool} (e : a η h = .ok (.bl x) h) (e2 : x = false → b η h = .ok (.bl y) h) : fOr a b η h = .ok (.bl (x || y)) h := by
  unfold fOr
  rw [e, bok]
  cases x with
  | true => rfl
  | false => simp [truS, bok, e2 rfl]
theorem seq_ok {a b : FS} {η η1 : Sl} {h h1 : SH} {o : Out Fl} (e : a η h = .ok (.nx η1) h1) (e2 : b η1 h1 = o) : fSeq a b η h = o := by
  unfold fSeq
  rw [e, bok]
  exact e2
theorem item_ok {i : Nat} {η : Sl} {h : SH} {s : Tx} {t : Tx} {a : Nat} (es : slot η i = some (plV (plA t a))) : fOp gAdd (fTup (faC (fC (.str s)) faN)) (fVar i) η h = .ok (fpV t (s, a)) h := by
  have hs := sizeLine_eq
  refine op_ok (tup_ok (faC_ok c_ok faN_ok) (by simp; omega)) (var_ok es) ?_
  show gAdd (.tup [.str s]) (plV (plA t a)) h = _
  unfold gAdd
  have : [SV.str s].length + [SV.int ((plA t a).1 : Nat), .int ((plA t a).2 : Nat)].length ≤ sizeLine := by simp; omega
  unfold plV
  simp only
  rw [if_pos this]
  rfl
theorem lex_step {t : Tx} {a c : Nat} {r : Tx} {z4 z5 z6 z7 z8 : Option SV} {h : SH} {F G : List SV} (hl : t.length < 100000) (hu : t.drop a = c :: r) (hF : F.length ≤ 200000) (hG : G.length ≤ 400000) :
    lxB [some (.str t), some (.loc h.nx), some (.loc (h.nx + 1)), some (.int (a : Int)), z4, z5, z6, z7, z8] (HB h F G) =
      .ok (.nx [some (.str t), some (.loc h.nx), some (.loc (h.nx + 1)), some (.int ((a + (tokN (c :: r)).length : Nat) : Int)), some (.int ((a + (tokN (c :: r)).length : Nat) : Int)), some (plV (plA t a)), some (.str (tokN (c :: r))), some (.str (bef t a).toList), some (.bl (side (bef t a) c))])
        (HB h (F ++ if hdk (tokN (c :: r)) then [kpV t (a, bef t a, tokN (c :: r))] else []) (G ++ (wr (bef t a) (tokN (c :: r))).map fun w => fpV t (w, a))) := by
  have hs := sizeLine_eq
  have ec := drop_at hu
  have ha := (List.getElem?_eq_some_iff.mp ec).1
  obtain ⟨s, et⟩ := tok_cons c r
  have hw1 : (tokN (c :: r)).length ≤ (c :: r).length := tok_len _
  have hw2 : (c :: r).length = t.length - a := by rw [← hu, List.length_drop]
  have hwl : (c :: s).length < 100000 := by rw [← et]; omega
  unfold lxB
  have s0 : lx0 [some (.str t), some (.loc h.nx), some (.loc (h.nx + 1)), some (.int (a : Int)), z4, z5, z6, z7, z8] (HB h F G) = .ok (.nx [some (.str t), some (.loc h.nx), some (.loc (h.nx + 1)), some (.int (a : Int)), some (.int ((a + (tokN (c :: r)).length : Nat) : Int)), some (plV (plA t a)), z6, z7, z8]) (HB h F G) := by
    unfold lx0 fPar
    rw [faC_ok (call2_ok (var_ok rfl) (var_ok rfl) (law_end_ok t a c r hl hu _)) (faC_ok (call2_ok (var_ok rfl) (var_ok rfl) (law_place_ok t a hl (by omega) _)) faN_ok), bok]
    rfl
  have s1 : lx1 [some (.str t), some (.loc h.nx), some (.loc (h.nx + 1)), some (.int (a : Int)), some (.int ((a + (tokN (c :: r)).length : Nat) : Int)), some (plV (plA t a)), z6, z7, z8] (HB h F G) = .ok (.nx [some (.str t), some (.loc h.nx), some (.loc (h.nx + 1)), some (.int (a : Int)), some (.int ((a + (tokN (c :: r)).length : Nat) : Int)), some (plV (plA t a)), some (.str (tokN (c :: r))), some (.str (bef t a).toList), z8]) (HB h F G) := by
    unfold lx1 fPar
    have e1 : gSl (.str t) (some (a : Int)) (some ((a + (tokN (c :: r)).length : Nat) : Int)) (HB h F G) = .ok (.str (tokN (c :: r))) (HB h F G) := by
      rw [sl_str (by omega), hu, Nat.add_sub_cancel_left]
      congr 2
      have h3 : c :: r = tokN (c :: r) ++ (c :: r).drop (tokN (c :: r)).length := tok_pre (c :: r)
      generalize tokN (c :: r) = w at h3
      rw [h3, List.take_left]
    rw [faC_ok (sl_ok (var_ok rfl) (oS_ok (var_ok rfl)) (oS_ok (var_ok rfl)) e1) (faC_ok (sl_ok (var_ok rfl) (oS_ok (op_ok (g := gSub) (var_ok rfl) c_ok rfl)) (oS_ok (var_ok rfl)) (pre1 hl ha _)) faN_ok), bok]
    rfl
  have s2 : lx2 [some (.str t), some (.loc h.nx), some (.loc (h.nx + 1)), some (.int (a : Int)), some (.int ((a + (tokN (c :: r)).length : Nat) : Int)), some (plV (plA t a)), some (.str (tokN (c :: r))), some (.str (bef t a).toList), z8] (HB h F G) = .ok (.nx [some (.str t), some (.loc h.nx), some (.loc (h.nx + 1)), some (.int (a : Int)), some (.int ((a + (tokN (c :: r)).length : Nat) : Int)), some (plV (plA t a)), some (.str (tokN (c :: r))), some (.str (bef t a).toList), some (.bl (side (bef t a) c))]) (HB h F G) := by
    rw [et]
    unfold lx2 fSet
    cases bef t a with
    | none =>
      rw [show (fAnd _ _ : Fv.F) _ _ = .ok (.bl (side none c)) (HB h F G) from and_ok (k := false) (op_ok (var_ok rfl) c_ok (eq_str _ _ true _)) (fun z => by cases z) fun _ => rfl, bok]
      rfl
    | some d =>
      have i6 : ∀ z8, fOp gIx (fVar 6) (fC (.int 0)) [some (.str t), some (.loc h.nx), some (.loc (h.nx + 1)), some (.int (a : Int)), some (.int ((a + (c :: s).length : Nat) : Int)), some (plV (plA t a)), some (.str (c :: s)), some (.str (some d : Option Nat).toList), z8] (HB h F G) = .ok (.str [c]) (HB h F G) := fun _ => ix_at rfl hwl
      have q1 := fun z8 => andE_b (op_ok (i6 z8) (lets_c _ _) (in_sign c _ _)) fun _ => op_ok (g := gInD false) (var_ok (i := 7) (v := .str [d]) rfl) (digs_c _ _) (in_sign d _ _)
      have q2 := fun z8 => andE_b (op_ok (i6 z8) (digs_c _ _) (in_sign c _ _)) fun _ => op_ok (g := gInD false) (var_ok (i := 7) (v := .str [d]) rfl) (lets_c _ _) (in_sign d _ _)
      rw [show (fAnd _ _ : Fv.F) _ _ = .ok (.bl (side (some d) c)) (HB h F G) from and_ok (k := true) (op_ok (var_ok rfl) c_ok (eq_str _ _ true _)) (fun _ => (orE_b (q1 z8) fun _ => q2 z8).trans (by rw [in_lets, in_digs, in_digs, in_lets]; rfl)) (fun z => by cases z), bok]
      rfl
  refine seq_ok s0 (seq_ok s1 (seq_ok s2 ?_))
  rw [et]
  generalize hE : a + (c :: s).length = E
  have hW : wr (bef t a) (c :: s) = (if bSig (c :: s) then [sSig] else []) ++ ((if bNum (c :: s) then [sNum] else []) ++ (if bWrd (bef t a) (c :: s) then [sWrd] else [])) := rfl
  have hW2 : (wr (bef t a) (c :: s)).map (fun w => fpV t (w, a)) = (if bSig (c :: s) then [fpV t (sSig, a)] else []) ++ ((if bNum (c :: s) then [fpV t (sNum, a)] else []) ++ (if bWrd (bef t a) (c :: s) then [fpV t (sWrd, a)] else [])) := by
    rw [hW, List.map_append, List.map_append]
    cases bSig (c :: s) <;> cases bNum (c :: s) <;> cases bWrd (bef t a) (c :: s) <;> rfl
  rw [hW2]
  generalize hη : [some (SV.str t), some (SV.loc h.nx), some (SV.loc (h.nx + 1)), some (SV.int (a : Int)), some (SV.int (E : Int)), some (plV (plA t a)), some (SV.str (c :: s)), some (SV.str (bef t a).toList), some (SV.bl (side (bef t a) c))] = η
  have n1 : slot η 1 = some (.loc h.nx) := by rw [← hη]; rfl
  have n2 : slot η 2 = some (.loc (h.nx + 1)) := by rw [← hη]; rfl
  have n5 : slot η 5 = some (plV (plA t a)) := by rw [← hη]; rfl
  have n6 : slot η 6 = some (.str (c :: s)) := by rw [← hη]; rfl
  have n8 : slot η 8 = some (.bl (side (bef t a) c)) := by rw [← hη]; rfl
  have k3 : ∀ F G, G.length < sizeLine → lx3 η (HB h F G) = .ok (.nx η) (HB h F (G ++ if bSig (c :: s) then [fpV t (sSig, a)] else [])) := fun F G hg => by
    unfold lx3
    rw [c_sig, ap_if (b := bSig (c :: s)) ?_ n2 (HB_get2 h F G) hg (item_ok n5), HB_if2]
    have : bSig (c :: s) = !decide (c ∈ [97,98,99,100,101,102,103,104,105,106,107,108,109,110,111,112,113,114,115,116,117,118,119,120,121,122] ++ [48, 49, 50, 51, 52, 53, 54, 55, 56, 57] ++ sgL ++ [32, 10]) := by rw [in_all2]; rfl
    rw [this]
    exact tst_ok (op_ok (ix_at n6 hwl) (all2_c _ _) (notin_sign _ _ _))
  have k4 : ∀ F G, G.length < sizeLine → lx4 η (HB h F G) = .ok (.nx η) (HB h F (G ++ if bNum (c :: s) then [fpV t (sNum, a)] else [])) := fun F G hg => by
    unfold lx4
    rw [c_num, ap_if (b := bNum (c :: s)) ?_ n2 (HB_get2 h F G) hg (item_ok n5), HB_if2]
    rw [bNum_c, ← in_digs]
    have e2 : decide (c = 48) = decide ([c] = [48]) := by by_cases hc : c = 48 <;> simp [hc]
    rw [e2]
    exact and_b (tst_ok (op_ok (ix_at n6 hwl) (digs_c _ _) (in_sign _ _ _))) fun _ => or_b (gt_at 12 n6 hwl) fun _ => and_b (tst_ok (op_ok (ix_at n6 hwl) c_ok (eq_str _ _ false _))) fun _ => gt_at 1 n6 hwl
  have k5 : ∀ F G, G.length < sizeLine → lx5 η (HB h F G) = .ok (.nx η) (HB h F (G ++ if bWrd (bef t a) (c :: s) then [fpV t (sWrd, a)] else [])) := fun F G hg => by
    unfold lx5
    rw [c_wrd, ap_if (b := bWrd (bef t a) (c :: s)) ?_ n2 (HB_get2 h F G) hg (item_ok n5), HB_if2]
    have : bWrd (bef t a) (c :: s) = ((decide (c ∈ [97,98,99,100,101,102,103,104,105,106,107,108,109,110,111,112,113,114,115,116,117,118,119,120,121,122]) && decide (8 < (c :: s).length)) || side (bef t a) c) := by rw [in_lets]; rfl
    rw [this]
    exact or_b (and_b (tst_ok (op_ok (ix_at n6 hwl) (lets_c _ _) (in_sign _ _ _))) fun _ => gt_at 8 n6 hwl) fun _ => tru_ok (var_ok n8)
  have k6 : ∀ F G, F.length < sizeLine → lx6 η (HB h F G) = .ok (.nx η) (HB h (F ++ if hdk (c :: s) then [kpV t (a, bef t a, c :: s)] else []) G) := fun F G hg => by
    unfold lx6
    rw [ap_if (b := hdk (c :: s)) ?_ n1 (HB_get1 h F G) hg (tup_ok (faC_ok (var_ok n6) (faC_ok (var_ok n5) faN_ok)) (by simp; omega)), HB_if1]
    · rfl
    · have : hdk (c :: s) = decide (c ∈ [97,98,99,100,101,102,103,104,105,106,107,108,109,110,111,112,113,114,115,116,117,118,119,120,121,122] ++ [48, 49, 50, 51, 52, 53, 54, 55, 56, 57] ++ sgL) := by rw [in_all]; rfl
      rw [this]
      exact tst_ok (op_ok (ix_at n6 hwl) (all_c _ _) (in_sign _ _ _))
  have k7 : ∀ H, lx7 η H = .ok (.nx (η.set 3 (some (.int (E : Int))))) H := fun H => by
    unfold lx7 fSet
    rw [var_ok (v := .int (E : Int)) (by rw [← hη]; rfl), bok]
  refine seq_ok (k3 F G (by omega)) (seq_ok (k4 F _ (by rw [List.length_append]; split <;> simp <;> omega)) (seq_ok (k5 F _ (by rw [List.length_append, List.length_append]; split <;> split <;> simp <;> omega)) (seq_ok (k6 F _ (by omega)) ((k7 _).trans ?_))))
  rw [← hη]
  simp only [List.append_assoc, List.set_cons_succ, List.set_cons_zero]
end K11
/-! the law's own reading, whole; the first fault -/
namespace K11
open PySem Fv
theorem fau_cons (x : Ct) (cs : List Ct) : fau (x :: cs) = (wr x.2.1 x.2.2).map (fun w => (w, x.1)) ++ fau cs := by
  unfold fau
  rw [List.flatMap_cons]
theorem fndL_cons (x : Ct) (cs : List Ct) : fndL (x :: cs) = (if hdk x.2.2 then [x] else []) ++ fndL cs := by
  unfold fndL
  rw [List.filter_cons]
  cases hdk x.2.2 <;> rfl
theorem wr_len (p : Option Nat) (w : Tx) : (wr p w).length ≤ 3 := by
  unfold wr
  rw [List.length_append, List.length_append]
  split <;> split <;> split <;> simp
theorem law_lex_ok (t : Tx) (hl : t.length ≤ 4000) (h : SH) (C : Cn h) : fe__law_lex [.str t] h = .ok (.tup [.loc h.nx, .loc (h.nx + 1)]) (HB h ((fndL (cuts none 0 t)).map (kpV t)) ((fau (cuts none 0 t)).map (fpV t))) := by
  refine wp.eqP fun P hP => ?_
  unfold fe__law_lex fb__law_lex
  have hs := sizeLine_eq
  apply wp_body
  simp only [startS, List.map_cons, List.map_nil, List.length_cons, List.length_nil, List.replicate, List.cons_append, List.nil_append, Nat.reduceAdd, Nat.reduceSub]
  rw [wp_seq]
  have e0 : fPar3 1 2 3 (faC (fLst faN) (faC (fLst faN) (faC (fC (.int 0)) faN))) [some (.str t), none, none, none, none, none, none, none, none] h = .ok (.nx [some (.str t), some (.loc h.nx), some (.loc (h.nx + 1)), some (.int ((0 : Nat) : Int)), none, none, none, none, none]) (HB h [] []) := by
    have z : (0 : Nat) ≤ sizeLine := by omega
    unfold fPar3 faC fLst faN fC
    simp only [bok, List.length_nil, z, if_true, SH.nx_new]
    rfl
  rw [wp_eq e0, seqK_nx, wp_seq]
  refine wp_while (fun m η h' => ∃ (a : Nat) (u : Tx) (z4 z5 z6 z7 z8 : Option SV) (fs : List Ct) (gs : List (Tx × Nat)), t.drop a = u ∧ a + u.length = t.length ∧ m = u.length ∧ fs ++ fndL (cuts (bef t a) a u) = fndL (cuts none 0 t) ∧ gs ++ fau (cuts (bef t a) a u) = fau (cuts none 0 t) ∧ fs.length ≤ a ∧ gs.length ≤ 3 * a ∧
      η = [some (.str t), some (.loc h.nx), some (.loc (h.nx + 1)), some (.int (a : Int)), z4, z5, z6, z7, z8] ∧ h' = HB h (fs.map (kpV t)) (gs.map (fpV t))) t.length (by omega) ⟨0, t, none, none, none, none, none, [], [], rfl, by omega, rfl, rfl, rfl, Nat.le_refl _, Nat.le_refl _, rfl, rfl⟩ ?_
  rintro m η h' ⟨a, u, z4, z5, z6, z7, z8, fs, gs, hu, hau, hm, hf, hg, hfl, hgl, rfl, rfl⟩
  have ect : fTst (fOp gLtU (fVar 3) (fCa gLen (faC (fVar 0) (faN)))) [some (.str t), some (.loc h.nx), some (.loc (h.nx + 1)), some (.int (a : Int)), z4, z5, z6, z7, z8] (HB h (fs.map (kpV t)) (gs.map (fpV t))) = .ok (decide ((a : Int) < (t.length : Int))) (HB h (fs.map (kpV t)) (gs.map (fpV t))) :=
    tst_ok (op_ok (var_ok rfl) (len_at rfl (by omega)) (rel_int _ _ _ _ _))
  rw [wp_eq ect]
  cases u with
  | nil =>
    rw [cuts_nil] at hf hg
    have hf : fs = fndL (cuts none 0 t) := by simpa [fndL] using hf
    have hg : gs = fau (cuts none 0 t) := by simpa [fau] using hg
    rw [hf, hg]
    simp at hau
    rw [decide_eq_false (by omega)]
    refine ⟨fun _ => ?_, fun z => absurd z (by simp)⟩
    rw [seqK_nx, wp_seq]
    have e4 : fTst (fOp gGtU (fCa gLen (faC (fVar 0) (faN))) (fC (.int 4000))) [some (.str t), some (.loc h.nx), some (.loc (h.nx + 1)), some (.int (a : Int)), z4, z5, z6, z7, z8] (HB h ((fndL (cuts none 0 t)).map (kpV t)) ((fau (cuts none 0 t)).map (fpV t))) = .ok false (HB h ((fndL (cuts none 0 t)).map (kpV t)) ((fau (cuts none 0 t)).map (fpV t))) := by
      have e5 := gt_at (i := 0) (η := [some (.str t), some (.loc h.nx), some (.loc (h.nx + 1)), some (.int (a : Int)), z4, z5, z6, z7, z8]) (h := HB h ((fndL (cuts none 0 t)).map (kpV t)) ((fau (cuts none 0 t)).map (fpV t))) (s := t) 4000 rfl (by omega)
      rw [decide_eq_false (by omega)] at e5
      exact e5
    rw [wp_if_f e4, wp_nx, seqK_nx, wp_ret, wp_eq (tup_ok (faC_ok (var_ok rfl) (faC_ok (var_ok rfl) faN_ok)) (by simp; omega))]
    exact hP
  | cons c r =>
    have hau2 := hau
    simp at hau2
    rw [decide_eq_true (by omega)]
    refine ⟨fun z => absurd z (by simp), fun _ => ?_⟩
    have ls := lex_step (z4 := z4) (z5 := z5) (z6 := z6) (z7 := z7) (z8 := z8) (h := h) (F := fs.map (kpV t)) (G := gs.map (fpV t)) (by omega) hu (by simp; omega) (by simp; omega)
    rw [cuts_ne (u := c :: r) (by simp), fndL_cons] at hf
    rw [cuts_ne (u := c :: r) (by simp), fau_cons] at hg
    obtain ⟨s, et⟩ := tok_cons c r
    have hlen2 := tok_len (c :: r)
    have h1 : 1 ≤ (tokN (c :: r)).length := by rw [et]; simp
    refine wp_of ls ?_
    rw [← bef_next hu (by omega) (by simp)] at hf hg
    refine ⟨((c :: r).drop (tokN (c :: r)).length).length, by rw [hm, List.length_drop]; simp at hlen2 ⊢; omega, a + (tokN (c :: r)).length, (c :: r).drop (tokN (c :: r)).length, _, _, _, _, _, fs ++ (if hdk (tokN (c :: r)) then [(a, bef t a, tokN (c :: r))] else []), gs ++ (wr (bef t a) (tokN (c :: r))).map (fun w => (w, a)), ?_, ?_, rfl, by rw [List.append_assoc]; exact hf, by rw [List.append_assoc]; exact hg, ?_, ?_, rfl, ?_⟩
    · rw [← List.drop_drop, hu]
    · rw [List.length_drop]
      omega
    · rw [List.length_append]
      split <;> simp <;> omega
    · rw [List.length_append, List.length_map]
      have := wr_len (bef t a) (tokN (c :: r))
      omega
    · rw [List.map_append, List.map_append, List.map_map]
      congr 2
      split <;> rfl
end K11
/-! the first fault -/
namespace K11
open PySem Fv
theorem eq_nilG {k : Nat} {xs : List SV} (neg : Bool) (h : SH) (e : xs.all (dvB k) = true) (l : k ≤ 58) : gEq neg (.ls xs) (.ls []) h = .ok (.bl (if neg then !xs.isEmpty else xs.isEmpty)) h := by
  refine eq_dv (k := k + 1) neg h (by unfold dvB; exact e) (by rfl) (by omega) rfl ?_
  unfold pd
  cases xs <;> simp [PyData.eqv, PyData.eqvAll]
theorem eq_pl (p q : Pl) (h : SH) : gEq false (plV p) (plV q) h = .ok (.bl (decide (p = q))) h := by
  refine (eq_dv (k := 1) (b := decide (p = q)) false h rfl rfl (by omega) rfl ?_).trans rfl
  unfold plV pd
  simp only [List.map_cons, List.map_nil, pd, PyData.eqv, PyData.eqvAll]
  obtain ⟨a, b⟩ := p
  obtain ⟨c, d⟩ := q
  by_cases h1 : a = c <;> by_cases h2 : b = d <;> simp [h1, h2] <;> omega
theorem cut1 (x : SV) (xs : List SV) (h : SH) : gSl (.tup (x :: xs)) (some 1) none h = .ok (.tup xs) h := by
  unfold gSl
  simp only
  have := cutL_from (x :: xs) 1
  have this : cutL (x :: xs) (some 1) none = (x :: xs).drop 1 := this
  rw [this]
  rfl
theorem plA_inj {t : Tx} {a b : Nat} (ha : a ≤ t.length) (hb : b ≤ t.length) (e : plA t a = plA t b) : a = b := by
  by_cases h1 : a < b
  · have := plA_mono h1 hb
    rw [e] at this
    exact absurd this (ltP.irr _)
  · by_cases h2 : b < a
    · have := plA_mono h2 ha
      rw [e] at this
      exact absurd this (ltP.irr _)
    · omega
theorem lt_pl {t : Tx} {a b : Nat} (ha : a ≤ t.length) (hb : b ≤ t.length) : ltP (plA t a) (plA t b) ↔ a < b := by
  constructor
  · intro h
    by_cases h1 : a < b
    · exact h1
    · by_cases h2 : b < a
      · exact absurd (plA_mono h2 ha) h.asymm
      · have : a = b := by omega
        subst this
        exact absurd h (ltP.irr _)
  · exact fun h => plA_mono h hb
def ipl (p : Pl) : Int × Int := ((p.1 : Nat), (p.2 : Nat))
theorem ord_gs {t : Tx} {gs : List (Tx × Nat)} (h1 : ∀ g ∈ gs, g.2 ≤ t.length) (h2 : gs.Pairwise fun x y => x.2 ≤ y.2) : OrdQ (gs.map fun g => ipl (plA t g.2)) := by
  unfold OrdQ
  refine List.pairwise_map.mpr ((List.Pairwise.and_mem.mp h2).imp ?_)
  rintro x y ⟨hx, hy, hxy⟩
  refine ltQ_no.mpr ?_
  unfold ipl
  simp only
  by_cases he : x.2 = y.2
  · rw [he]
    omega
  · have := plA_mono (t := t) (a := x.2) (b := y.2) (by omega) (h1 y hy)
    unfold ltP at this
    omega
theorem mapO_pairs {α : Type} (f : α → Pl) : ∀ gs : List α, mapO pairI (gs.map fun g => plV (f g)) = some (gs.map fun g => ipl (f g)) 
  | [] => rfl
  | g :: gs => by
    rw [List.map_cons, List.map_cons]
    unfold mapO
    rw [mapO_pairs f gs]
    rfl
theorem it_ls {i : Nat} {η : Sl} {h : SH} {xs : List SV} (e : slot η i = some (.ls xs)) : fiAny (fVar i) η h = .ok (.fl xs) h := by
  unfold fiAny fVar
  rw [e]
  rfl
def frstV (t : Tx) (gs : List (Tx × Nat)) : SV := match gs with
  | [] => .tup [.bl true, .non]
  | g :: _ => .tup [.bl (decide ((gs.filter fun x => decide (x.2 = g.2)).length = 1)), fpV t g]
theorem law_first_ok (t : Tx) (gs : List (Tx × Nat)) (h1 : ∀ g ∈ gs, g.2 ≤ t.length) (h2 : gs.Pairwise fun x y => x.2 ≤ y.2) (hl : gs.length ≤ 100000) (h : SH) (C : Cn h) : fe__law_first [.ls (gs.map (fpV t))] h = .ok (frstV t gs) h := by
  unfold fe__law_first fb__law_first
  have hs := sizeLine_eq
  refine wp.eqP fun P hP => ?_
  apply wp_body
  (simp only [startS, List.map_cons, List.map_nil, List.length_cons, List.length_nil, List.replicate, List.cons_append, List.nil_append, Nat.reduceAdd, Nat.reduceSub])
  rw [wp_seq, wp_set]
  have e1 : fFz (fLc (fiAny (fVar 0)) (gtName 3) (fun _ h => .ok true h) (fSl gSl (fVar 3) (foS (fC (.int 1))) (foN)) [3]) [some (.ls (gs.map (fpV t))), none, none, none] h = .ok (.ls (gs.map fun g => plV (plA t g.2))) h :=
    fz_lc1 (i := 3) gs (fpV t) (fun g => plV (plA t g.2)) C (it_ls rfl) rfl (by omega) (fun g _ h' _ => sl_ok (var_ok rfl) (oS_ok c_ok) oN_ok (cut1 _ _ _)) (fun _ _ => rfl)
  have e2 : fFz (fCa gSortQ (faC (fFz (fLc (fiAny (fVar 0)) (gtName 3) (fun _ h => .ok true h) (fSl gSl (fVar 3) (foS (fC (.int 1))) (foN)) [3])) (faN))) [some (.ls (gs.map (fpV t))), none, none, none] h = .ok (.ls (gs.map fun g => plV (plA t g.2))) h := by
    refine fz_new C (ca_ok (faC_ok e1 faN_ok) ?_) (clL_map _ _ _ fun _ _ => rfl)
    show (match mapO pairI (gs.map fun g => plV (plA t g.2)) with
      | some ps => .ok (.loc h.nx) (h.new (.lst ((sortQ ps).map fun p => .tup [.int p.1, .int p.2])))
      | none => .bad : Out SV) = _
    rw [mapO_pairs]
    simp only
    rw [ord_uniq (sortQ_ord _) (ord_gs h1 h2) (sortQ_perm _), List.map_map]
    rfl
  rw [wp_eq e2, seqK_nx, wp_seq]
  try simp only [List.set_cons_zero, List.set_cons_succ]
  have e3 : ∀ z2 z3, fTst (fOp (gEq false) (fVar 1) (fFz (fLst (faN)))) [some (.ls (gs.map (fpV t))), some (.ls (gs.map fun g => plV (plA t g.2))), z2, z3] h = .ok (gs.map fun g => plV (plA t g.2)).isEmpty h := fun z2 z3 =>
    tst_ok (op_ok (var_ok rfl) (fz_lst' C faN_ok rfl (by simp)) (eq_nilG (k := 1) false h (by rw [List.all_map, List.all_eq_true]; exact fun _ _ => rfl) (by omega)))
  cases gs with
  | nil =>
    rw [wp_if_t (e3 _ _), wp_ret, wp_eq (tup_ok (faC_ok c_ok (faC_ok c_ok faN_ok)) (by simp; omega))]
    exact hP
  | cons g gs =>
    rw [wp_if_f (e3 _ _), wp_nx, seqK_nx, wp_seq, wp_set]
    have e4 : fFz (fLc (fiAny (fVar 0)) (gtName 3) (fTst (fOp (gEq false) (fSl gSl (fVar 3) (foS (fC (.int 1))) (foN)) (fOp gIx (fVar 1) (fC (.int 0))))) (fVar 3) [3]) [some (.ls ((g :: gs).map (fpV t))), some (.ls ((g :: gs).map fun g => plV (plA t g.2))), none, none] h = .ok (.ls (((g :: gs).filter fun x => decide (x.2 = g.2)).map (fpV t))) h := by
      have hf : ∀ x ∈ g :: gs, decide (plA t x.2 = plA t g.2) = decide (x.2 = g.2) := fun x hx => by
        by_cases q : x.2 = g.2
        · rw [q, decide_eq_true rfl, decide_eq_true rfl]
        · rw [decide_eq_false q, decide_eq_false fun z => q (plA_inj (h1 x hx) (h1 g (List.mem_cons_self ..)) z)]
      let fc : SV → Bool := fun v => match v with
        | .tup [_, .int l, .int c] => decide ((l, c) = ipl (plA t g.2))
        | _ => false
      have hfc : ∀ x : Tx × Nat, fc (fpV t x) = decide (plA t x.2 = plA t g.2) := fun x => by
        show decide ((((((plA t x.2).1 : Nat) : Int), (((plA t x.2).2 : Nat) : Int)) : Int × Int) = ipl (plA t g.2)) = _
        unfold ipl
        by_cases q : plA t x.2 = plA t g.2
        · rw [q, decide_eq_true rfl, decide_eq_true rfl]
        · rw [decide_eq_false q, decide_eq_false fun z => q ?_]
          simp only [Prod.mk.injEq] at z
          exact Prod.ext (by omega) (by omega)
      have := fz_lc (vs := [3]) (xs := (g :: gs).map (fpV t)) (η := [some (.ls ((g :: gs).map (fpV t))), some (.ls ((g :: gs).map fun g => plV (plA t g.2))), none, none]) (fun x => [some (.ls ((g :: gs).map (fpV t))), some (.ls ((g :: gs).map fun g => plV (plA t g.2))), none, some x]) fc id C (it_ls (i := 0) rfl) rfl (by simp at hl ⊢; omega) (t := gtName 3) (c := fTst (fOp (gEq false) (fSl gSl (fVar 3) (foS (fC (.int 1))) (foN)) (fOp gIx (fVar 1) (fC (.int 0))))) (e := fVar 3) (fun x _ h' _ => rfl) (fun x hx h' _ => ?_) (fun x _ _ h' _ => rfl) (fun x hx _ => ?_)
      · rw [this]
        congr 2
        rw [List.map_id, List.filter_map]
        congr 1
        refine List.filter_congr fun x hx => ?_
        show fc (fpV t x) = _
        rw [hfc, hf x hx]
      · obtain ⟨y, hy, rfl⟩ := List.mem_map.mp hx
        rw [hfc]
        exact tst_ok (op_ok (sl_ok (var_ok rfl) (oS_ok c_ok) oN_ok (cut1 _ _ _)) (op_ok (var_ok rfl) c_ok (ixl (i := 0) 0 rfl rfl h')) (eq_pl _ _ _))
      · obtain ⟨y, hy, rfl⟩ := List.mem_map.mp hx
        rfl
    rw [wp_eq e4, seqK_nx, wp_ret]
    try simp only [List.set_cons_zero, List.set_cons_succ]
    have e5 : (g :: gs).filter (fun x => decide (x.2 = g.2)) = g :: gs.filter (fun x => decide (x.2 = g.2)) := by
      rw [List.filter_cons, if_pos (by simp)]
    rw [e5]
    rw [wp_eq (tup_ok (faC_ok (op_ok (ca_ok (faC_ok (var_ok rfl) faN_ok) (len_ls h)) c_ok (eq_int _ _ false h)) (faC_ok (op_ok (var_ok rfl) c_ok (ixl (i := 0) 0 rfl rfl h)) faN_ok)) (by simp; omega))]
    have e6 : frstV t (g :: gs) = .tup [.bl (decide ((g :: gs.filter (fun x => decide (x.2 = g.2))).length = 1)), fpV t g] := by
      rw [← e5]
      rfl
    rw [e6] at hP
    have e7 : decide (((((g :: gs.filter (fun x => decide (x.2 = g.2))).map (fpV t)).length : Nat) : Int) = 1) = decide ((g :: gs.filter (fun x => decide (x.2 = g.2))).length = 1) := by
      rw [List.length_map]
      by_cases q : (g :: gs.filter (fun x => decide (x.2 = g.2))).length = 1
      · rw [decide_eq_true q, decide_eq_true (by omega)]
      · rw [decide_eq_false q, decide_eq_false (by omega)]
    simp only [Bool.false_eq_true, if_false]
    rw [e7]
    exact hP
end K11
/-! both readings agree; deeds with a bad sign -/
namespace K11
open PySem Fv
theorem cuts_pw : ∀ (n : Nat) (p : Option Nat) (a : Nat) (u : Tx), u.length ≤ n → (cuts p a u).Pairwise (fun x y => x.1 < y.1) ∧ ∀ x ∈ cuts p a u, a ≤ x.1
  | n, p, a, [], _ => by rw [cuts_nil]; exact ⟨List.Pairwise.nil, by simp⟩
  | 0, p, a, c :: r, h => by simp at h
  | n + 1, p, a, c :: r, h => by
    rw [cuts_ne (u := c :: r) (by simp)]
    obtain ⟨s, e⟩ := tok_cons c r
    have h1 : 1 ≤ (tokN (c :: r)).length := by rw [e]; simp
    obtain ⟨i1, i2⟩ := cuts_pw n (tokN (c :: r)).getLast? (a + (tokN (c :: r)).length) ((c :: r).drop (tokN (c :: r)).length) (by rw [List.length_drop]; omega)
    refine ⟨List.pairwise_cons.mpr ⟨fun x hx => ?_, i1⟩, fun x hx => ?_⟩
    · have := i2 x hx
      show a < x.1
      omega
    · rcases List.mem_cons.mp hx with rfl | hx
      · exact Nat.le_refl _
      · have := i2 x hx
        omega
theorem fau_mem {cs : List Ct} {g : Tx × Nat} (h : g ∈ fau cs) : ∃ x ∈ cs, g.2 = x.1 := by
  unfold fau at h
  obtain ⟨x, hx, hg⟩ := List.mem_flatMap.mp h
  obtain ⟨w, _, rfl⟩ := List.mem_map.mp hg
  exact ⟨x, hx, rfl⟩
theorem fau_pw : ∀ {cs : List Ct}, cs.Pairwise (fun x y => x.1 < y.1) → (fau cs).Pairwise fun x y => x.2 ≤ y.2
  | [], _ => List.Pairwise.nil
  | x :: cs, h => by
    obtain ⟨h1, h2⟩ := List.pairwise_cons.mp h
    rw [fau_cons]
    refine List.pairwise_append.mpr ⟨?_, fau_pw h2, fun a ha b hb => ?_⟩
    · refine List.pairwise_map.mpr (List.pairwise_of_forall fun _ _ => Nat.le_refl _)
    · obtain ⟨w, _, rfl⟩ := List.mem_map.mp ha
      obtain ⟨y, hy, e⟩ := fau_mem hb
      have := h1 y hy
      show x.1 ≤ b.2
      omega
theorem fau_len : ∀ cs : List Ct, (fau cs).length ≤ 3 * cs.length
  | [] => Nat.le_refl _
  | x :: cs => by
    rw [fau_cons, List.length_append, List.length_map, List.length_cons]
    have := fau_len cs
    have := wr_len x.2.1 x.2.2
    omega
def flB (o : Option Ct) : Option (Tx × Nat) := o.map fun x => ((wr x.2.1 x.2.2).headD [], x.1)
theorem fau_head : ∀ cs : List Ct, (fau cs).head? = flB (bad cs)
  | [] => rfl
  | x :: cs => by
    rw [fau_cons, bad_cons]
    by_cases h : okC x = true
    · rw [if_pos h]
      have : wr x.2.1 x.2.2 = [] := List.isEmpty_iff.mp h
      rw [this]
      exact fau_head cs
    · rw [if_neg h]
      have h : (wr x.2.1 x.2.2).isEmpty = false := by unfold okC at h; simpa using h
      unfold flB
      cases hw : wr x.2.1 x.2.2 with
      | nil => rw [hw] at h; cases h
      | cons w ws =>
        show some (w, x.1) = some ((wr x.2.1 x.2.2).headD [], x.1)
        rw [hw]
        rfl
theorem fl_flB {t : Tx} (hl : t.length ≤ 4000) : fl t = flB (bad (cuts none 0 t)) := by
  unfold fl flB
  cases bad (cuts none 0 t) with
  | none =>
    show (if 4000 < t.length then some (sLng, 4000) else none) = none
    rw [if_neg (by omega)]
  | some x =>
    show (if 4000 < t.length ∧ 4000 < x.1 then some (sLng, 4000) else some ((wr x.2.1 x.2.2).headD [], x.1)) = some ((wr x.2.1 x.2.2).headD [], x.1)
    rw [if_neg (by omega)]
theorem hd_ok {p : Option Nat} {c : Nat} {s : Tx} (h : (wr p (c :: s)).isEmpty = true) : hdk (c :: s) = !blank (c :: s) := by
  have hb : bSig (c :: s) = false := by
    cases e : bSig (c :: s) with
    | false => rfl
    | true =>
      have : wr p (c :: s) = (if bSig (c :: s) then [sSig] else []) ++ _ := rfl
      rw [this, e] at h
      cases h
  have hb : (!(isL c || (isD c || (isG c || isB c)))) = false := hb
  show (isL c || (isD c || isG c)) = !isB c
  by_cases hB : isB c = true
  · rw [hB]
    have : c = 32 ∨ c = 10 := by unfold isB at hB; exact of_decide_eq_true hB
    rcases this with rfl | rfl <;> rfl
  · have hB : isB c = false := by simpa using hB
    rw [hB] at hb ⊢
    cases h1 : isL c <;> cases h2 : isD c <;> cases h3 : isG c <;> first | rfl | (rw [h1, h2, h3] at hb; exact absurd hb (by decide))
theorem due_eq : ∀ {cs : List Ct}, cs.Pairwise (fun x y => x.1 < y.1) → (∀ x ∈ cs, ∃ c s, x.2.2 = c :: s) → (fndL cs).filter (kpB (flB (bad cs))) = (fnd cs).filter (kpB (flB (bad cs)))
  | [], _, _ => rfl
  | x :: cs, h, hw => by
    obtain ⟨h1, h2⟩ := List.pairwise_cons.mp h
    rw [fndL_cons, fnd_cons, bad_cons]
    by_cases ho : okC x = true
    · rw [if_pos ho, if_pos ho]
      have ih := due_eq h2 fun y hy => hw y (List.mem_cons_of_mem _ hy)
      obtain ⟨c, s, e⟩ := hw x (List.mem_cons_self ..)
      have hk : hdk x.2.2 = !blank x.2.2 := by
        unfold okC at ho
        rw [e] at ho ⊢
        exact hd_ok ho
      rw [hk, List.filter_append, ih]
      cases blank x.2.2 with
      | true => rfl
      | false =>
        simp only [Bool.not_false, Bool.false_eq_true, if_true, if_false]
        cases hq : kpB (flB (bad cs)) x <;> simp [hq]
    · rw [if_neg ho, if_neg ho]
      have : ∀ y ∈ (if hdk x.2.2 = true then [x] else []) ++ fndL cs, x.1 ≤ y.1 := fun y hy => by
        rcases List.mem_append.mp hy with hy | hy
        · split at hy
          · rw [List.mem_singleton.mp hy]
            exact Nat.le_refl _
          · cases hy
        · exact Nat.le_of_lt (h1 y (List.mem_filter.mp hy).1)
      rw [List.filter_eq_nil_iff.mpr fun y hy => ?_]
      · rfl
      · have := this y hy
        show ¬ decide (y.1 < x.1) = true
        simp
        omega
theorem due_kept {t : Tx} (hl : t.length ≤ 4000) : (fndL (cuts none 0 t)).filter (kpB (fl t)) = kept t := by
  unfold kept
  rw [fl_flB hl]
  refine due_eq (cuts_pw _ _ _ _ (Nat.le_refl _)).1 (cuts_all fun a c r _ _ => ?_)
  obtain ⟨s, e⟩ := tok_cons c r
  exact ⟨c, s, e⟩
/-! the program's doors -/
theorem check_ok (t : Tx) (h : SH) : fe_check_text [.str t] h = .ok .non h := rfl
theorem tokens_ok (t : Tx) (hl : t.length < 100000) (h : SH) (C : Cn h) : fe_tokens [.str t] h = .ok (.loc h.nx) (h.new (.lst ((kept t).map (kpV t)))) := by
  refine wp.eqP fun P hP => ?_
  unfold fe_tokens fb_tokens
  apply wp_body
  (simp only [startS, List.map_cons, List.map_nil, List.length_cons, List.length_nil, List.replicate, List.cons_append, List.nil_append, Nat.reduceAdd, Nat.reduceSub])
  rw [wp_seq, wp_drop, wp_eq (call1_ok (var_ok rfl) (check_ok t h)), seqK_nx, wp_ret]
  rw [wp_eq (op_ok (call1_ok (var_ok rfl) (read_signs_ok t hl h C)) c_ok (ixt (i := 0) 0 rfl rfl _))]
  exact hP
theorem cl_fault (n : Nat) (t : Tx) (f : Option (Tx × Nat)) : clV n (faultV t f) = true := by
  cases f with
  | none => rfl
  | some q => rfl
theorem fz_read (t : Tx) (hl : t.length < 100000) (h : SH) (C : Cn h) {i : Nat} {η : Sl} (es : slot η i = some (.str t)) : fFz (fCall 1 fe_read_signs (faC (fVar i) faN)) η h = .ok (.tup [.ls ((kept t).map (kpV t)), plV (plF t), faultV t (fl t)]) h := by
  unfold fFz
  rw [call1_ok (var_ok es) (read_signs_ok t hl h C)]
  refine cut_ext C ?_
  have c3 : fzV h.nx ⟨h.c ++ [.lst ((kept t).map (kpV t))]⟩ 7 (.loc h.nx) = some (.ls ((kept t).map (kpV t))) := fzV_loc (h' := h.new (.lst ((kept t).map (kpV t)))) get_new_same (Nat.le_refl _) (cl_kept _ _ _)
  have c4 : clV h.nx (.tup [.loc h.nx, plV (plF t), faultV t (fl t)]) = false := by
    unfold clV clL clV
    simp
  unfold fzV
  rw [c4, if_neg (by simp)]
  simp only
  unfold mapO mapO mapO mapO
  rw [c3, fz_clean 7 (cl_pl _ _), fz_clean 7 (cl_fault _ _ _)]
  rfl
theorem token_fault_ok (t : Tx) (hl : t.length < 100000) (h : SH) (C : Cn h) : fe_token_fault [.str t] h = .ok (faultV t (fl t)) h := by
  refine wp.eqP fun P hP => ?_
  unfold fe_token_fault fb_token_fault
  apply wp_body
  (simp only [startS, List.map_cons, List.map_nil, List.length_cons, List.length_nil, List.replicate, List.cons_append, List.nil_append, Nat.reduceAdd, Nat.reduceSub])
  rw [wp_seq, wp_drop, wp_eq (call1_ok (var_ok rfl) (check_ok t h)), seqK_nx, wp_ret]
  rw [wp_eq (op_ok (fz_read t hl h C rfl) c_ok (ixt (i := 2) 2 rfl rfl _))]
  exact hP
theorem reader_bad (t : Tx) (hl : t.length < 100000) (h : SH) (C : Cn h) {f : Tx × Nat} (e : fl t = some f) : fe_reader_of [.str t] h = .exc ⟨0, [("fault", fpV t f)]⟩ h := by
  unfold fe_reader_of fb_reader_of fBody startS
  (simp only [startS, List.map_cons, List.map_nil, List.length_cons, List.length_nil, List.replicate, List.cons_append, List.nil_append, Nat.reduceAdd, Nat.reduceSub])
  unfold fSeq
  have e1 : fAsg (fNX (fFz (fCall 1 fe_read_signs (faC (fVar 0) (faN))))) (gtTup 3 (gtCons (gtName 1) (gtCons (gtName 2) (gtCons (gtName 3) (gtNil))))) [some (.str t), none, none, none] h = .ok (.nx [some (.str t), some (.ls ((kept t).map (kpV t))), some (plV (plF t)), some (fpV t f)]) h := by
    unfold fAsg fNX
    rw [fz_read t hl h C rfl, e]
    rfl
  rw [e1, bok]
  simp only
  have e2 : fIfS (fTst (fOp (gIsN true) (fVar 3) (fC .non))) (fRaise 0 "fault" (fVar 3)) (fNx) [some (.str t), some (.ls ((kept t).map (kpV t))), some (plV (plF t)), some (fpV t f)] h = .exc ⟨0, [("fault", fpV t f)]⟩ h := rfl
  rw [e2]
  rfl
theorem deed_fault_bad (t : Tx) (hl : t.length < 100000) (h : SH) (C : Cn h) {f : Tx × Nat} (e : fl t = some f) : fe_deed_fault [.str t] h = .ok (fpV t f) h := by
  unfold fe_deed_fault fb_deed_fault fBody startS
  (simp only [startS, List.map_cons, List.map_nil, List.length_cons, List.length_nil, List.replicate, List.cons_append, List.nil_append, Nat.reduceAdd, Nat.reduceSub])
  have e0 : fe_tree_of [.str t] h = .exc ⟨0, [("fault", fpV t f)]⟩ h := by
    unfold fe_tree_of fb_tree_of fBody startS
    (simp only [startS, List.map_cons, List.map_nil, List.length_cons, List.length_nil, List.replicate, List.cons_append, List.nil_append, Nat.reduceAdd, Nat.reduceSub])
    unfold fRet
    rw [call1, call1]
    have : fVar 0 [some (SV.str t)] h = .ok (.str t) h := rfl
    rw [this, bok, reader_bad t hl h C e]
    rfl
  unfold fSeq
  have e1 : fDrop (fCall 1 fe_check_text (faC (fVar 0) faN)) [some (.str t), none] h = .ok (.nx [some (.str t), none]) h := rfl
  rw [e1, bok]
  simp only
  have e2 : fTryF 0 "fault" (fDrop (fCall 1 fe_tree_of (faC (fVar 0) faN))) [some (.str t), none] h = .ok (.rt (fpV t f)) h := by
    unfold fTryF fDrop
    rw [call1]
    have : fVar 0 [some (SV.str t), none] h = .ok (.str t) h := rfl
    rw [this, bok, e0]
    rfl
  rw [e2]
  rfl
end K11
/-! what the law draws -/
namespace K11
open PySem Fv
variable {tl : List SO} {h : SH} {p : Nat}
theorem eq_refl_dv {k : Nat} {v : SV} (h : SH) (e : dvB k v = true) (l : k ≤ 60) (n : eqSc v v = none) : gEq false v v h = .ok (.bl true) h :=
  (eq_dv (b := true) false h e e l n (SeqAt.eqv_refl _ (lay_dv k v e).1)).trans rfl
def Sml (w : Tx) : Prop := ∀ c ∈ w, c < 128
instance (w : Tx) : Decidable (Sml w) := inferInstanceAs (Decidable (∀ c ∈ w, c < 128))
def Pc (v : SV) : Prop := ∃ w, v = .str w ∧ w.length ≤ 13 ∧ Sml w
theorem pc_vf (v : SV) (q : Pc v) : Vf v := by obtain ⟨w, rfl, _⟩ := q; exact Vf.str _
theorem pcB {xs : List SV} (h : (xs.all fun v => match v with | .str w => decide (w.length ≤ 13 ∧ Sml w) | _ => false) = true) : ∀ v ∈ xs, Pc v := fun v hv => by
  have := List.all_eq_true.mp h v hv
  cases v with
  | str w => exact ⟨w, rfl, of_decide_eq_true this⟩
  | _ => cases this
theorem pickP {i : Nat} {η : Sl} {a : F} {xs : List SV} (P : PH 2 tl h) (T : Tn 2 tl) (l : p < 2) (e : slot η i = some (.loc p)) (ea : ∀ h, Cn h → a η h = .ok (.ls xs) h) (hx : 0 < xs.length) (hl : xs.length < 1000000) :
    wp (fCall 2 fe__law_pick (faC (fVar i) (faC a faN)) η h) fun v h' => v ∈ xs ∧ PH 2 tl h' := by
  rw [wp_call2, wp_var e, wp_eq (ea h (P.cn T))]
  exact pick_ok P l hx hl
theorem lst_at {a : FA} {η : Sl} {xs : List SV} (e : ∀ h, a η h = .ok xs h) (c : ∀ n, clL n xs = true) (hl : xs.length ≤ sizeLine) : ∀ h, Cn h → fFz (fLst a) η h = .ok (.ls xs) h := fun h C => fz_lst' C (e h) (c _) hl
theorem pc_sp : Pc (.str [32]) := ⟨_, rfl, by decide, by decide⟩
theorem piece_ok (P : PH 2 tl h) (T : Tn 2 tl) (l : p < 2) : wp (fe__law_piece [.loc p] h) fun v h' => Pc v ∧ PH 2 tl h' := by
  refine wp.via fun Q hQ => ?_
  have hs := sizeLine_eq
  unfold fe__law_piece fb__law_piece
  apply wp_body
  (simp only [startS, List.map_cons, List.map_nil, List.length_cons, List.length_nil, List.replicate, List.cons_append, List.nil_append, Nat.reduceAdd, Nat.reduceSub])
  rw [wp_seq, wp_set, wp_call2, wp_var rfl, wp_c]
  refine (draw_ok P l (by omega) (by omega)).mono fun v h1 ⟨d, e, ld, P1⟩ => ?_
  subst e
  rw [seqK_nx, wp_seq]
  try simp only [List.set_cons_zero, List.set_cons_succ]
  have lt : ∀ (n : Int) (h : SH), fTst (fOp gLtU (fVar 1) (fC (.int n))) [some (.loc p), some (.int (d : Int))] h = .ok (decide ((d : Int) < n)) h := fun n h => tst_ok (op_ok (var_ok rfl) c_ok (rel_int _ _ _ _ _))
  have eqn : ∀ (n : Int) (h : SH), fTst (fOp (gEq false) (fVar 1) (fC (.int n))) [some (.loc p), some (.int (d : Int))] h = .ok (decide ((d : Int) = n)) h := fun n h => tst_ok (op_ok (var_ok rfl) c_ok (eq_int _ _ false _))
  by_cases c1 : (d : Int) < 2
  · have t1 := lt 2 h1
    rw [decide_eq_true c1] at t1
    rw [wp_if_t t1, wp_ret]
    refine (pickP P1 T l rfl (lst_at (fun h => rfl) (fun n => rfl) (by simp; omega)) (by simp) (by simp)).mono fun v h2 ⟨hv, P2⟩ => ?_
    exact hQ _ _ ⟨pcB (by decide) v hv, P2⟩
  · have t1 := lt 2 h1
    rw [decide_eq_false c1] at t1
    rw [wp_if_f t1, wp_nx, seqK_nx, wp_seq]
    by_cases c2 : (d : Int) < 4
    · have t2 := lt 4 h1
      rw [decide_eq_true c2] at t2
      rw [wp_if_t t2, wp_ret]
      refine (pickP P1 T l rfl (lst_at (fun h => rfl) (fun n => rfl) (by simp; omega)) (by simp) (by simp)).mono fun v h2 ⟨hv, P2⟩ => ?_
      exact hQ _ _ ⟨pcB (by decide) v hv, P2⟩
    · have t2 := lt 4 h1
      rw [decide_eq_false c2] at t2
      rw [wp_if_f t2, wp_nx, seqK_nx, wp_seq]
      by_cases c3 : (d : Int) < 7
      · have t3 := lt 7 h1
        rw [decide_eq_true c3] at t3
        rw [wp_if_t t3, wp_ret]
        refine (pickP P1 T l rfl (lst_at (fun h => rfl) (fun n => rfl) (by simp; omega)) (by simp) (by simp)).mono fun v h2 ⟨hv, P2⟩ => ?_
        exact hQ _ _ ⟨pcB (by decide) v hv, P2⟩
      · have t3 := lt 7 h1
        rw [decide_eq_false c3] at t3
        rw [wp_if_f t3, wp_nx, seqK_nx, wp_ret, wp_ifE, wp_eq (eqn 7 h1)]
        by_cases c4 : (d : Int) = 7
        · rw [decide_eq_true c4, if_pos rfl]
          refine (pickP P1 T l rfl (lst_at (fun h => rfl) (fun n => rfl) (by simp; omega)) (by simp) (by simp)).mono fun v h2 ⟨hv, P2⟩ => ?_
          exact hQ _ _ ⟨pcB (by decide) v hv, P2⟩
        · rw [decide_eq_false c4, if_neg (by simp), wp_c]
          exact hQ _ _ ⟨pc_sp, P1⟩
theorem pcs_of : ∀ {vs : List SV}, (∀ v ∈ vs, Pc v) → ∃ ws : List Tx, vs = ws.map .str ∧ (∀ w ∈ ws, w.length ≤ 13 ∧ Sml w)
  | [], _ => ⟨[], rfl, by simp⟩
  | v :: vs, k => by
    obtain ⟨w, e, q⟩ := k v (List.mem_cons_self ..)
    obtain ⟨ws, e2, q2⟩ := pcs_of (vs := vs) fun x hx => k x (List.mem_cons_of_mem _ hx)
    refine ⟨w :: ws, by rw [e, e2]; rfl, fun x hx => ?_⟩
    rcases List.mem_cons.mp hx with rfl | hx
    · exact q
    · exact q2 x hx
theorem flat_le : ∀ {ws : List Tx}, (∀ w ∈ ws, w.length ≤ 13 ∧ Sml w) → ws.flatten.length ≤ 13 * ws.length ∧ Sml ws.flatten ∧ (ws.map List.length).sum ≤ 13 * ws.length
  | [], _ => ⟨by simp, (fun c hc => absurd hc (by simp)), by simp⟩
  | w :: ws, k => by
    obtain ⟨a, b, c⟩ := flat_le (ws := ws) fun x hx => k x (List.mem_cons_of_mem _ hx)
    obtain ⟨l, s⟩ := k w (List.mem_cons_self ..)
    refine ⟨by rw [List.flatten_cons, List.length_append, List.length_cons]; omega, fun x hx => ?_, by rw [List.map_cons, List.sum_cons, List.length_cons]; omega⟩
    rw [List.flatten_cons] at hx
    rcases List.mem_append.mp hx with hx | hx
    · exact s x hx
    · exact b x hx
theorem wp_join {b : FA} {η : Sl} {h : SH} {Q : SV → SH → Prop} (w : wp (b η h) fun xs h' => wp (gJoin (.str []) xs h') Q) : wp (fMt "str" gJoin (fC (.str [])) b η h) Q := by
  have : fMt "str" gJoin (fC (.str [])) b η h = (b η h).bind fun xs h => gJoin (.str []) xs h := rfl
  rw [this, wp_bind]
  exact w
theorem smlapp {a b : Tx} (x : Sml a) (y : Sml b) : Sml (a ++ b) := fun c hc => by
  rcases List.mem_append.mp hc with h | h
  · exact x c h
  · exact y c h
theorem smltake {a : Tx} (n : Nat) (x : Sml a) : Sml (a.take n) := fun c hc => x c (List.mem_of_mem_take hc)
theorem smldrop {a : Tx} (n : Nat) (x : Sml a) : Sml (a.drop n) := fun c hc => x c (List.mem_of_mem_drop hc)
theorem tok_sml {t : Tx} (s : Sml t) : ∀ x ∈ cuts none 0 t, Sml x.2.2 := cuts_all fun a c r e _ => by
  show Sml (tokN (c :: r))
  have h1 : Sml (c :: r) := by rw [← e]; exact smldrop _ s
  have h2 := tok_pre (c :: r)
  intro x hx
  refine h1 x ?_
  rw [h2]
  exact List.mem_append.mpr (.inl hx)
theorem dv_kept {t : Tx} (s : Sml t) : dvB 3 (.ls ((kept t).map (kpV t))) = true := by
  show ((kept t).map (kpV t)).all (dvB 2) = true
  rw [List.all_map, List.all_eq_true]
  intro x hx
  have hx : Sml x.2.2 := tok_sml s x (fnd_mem (List.mem_filter.mp hx).1)
  show ([SV.str x.2.2, plV (plA t x.1)]).all (dvB 1) = true
  rw [List.all_cons]
  have : dvB 1 (.str x.2.2) = true := strOk_small hx
  rw [this]
  rfl
theorem dv_fp {t : Tx} (s : Sml t) {g : Tx × Nat} (e : Sml g.1) : dvB 1 (fpV t g) = true := by
  show ([SV.str g.1, SV.int _, SV.int _]).all (dvB 0) = true
  rw [List.all_cons]
  have : dvB 0 (.str g.1) = true := strOk_small e
  rw [this]
  rfl
theorem fl_sml {t : Tx} (hl : t.length ≤ 4000) {g : Tx × Nat} (e : fl t = some g) : Sml g.1 := by
  rw [fl_flB hl] at e
  unfold flB at e
  cases q : bad (cuts none 0 t) with
  | none => rw [q] at e; cases e
  | some x =>
    rw [q] at e
    cases e
    have := wr_small x.2.1 x.2.2
    show Sml ((wr x.2.1 x.2.2).headD [])
    cases hw : wr x.2.1 x.2.2 with
    | nil => intro c hc; cases hc
    | cons w ws => exact this w (by rw [hw]; exact List.mem_cons_self ..)
end K11
/-! the law's body -/
namespace K11
open PySem Fv
variable {tl : List SO} {h : SH}
def rgT : FS := fSeq (fAsg (fFz (fCall 1 fe__law_lex (faC (fVar 2) (faN)))) (gtTup 2 (gtCons (gtName 4) (gtCons (gtName 5) (gtNil))))) (fSeq (fAsg (fCall 1 fe__law_first (faC (fVar 5) (faN))) (gtTup 2 (gtCons (gtName 6) (gtCons (gtName 7) (gtNil))))) (fSeq (fIfS (fNotT (fTru (fVar 6))) (fRet (fC (.bl true))) (fNx)) (fSeq (fSet 8 (fFz (fLc (fiAny (fVar 4)) (gtName 11) (fOrT (fTst (fOp (gIsN false) (fVar 7) (fC .non))) (fTst (fOp gLtT (fOp gIx (fVar 11) (fC (.int 1))) (fSl gSl (fVar 7) (foS (fC (.int 1))) (foN))))) (fVar 11) [11]))) (fSeq (fSet 9 (fCall 1 fe_tokens (faC (fVar 2) (faN)))) (fSeq (fIfS (fNotT (fTru (fCall 2 fe__law_same (faC (fFz (fLst (faC (fVar 9) (faC (fFz (fCallK 0 1 1 fe_tokens faN (faC (fVar 2) (faN)))) (faC (fCall 1 fe_token_fault (faC (fVar 2) (faN))) (faC (fCallK 0 1 1 fe_token_fault faN (faC (fVar 2) (faN))) (faN))))))) (faC (fFz (fLst (faC (fVar 8) (faC (fVar 8) (faC (fVar 7) (faC (fVar 7) (faN))))))) (faN)))))) (fRet (fC (.bl false))) (fNx)) (fSeq (fDrop (fMt "list" gAppend (fVar 9) (faC (fC .non) (faN)))) (fRet (fAnd (fOp (gEq false) (fFz (fCall 1 fe_tokens (faC (fVar 2) (faN)))) (fVar 8)) (fOr (fOp (gIsN false) (fVar 7) (fC .non)) (fOp (gEq false) (fCall 1 fe_deed_fault (faC (fVar 2) (faN))) (fVar 7)))))))))))
theorem HB_c (h : SH) (xs ys : List SV) : HB h xs ys = ⟨h.c ++ [.lst xs, .lst ys]⟩ := by
  unfold HB SH.new
  simp
theorem fz_lex (t : Tx) (hl : t.length ≤ 4000) (h : SH) (C : Cn h) {i : Nat} {η : Sl} (es : slot η i = some (.str t)) : fFz (fCall 1 fe__law_lex (faC (fVar i) faN)) η h = .ok (.tup [.ls ((fndL (cuts none 0 t)).map (kpV t)), .ls ((fau (cuts none 0 t)).map (fpV t))]) h := by
  unfold fFz
  rw [call1_ok (var_ok es) (law_lex_ok t hl h C), HB_c]
  refine cut_ext C ?_
  have c1 : fzV h.nx ⟨h.c ++ [.lst ((fndL (cuts none 0 t)).map (kpV t)), .lst ((fau (cuts none 0 t)).map (fpV t))]⟩ 7 (.loc h.nx) = some (.ls ((fndL (cuts none 0 t)).map (kpV t))) := by
    refine fzV_loc ?_ (Nat.le_refl _) (cl_kept _ _ _)
    rw [← HB_c]
    exact HB_get1 _ _ _
  have c2 : fzV h.nx ⟨h.c ++ [.lst ((fndL (cuts none 0 t)).map (kpV t)), .lst ((fau (cuts none 0 t)).map (fpV t))]⟩ 7 (.loc (h.nx + 1)) = some (.ls ((fau (cuts none 0 t)).map (fpV t))) := by
    refine fzV_loc ?_ (by omega) (cl_fps _ _ _)
    rw [← HB_c]
    exact HB_get2 _ _ _
  have c4 : clV h.nx (.tup [.loc h.nx, .loc (h.nx + 1)]) = false := by
    unfold clV clL clV
    simp
  unfold fzV
  rw [c4, if_neg (by simp)]
  simp only
  unfold mapO mapO mapO
  rw [c1, c2]
  rfl
theorem frst_eq {t : Tx} (hl : t.length ≤ 4000) : ∃ b : Bool, frstV t (fau (cuts none 0 t)) = .tup [.bl b, faultV t (fl t)] := by
  have h := fau_head (cuts none 0 t)
  rw [← fl_flB hl] at h
  rw [← h]
  cases fau (cuts none 0 t) with
  | nil => exact ⟨true, rfl⟩
  | cons g gs => exact ⟨_, rfl⟩
def fcD (t : Tx) (f : Option (Tx × Nat)) (x : SV) : Bool := match x with
  | .tup [_, .tup [.int l, .int c]] => (match f with
    | none => true
    | some g => HT.lexLt [l, c] [((plA t g.2).1 : Nat), ((plA t g.2).2 : Nat)])
  | _ => false
theorem lex_pl (p q : Pl) : HT.lexLt [((p.1 : Nat) : Int), ((p.2 : Nat) : Int)] [((q.1 : Nat) : Int), ((q.2 : Nat) : Int)] = decide (ltP p q) := by
  unfold HT.lexLt HT.lexLt HT.lexLt
  have yes : (p.1 < q.1 ∨ (p.1 = q.1 ∧ p.2 < q.2)) → decide (ltP p q) = true := fun h => decide_eq_true h
  have no : ¬ (p.1 < q.1 ∨ (p.1 = q.1 ∧ p.2 < q.2)) → decide (ltP p q) = false := fun h => decide_eq_false h
  by_cases h1 : p.1 = q.1
  · have : ((p.1 : Nat) : Int) = ((q.1 : Nat) : Int) := by omega
    rw [if_pos this]
    by_cases h2 : p.2 = q.2
    · have : ((p.2 : Nat) : Int) = ((q.2 : Nat) : Int) := by omega
      rw [if_pos this, no (by omega)]
    · have : ¬ ((p.2 : Nat) : Int) = ((q.2 : Nat) : Int) := by omega
      rw [if_neg this]
      by_cases h3 : p.2 < q.2
      · rw [decide_eq_true (by omega), yes (by omega)]
      · rw [decide_eq_false (by omega), no (by omega)]
  · have : ¬ ((p.1 : Nat) : Int) = ((q.1 : Nat) : Int) := by omega
    rw [if_neg this]
    by_cases h3 : p.1 < q.1
    · rw [decide_eq_true (by omega), yes (by omega)]
    · rw [decide_eq_false (by omega), no (by omega)]
theorem ltT_ok (p q : Pl) (h : SH) : gLtT (plV p) (plV q) h = .ok (.bl (decide (ltP p q))) h := by
  rw [← lex_pl]
  rfl
theorem due_ok (t : Tx) (hl : t.length ≤ 4000) (h : SH) (C : Cn h) {η : Sl} (e4 : slot η 4 = some (.ls ((fndL (cuts none 0 t)).map (kpV t)))) (e7 : ∀ v : SV, slot ((wipeS η [11]).set 11 (some v)) 7 = some (faultV t (fl t))) (e11 : ∀ v : SV, slot ((wipeS η [11]).set 11 (some v)) 11 = some v) :
    fFz (fLc (fiAny (fVar 4)) (gtName 11) (fOrT (fTst (fOp (gIsN false) (fVar 7) (fC .non))) (fTst (fOp gLtT (fOp gIx (fVar 11) (fC (.int 1))) (fSl gSl (fVar 7) (foS (fC (.int 1))) (foN))))) (fVar 11) [11]) η h = .ok (.ls ((kept t).map (kpV t))) h := by
  have hs := sizeLine_eq
  have hll : (fndL (cuts none 0 t)).length ≤ 4000 := by
    have h1 : (fndL (cuts none 0 t)).length ≤ (cuts none 0 t).length := List.length_filter_le _ _
    have h2 := cuts_len _ none 0 t (Nat.le_refl _)
    omega
  have mem : ∀ x ∈ fndL (cuts none 0 t), x.1 < t.length := fun x hx => cuts_lt x (List.mem_filter.mp hx).1
  have hfc : ∀ x ∈ fndL (cuts none 0 t), fcD t (fl t) (kpV t x) = kpB (fl t) x := fun x hx => by
    have hx := mem x hx
    show (match fl t with
      | none => true
      | some g => HT.lexLt [((plA t x.1).1 : Nat), ((plA t x.1).2 : Nat)] [((plA t g.2).1 : Nat), ((plA t g.2).2 : Nat)]) = _
    unfold kpB
    cases e : fl t with
    | none => rfl
    | some g =>
      have hg := fl_le (w := g.1) (a := g.2) e
      simp only
      rw [lex_pl]
      by_cases q : x.1 < g.2
      · rw [decide_eq_true q, decide_eq_true ((lt_pl (by omega) hg).mpr q)]
      · rw [decide_eq_false q, decide_eq_false fun z => q ((lt_pl (by omega) hg).mp z)]
  have w := fz_lc (vs := [11]) (xs := (fndL (cuts none 0 t)).map (kpV t)) (η := η) (fun x => (wipeS η [11]).set 11 (some x)) (fcD t (fl t)) id C (it_ls e4) rfl (by rw [List.length_map]; omega) (t := gtName 11) (c := fOrT (fTst (fOp (gIsN false) (fVar 7) (fC .non))) (fTst (fOp gLtT (fOp gIx (fVar 11) (fC (.int 1))) (fSl gSl (fVar 7) (foS (fC (.int 1))) (foN))))) (e := fVar 11) (fun x _ h' _ => rfl) (fun x hx h' _ => ?_) (fun x _ _ h' _ => var_ok (e11 x)) (fun x hx _ => ?_)
  · rw [w]
    congr 2
    rw [List.map_id, List.filter_map, ← due_kept hl]
    congr 1
    exact List.filter_congr fun x hx => hfc x hx
  · obtain ⟨y, hy, rfl⟩ := List.mem_map.mp hx
    show _ = Out.ok (match fl t with
      | none => true
      | some g => HT.lexLt [((plA t y.1).1 : Nat), ((plA t y.1).2 : Nat)] [((plA t g.2).1 : Nat), ((plA t g.2).2 : Nat)]) h'
    cases e : fl t with
    | none =>
      have e7' := e7 (kpV t y)
      rw [e] at e7'
      exact or_t (isN_f .non (var_ok e7') c_ok)
    | some g =>
      have e7' := e7 (kpV t y)
      rw [e] at e7'
      have e8 : faultV t (some g) = fpV t g := rfl
      simp only
      rw [lex_pl]
      exact (or_b (isN_f (fpV t g) (var_ok e7') c_ok) fun _ => tst_ok (op_ok (op_ok (var_ok (e11 _)) c_ok (ixt (i := 1) 1 rfl rfl h')) (sl_ok (var_ok e7') (oS_ok c_ok) oN_ok (cut1 _ _ _)) (ltT_ok _ _ _))).trans rfl
  · obtain ⟨y, hy, rfl⟩ := List.mem_map.mp hx
    rfl
theorem sm_kept (t : Tx) (d : Nat) (hd : 8 ≤ d) (h : SH) : SmL h d ((kept t).map (kpV t)) ((kept t).map (kpV t)) := by
  have hs := sizeLine_eq
  refine smL_map _ (fun x => ?_) _
  obtain ⟨d, rfl⟩ : ∃ e, d = e + 3 := ⟨d - 3, by omega⟩
  show (decide (2 ≤ sizeLine) && (dp (d + 2) (.str x.2.2) && (dp (d + 2) (plV (plA t x.1)) && true))) = true
  have e2 : dp (d + 2) (plV (plA t x.1)) = true := by
    show (decide (2 ≤ sizeLine) && (dp (d + 1) (.int ((plA t x.1).1 : Nat)) && (dp (d + 1) (.int ((plA t x.1).2 : Nat)) && true))) = true
    rw [decide_eq_true (by omega)]
    rfl
  rw [e2, decide_eq_true (by omega)]
  rfl
theorem sm_fault (t : Tx) (f : Option (Tx × Nat)) (d : Nat) (hd : 8 ≤ d) (h : SH) : Sm h d (faultV t f) (faultV t f) := by
  have hs := sizeLine_eq
  obtain ⟨d, rfl⟩ : ∃ e, d = e + 3 := ⟨d - 3, by omega⟩
  refine dp_sm _ _ ?_
  cases f with
  | none => rfl
  | some g =>
    show (decide (3 ≤ sizeLine) && (dp (d + 2) (.str g.1) && (dp (d + 2) (.int ((plA t g.2).1 : Nat)) && (dp (d + 2) (.int ((plA t g.2).2 : Nat)) && true)))) = true
    rw [decide_eq_true (by omega)]
    rfl
theorem kept_len (t : Tx) : (kept t).length ≤ t.length := by
  have h1 : (kept t).length ≤ (fnd (cuts none 0 t)).length := List.length_filter_le _ _
  have h2 := fnd_len (cuts none 0 t)
  have h3 := cuts_len _ none 0 t (Nat.le_refl _)
  omega
theorem rest_ok (t : Tx) (hl : t.length ≤ 300) (s : Sml t) (z3 : Option SV) (P : PH 2 tl h) (T : Tn 2 tl) : wp (rgT [some (.loc 0), some (.loc 1), some (.str t), z3, none, none, none, none, none, none, none, none] h) fun fl h' => match fl with
    | .rt v => v = .bl true ∧ ∃ ex, PH 2 (tl ++ ex) h' ∧ Tn 2 (tl ++ ex)
    | _ => False := by
  have hs := sizeLine_eq
  have C := P.cn T
  have stay : ∃ ex, PH 2 (tl ++ ex) h ∧ Tn 2 (tl ++ ex) := ⟨[], by simpa using P, by simpa using T⟩
  unfold rgT
  rw [wp_seq, wp_asg, wp_eq (fz_lex t (by omega) h C rfl)]
  have et : gtTup 2 (gtCons (gtName 4) (gtCons (gtName 5) gtNil)) (.tup [.ls ((fndL (cuts none 0 t)).map (kpV t)), .ls ((fau (cuts none 0 t)).map (fpV t))]) [some (.loc 0), some (.loc 1), some (.str t), z3, none, none, none, none, none, none, none, none] h = .ok [some (.loc 0), some (.loc 1), some (.str t), z3, some (.ls ((fndL (cuts none 0 t)).map (kpV t))), some (.ls ((fau (cuts none 0 t)).map (fpV t))), none, none, none, none, none, none] h := rfl
  rw [wp_eq et, seqK_nx, wp_seq, wp_asg]
  obtain ⟨b, eb⟩ := frst_eq (t := t) (by omega)
  have ef := law_first_ok t (fau (cuts none 0 t)) (fun g hg => by
    obtain ⟨x, hx, e⟩ := fau_mem hg
    have := cuts_lt x hx
    omega) (fau_pw (cuts_pw _ _ _ _ (Nat.le_refl _)).1) (by
      have h1 := fau_len (cuts none 0 t)
      have h2 := cuts_len _ none 0 t (Nat.le_refl _)
      omega) h C
  rw [eb] at ef
  rw [wp_eq (call1_ok (var_ok rfl) ef)]
  have et2 : gtTup 2 (gtCons (gtName 6) (gtCons (gtName 7) gtNil)) (.tup [.bl b, faultV t (fl t)]) [some (.loc 0), some (.loc 1), some (.str t), z3, some (.ls ((fndL (cuts none 0 t)).map (kpV t))), some (.ls ((fau (cuts none 0 t)).map (fpV t))), none, none, none, none, none, none] h = .ok [some (.loc 0), some (.loc 1), some (.str t), z3, some (.ls ((fndL (cuts none 0 t)).map (kpV t))), some (.ls ((fau (cuts none 0 t)).map (fpV t))), some (.bl b), some (faultV t (fl t)), none, none, none, none] h := rfl
  rw [wp_eq et2, seqK_nx, wp_seq]
  have ea : fNotT (fTru (fVar 6)) [some (.loc 0), some (.loc 1), some (.str t), z3, some (.ls ((fndL (cuts none 0 t)).map (kpV t))), some (.ls ((fau (cuts none 0 t)).map (fpV t))), some (.bl b), some (faultV t (fl t)), none, none, none, none] h = .ok (!b) h := not_b (tru_ok (var_ok rfl))
  cases b with
  | false =>
    rw [wp_if_t ea, wp_ret, wp_c, seqK_rt]
    exact ⟨rfl, stay⟩
  | true =>
    rw [wp_if_f ea, wp_nx, seqK_nx, wp_seq, wp_set]
    rw [wp_eq (due_ok t (by omega) h C rfl (fun _ => rfl) (fun _ => rfl)), seqK_nx, wp_seq, wp_set]
    try simp only [List.set_cons_zero, List.set_cons_succ]
    rw [wp_eq (call1_ok (var_ok rfl) (tokens_ok t (by omega) h C)), seqK_nx, wp_seq]
    try simp only [List.set_cons_zero, List.set_cons_succ]
    have P5 : PH 2 (tl ++ [.lst ((kept t).map (kpV t))]) (h.new (.lst ((kept t).map (kpV t)))) := P.new _
    have T5 : Tn 2 (tl ++ [.lst ((kept t).map (kpV t))]) := T.new (cl_kept _ _ _)
    rw [P.nx]
    generalize hh5 : h.new (.lst ((kept t).map (kpV t))) = h5 at *
    have C5 := P5.cn T5
    have kl := kept_len t
    have l9 : 2 + tl.length < h5.nx := by rw [P5.nx]; simp
    have el1 := fz_lst' (η := [some (.loc 0), some (.loc 1), some (.str t), z3, some (.ls ((fndL (cuts none 0 t)).map (kpV t))), some (.ls ((fau (cuts none 0 t)).map (fpV t))), some (.bl true), some (faultV t (fl t)), some (.ls ((kept t).map (kpV t))), some (.loc (2 + tl.length)), none, none]) C5
      (faC_ok (var_ok (i := 9) rfl) (faC_ok (fz_new C5 (callK1_ok (var_ok (i := 2) rfl) (tokens_ok t (by omega) h5 C5)) (cl_kept _ _ _)) (faC_ok (call1_ok (var_ok (i := 2) rfl) (token_fault_ok t (by omega) h5 C5)) (faC_ok (callK1_ok (var_ok (i := 2) rfl) (token_fault_ok t (by omega) h5 C5)) faN_ok))))
      (by simp [clL, cl_fault, l9, cl_kept]) (by simp; omega)
    have el2 := fz_lst' (η := [some (.loc 0), some (.loc 1), some (.str t), z3, some (.ls ((fndL (cuts none 0 t)).map (kpV t))), some (.ls ((fau (cuts none 0 t)).map (fpV t))), some (.bl true), some (faultV t (fl t)), some (.ls ((kept t).map (kpV t))), some (.loc (2 + tl.length)), none, none]) C5
      (faC_ok (var_ok (i := 8) rfl) (faC_ok (var_ok (i := 8) rfl) (faC_ok (var_ok (i := 7) rfl) (faC_ok (var_ok (i := 7) rfl) faN_ok))))
      (by simp [clL, cl_fault, cl_kept]) (by simp; omega)
    have sm1 : Sm h5 12 (.ls [.loc (2 + tl.length), .ls ((kept t).map (kpV t)), faultV t (fl t), faultV t (fl t)]) (.ls [.ls ((kept t).map (kpV t)), .ls ((kept t).map (kpV t)), faultV t (fl t), faultV t (fl t)]) :=
      Sm.ls (SmL.cons (Sm.lc (P5.get (tl := tl) (ex := [])) (sm_kept t 10 (by omega) h5) (by simp; omega)) (SmL.cons (Sm.ls (sm_kept t 10 (by omega) h5) (by simp; omega)) (SmL.cons (sm_fault t _ 11 (by omega) h5) (SmL.cons (sm_fault t _ 11 (by omega) h5) .nil)))) (by simp; omega)
    rw [wp_guard el1 el2 (law_same_ok sm1 C5), seqK_nx, wp_seq, wp_drop]
    have eap := append_loc (y := .non) (P5.get (tl := tl) (ex := [])) (by rw [List.length_map]; omega)
    have P6 : PH 2 (tl ++ [.lst ((kept t).map (kpV t) ++ [.non])]) (h5.set (2 + tl.length) (.lst ((kept t).map (kpV t) ++ [.non]))) := P5.set (tl := tl) (ex := [])
    have T6 : Tn 2 (tl ++ [.lst ((kept t).map (kpV t) ++ [.non])]) := T.new (by
      show clL _ _ = true
      rw [clL_all, List.all_append, ← clL_all, cl_kept]
      rfl)
    rw [wp_eq (mt_ok (var_ok rfl) (isTy_loc (P5.get (tl := tl) (ex := []))) (faC_ok (c_ok (v := .non)) faN_ok) eap), seqK_nx, wp_ret]
    generalize h5.set (2 + tl.length) (.lst ((kept t).map (kpV t) ++ [.non])) = h6 at *
    have C6 := P6.cn T6
    have q1 : fOp (gEq false) (fFz (fCall 1 fe_tokens (faC (fVar 2) (faN)))) (fVar 8) [some (.loc 0), some (.loc 1), some (.str t), z3, some (.ls ((fndL (cuts none 0 t)).map (kpV t))), some (.ls ((fau (cuts none 0 t)).map (fpV t))), some (.bl true), some (faultV t (fl t)), some (.ls ((kept t).map (kpV t))), some (.loc (2 + tl.length)), none, none] h6 = .ok (.bl true) h6 :=
      op_ok (fz_new C6 (call1_ok (var_ok rfl) (tokens_ok t (by omega) h6 C6)) (cl_kept _ _ _)) (var_ok rfl) (eq_refl_dv (k := 3) h6 (dv_kept s) (by omega) rfl)
    have q2 : fOr (fOp (gIsN false) (fVar 7) (fC .non)) (fOp (gEq false) (fCall 1 fe_deed_fault (faC (fVar 2) (faN))) (fVar 7)) [some (.loc 0), some (.loc 1), some (.str t), z3, some (.ls ((fndL (cuts none 0 t)).map (kpV t))), some (.ls ((fau (cuts none 0 t)).map (fpV t))), some (.bl true), some (faultV t (fl t)), some (.ls ((kept t).map (kpV t))), some (.loc (2 + tl.length)), none, none] h6 = .ok (.bl true) h6 := by
      cases e : fl t with
      | none => exact (orE_b (y := true) (isN_ok (v := .non) false (var_ok rfl) c_ok) fun z => by cases z).trans rfl
      | some g =>
        exact (orE_b (isN_ok (v := fpV t g) false (var_ok rfl) c_ok) fun _ => op_ok (call1_ok (var_ok rfl) (deed_fault_bad t (by omega) h6 C6 e)) (var_ok rfl) (eq_refl_dv (k := 1) h6 (dv_fp s (fl_sml (by omega) e)) (by omega) rfl)).trans rfl
    rw [wp_eq (and_ok (k := true) q1 (fun _ => q2) (fun z => by cases z))]
    exact ⟨rfl, _, P6, T6⟩
end K11
/-! the law's body, with its draws -/
namespace K11
open PySem Fv
variable {tl : List SO} {h : SH}
theorem law_right_ok (P : PH 2 tl h) (T : Tn 2 tl) : wp (fe__law_right [.loc 0, .loc 1] h) fun v h' => v = .bl true ∧ ∃ ex, PH 2 (tl ++ ex) h' ∧ Tn 2 (tl ++ ex) := by
  refine wp.via fun Q hQ => ?_
  have hs := sizeLine_eq
  unfold fe__law_right fb__law_right
  apply wp_body
  (simp only [startS, List.map_cons, List.map_nil, List.length_cons, List.length_nil, List.replicate, List.cons_append, List.nil_append, Nat.reduceAdd, Nat.reduceSub])
  rw [wp_seq, wp_set, c_empty]
  refine wp_join ?_
  rw [wp_faC]
  refine (wp_rngP 0 15 Pc pc_vf P T (by omega) (drawP P (by omega) rfl rfl (by omega)) (fun j tl h P T => ?_)).mono fun v h1 ⟨vs, e, _, l2, k, P1⟩ => ?_
  · rw [wp_call1, wp_var rfl]
    exact (piece_ok P T (by omega)).mono fun v h q => ⟨q.1, [], by simpa using q.2, by simpa using T⟩
  subst e
  obtain ⟨ws, rfl, kw⟩ := pcs_of k
  rw [List.length_map] at l2
  obtain ⟨f1, f2, f3⟩ := flat_le kw
  rw [wp_faN, wp_eq (join_ls (by simp; omega) h1), joinL_nil]
  generalize ws.flatten = t at *
  have l3 : t.length ≤ 200 := by omega
  rw [seqK_nx]
  try simp only [List.set_cons_zero, List.set_cons_succ]
  have fin : ∀ (t : Tx) (z3 : Option SV) (h : SH), t.length ≤ 300 → Sml t → PH 2 tl h → wp (rgT [some (.loc 0), some (.loc 1), some (.str t), z3, none, none, none, none, none, none, none, none] h) (fun fl h => match fl with | .rt v => Q v h | .nx _ => Q .non h | _ => False) := fun t z3 h lt st P => by
    refine (rest_ok t lt st z3 P T).mono fun fl h2 q => ?_
    cases fl with
    | rt v => exact hQ _ _ q
    | nx _ => exact q.elim
    | bk _ => exact q.elim
    | ct _ => exact q.elim
  rw [wp_seq, wp_ifS]
  refine wp_tst ?_
  rw [wp_op]
  refine (drawP P1 (by omega) rfl rfl (by omega)).mono fun v h2 ⟨d, e, _, _, P2⟩ => ?_
  subst e
  rw [wp_c, wp_eq (eq_int _ _ false _)]
  refine ⟨_, rfl, ?_⟩
  by_cases c0 : ((d : Nat) : Int) = 0
  · rw [decide_eq_true c0]
    simp only [Bool.false_eq_true, if_false, if_true]
    rw [wp_seq, wp_set, wp_call2, wp_var rfl, wp_eq (op_ok (ca_ok (faC_ok (var_ok rfl) faN_ok) (len_str (by omega) h2)) c_ok (add_int _ _ _))]
    refine (draw_ok P2 (by omega) (by omega) (by omega)).mono fun v h3 ⟨a, e, la, P3⟩ => ?_
    subst e
    rw [seqK_nx, wp_set]
    try simp only [List.set_cons_zero, List.set_cons_succ]
    rw [wp_op, wp_op]
    rw [wp_eq (sl_ok (var_ok rfl) oN_ok (oS_ok (var_ok rfl)) (sl_str_to (by omega) a h3))]
    refine (pickP P3 T (by omega) rfl (lst_at (fun h => rfl) (fun n => rfl) (by simp; omega)) (by simp) (by simp)).mono fun v h4 ⟨hv, P4⟩ => ?_
    obtain ⟨w, rfl, lw, sw⟩ := pcB (by decide) v hv
    have la2 : a ≤ t.length := by omega
    rw [wp_eq (add_str (by simp; omega) h4), wp_eq (sl_ok (var_ok rfl) (oS_ok (var_ok rfl)) oN_ok (sl_str_from (by omega) a h4)), wp_eq (add_str (by simp; omega) h4), seqK_nx]
    try simp only [List.set_cons_zero, List.set_cons_succ]
    exact fin _ _ _ (by simp; omega) (smlapp (smlapp (smltake _ f2) sw) (smldrop _ f2)) P4
  · rw [decide_eq_false c0]
    simp only [Bool.false_eq_true, if_false]
    rw [wp_nx, seqK_nx]
    exact fin _ _ _ (by omega) f2 P2
end K11
/-! the law's long texts -/
namespace K11
open PySem Fv PyProof.Rows
def ddT : Tx := [100, 101, 101, 100, 32, 97, 40, 41, 32, 123, 32]
def upT (n : Nat) : Tx := (List.replicate n [117, 112, 32]).flatten
def xxT (n : Nat) : Tx := (List.replicate n [120]).flatten
def T1 : Tx := ddT ++ upT 1328 ++ xxT 6
theorem T1_len : T1.length = 4001 := by decide +kernel
theorem T1_bad : (bad (cuts none 0 T1)).isNone = true := by decide +kernel
theorem T1_lf : (T1.all fun c => decide (c ≠ 10)) = true := by decide +kernel
def T0 : Tx := T1.take 4000
theorem T0_len : T0.length = 4000 := by decide +kernel
theorem T0_bad : (bad (cuts none 0 T0)).isNone = true := by decide +kernel
def upC (i : Nat) : Ct := (11 + 3 * i, some 32, [117, 112])
def sixC : List Ct := [(0, none, [100, 101, 101, 100]), (5, some 32, [97]), (6, some 97, [40]), (7, some 40, [41]), (9, some 32, [123])]
def allC : List Ct := sixC ++ ((List.range 1328).map upC ++ [(3995, some 32, [120, 120, 120, 120, 120])])
theorem T0_fnd : decide (fnd (cuts none 0 T0) = allC) = true := by decide +kernel
theorem plF_no : ∀ l : Tx, (∀ c ∈ l, c ≠ 10) → plF l = (1, l.length + 1) := fun l => by
  induction l using snoc_ind with
  | h0 => intro _; rfl
  | h1 l x ih =>
    intro h
    rw [plF_snoc, ih fun c hc => h c (List.mem_append.mpr (.inl hc))]
    unfold stp
    rw [if_neg (h x (by simp))]
    simp
theorem T1_no : ∀ c ∈ T1, c ≠ 10 := fun c hc => of_decide_eq_true (List.all_eq_true.mp T1_lf c hc)
theorem T0_no : ∀ c ∈ T0, c ≠ 10 := fun c hc => T1_no c (List.mem_of_mem_take hc)
theorem T1_pl (a : Nat) (h : a ≤ 4001) : plA T1 a = (1, a + 1) := by
  unfold plA
  rw [plF_no _ fun c hc => T1_no c (List.mem_of_mem_take hc), List.length_take, T1_len, Nat.min_eq_left h]
theorem T0_pl (a : Nat) (h : a ≤ 4000) : plA T0 a = (1, a + 1) := by
  unfold plA
  rw [plF_no _ fun c hc => T0_no c (List.mem_of_mem_take hc), List.length_take, T0_len, Nat.min_eq_left h]
theorem T1_fl : fl T1 = some (sLng, 4000) := by
  unfold fl
  rw [Option.isNone_iff_eq_none.mp T1_bad]
  show (if 4000 < T1.length then some (sLng, 4000) else none) = _
  rw [T1_len]
  rfl
theorem T0_fl : fl T0 = none := by
  unfold fl
  rw [Option.isNone_iff_eq_none.mp T0_bad]
  show (if 4000 < T0.length then some (sLng, 4000) else none) = _
  rw [T0_len]
  rfl
def tkP (x : Ct) : SV := .tup [.str x.2.2, .tup [.int 1, .int ((x.1 + 1 : Nat) : Int)]]
theorem T0_kept : (kept T0).map (kpV T0) = allC.map tkP := by
  have h1 : kept T0 = allC := by
    unfold kept
    rw [T0_fl, ← of_decide_eq_true T0_fnd]
    exact List.filter_eq_self.mpr fun _ _ => rfl
  rw [h1]
  refine List.map_congr_left fun x hx => ?_
  rw [← of_decide_eq_true T0_fnd] at hx
  have := cuts_lt x (fnd_mem hx)
  rw [T0_len] at this
  unfold kpV plV
  rw [T0_pl _ (by omega)]
  rfl
end K11
/-! the law's long texts -/
namespace K11
open PySem Fv PyProof.Rows
def TK : List SV := allC.map tkP ++ [.tup [.str [], .tup [.int 1, .int 4001]]]
def rdD (T : List SV) (w : Nat) : SO := .dic [(.str (("tokens" : PySem.Str).cps.toList), .ls T), (.str (("at" : PySem.Str).cps.toList), .int 0), (.str (("wanted" : PySem.Str).cps.toList), .loc w), (.str (("blocks" : PySem.Str).cps.toList), .int 0), (.str (("loops" : PySem.Str).cps.toList), .int 0), (.str (("steps" : PySem.Str).cps.toList), .int 0), (.str (("nested" : PySem.Str).cps.toList), .int 0), (.str (("between" : PySem.Str).cps.toList), .int 0)]
def Hp2 (a b c d : Int) : SH := ⟨[.lst [.int a, .int b], .lst [.int c, .int d]]⟩
def H0 (a b c d : Int) : SH := ⟨[.lst [.int a, .int b], .lst [.int c, .int d], rdD TK 3, .dic []]⟩
def exOf (o : Out SV) : List SO := match o with
  | .exc _ h => h.c.drop 2
  | _ => []
def synV : SV := .tup [.str (("syntax" : PySem.Str).cps.toList), .int 1, .int 12]
def rdF : FS := fRet (fDisp ((fC (.str (("tokens" : PySem.Str).cps.toList)), fFz (fOp gAdd (fVar 1) (fFz (fLst (faC (fTup (faC (fC (.str (("" : PySem.Str).cps.toList))) (faC (fVar 2) (faN)))) (faN)))))) :: (fC (.str (("at" : PySem.Str).cps.toList)), fC (.int 0)) :: (fC (.str (("wanted" : PySem.Str).cps.toList)), fNewD) :: (fC (.str (("blocks" : PySem.Str).cps.toList)), fC (.int 0)) :: (fC (.str (("loops" : PySem.Str).cps.toList)), fC (.int 0)) :: (fC (.str (("steps" : PySem.Str).cps.toList)), fC (.int 0)) :: (fC (.str (("nested" : PySem.Str).cps.toList)), fC (.int 0)) :: (fC (.str (("between" : PySem.Str).cps.toList)), fC (.int 0)) :: []))
end K11
/-! the law's long texts -/
namespace K11
open PySem Fv PyProof.Rows
theorem tree_k (a b c d : Int) : fe_tree_by [.loc 2] (H0 a b c d) = .exc ⟨0, [("fault", synV)]⟩ ⟨(Hp2 a b c d).c ++ exOf (fe_tree_by [.loc 2] (H0 a b c d))⟩ := by
  kernel_rfl
end K11
/-! the law's long texts -/
namespace K11
open PySem Fv PyProof.Rows
theorem rd_k (a b c d : Int) : rdF [some (.str T0), some (.ls (allC.map tkP)), some (.tup [.int 1, .int 4001]), some .non] (Hp2 a b c d) = .ok (.rt (.loc 2)) (H0 a b c d) := by
  kernel_rfl
end K11
/-! the law's long texts -/
namespace K11
open PySem Fv PyProof.Rows
theorem cn_pots (a b c d : Int) : Cn (Hp2 a b c d) := rfl
theorem reader_T0 (a b c d : Int) : fe_reader_of [.str T0] (Hp2 a b c d) = .ok (.loc 2) (H0 a b c d) := by
  have hT : T0.length < 100000 := by rw [T0_len]; omega
  unfold fe_reader_of fb_reader_of fBody startS
  (simp only [startS, List.map_cons, List.map_nil, List.length_cons, List.length_nil, List.replicate, List.cons_append, List.nil_append, Nat.reduceAdd, Nat.reduceSub])
  unfold fSeq
  have e1 : fAsg (fNX (fFz (fCall 1 fe_read_signs (faC (fVar 0) (faN))))) (gtTup 3 (gtCons (gtName 1) (gtCons (gtName 2) (gtCons (gtName 3) (gtNil))))) [some (.str T0), none, none, none] (Hp2 a b c d) = .ok (.nx [some (.str T0), some (.ls (allC.map tkP)), some (.tup [.int 1, .int 4001]), some .non]) (Hp2 a b c d) := by
    unfold fAsg fNX
    have e0 := fz_read T0 hT (Hp2 a b c d) (cn_pots a b c d) (i := 0) (η := [some (.str T0), none, none, none]) rfl
    rw [T0_kept, T0_fl, plF_no _ T0_no, T0_len] at e0
    rw [e0]
    rfl
  rw [e1, bok]
  simp only
  have e2 : fIfS (fTst (fOp (gIsN true) (fVar 3) (fC .non))) (fRaise 0 "fault" (fVar 3)) (fNx) [some (.str T0), some (.ls (allC.map tkP)), some (.tup [.int 1, .int 4001]), some .non] (Hp2 a b c d) = .ok (.nx [some (.str T0), some (.ls (allC.map tkP)), some (.tup [.int 1, .int 4001]), some .non]) (Hp2 a b c d) := rfl
  rw [e2, bok]
  simp only
  have e3 := rd_k a b c d
  unfold rdF at e3
  rw [e3, bok]
theorem deed_exc (t : Tx) (h h1 h2 : SH) (r v : SV) (er : fe_reader_of [.str t] h = .ok r h1) (et : fe_tree_by [r] h1 = .exc ⟨0, [("fault", v)]⟩ h2) : fe_deed_fault [.str t] h = .ok v h2 := by
  unfold fe_deed_fault fb_deed_fault fBody startS
  (simp only [startS, List.map_cons, List.map_nil, List.length_cons, List.length_nil, List.replicate, List.cons_append, List.nil_append, Nat.reduceAdd, Nat.reduceSub])
  have e0 : fe_tree_of [.str t] h = .exc ⟨0, [("fault", v)]⟩ h2 := by
    unfold fe_tree_of fb_tree_of fBody startS
    (simp only [startS, List.map_cons, List.map_nil, List.length_cons, List.length_nil, List.replicate, List.cons_append, List.nil_append, Nat.reduceAdd, Nat.reduceSub])
    unfold fRet
    rw [call1, call1]
    have : fVar 0 [some (SV.str t)] h = .ok (.str t) h := rfl
    rw [this, bok, er, bok, et]
    rfl
  unfold fSeq
  have e1 : fDrop (fCall 1 fe_check_text (faC (fVar 0) faN)) [some (.str t), none] h = .ok (.nx [some (.str t), none]) h := rfl
  rw [e1, bok]
  simp only
  have e2 : fTryF 0 "fault" (fDrop (fCall 1 fe_tree_of (faC (fVar 0) faN))) [some (.str t), none] h = .ok (.rt v) h2 := by
    unfold fTryF fDrop
    rw [call1]
    have : fVar 0 [some (SV.str t), none] h = .ok (.str t) h := rfl
    rw [this, bok, e0]
    rfl
  rw [e2]
  rfl
theorem deed_T0 (a b c d : Int) : ∃ ex, fe_deed_fault [.str T0] (Hp2 a b c d) = .ok synV ⟨(Hp2 a b c d).c ++ ex⟩ :=
  ⟨_, deed_exc T0 _ _ _ _ _ (reader_T0 a b c d) (tree_k a b c d)⟩
theorem fz_lstX {a : FA} {η : Sl} {h : SH} {xs : List SV} {ex : List SO} (C : Cn h) (e : a η h = .ok xs ⟨h.c ++ ex⟩) (c : clL h.nx xs = true) (hl : xs.length ≤ sizeLine) : fFz (fLst a) η h = .ok (.ls xs) h := by
  unfold fFz fLst
  rw [e, bok]
  rw [if_pos hl]
  have e2 : (SH.new ⟨h.c ++ ex⟩ (.lst xs)) = ⟨h.c ++ (ex ++ [.lst xs])⟩ := by
    unfold SH.new
    simp
  rw [e2]
  refine cut_ext C ?_
  rw [← e2]
  refine fzV_loc get_new_same ?_ c
  unfold SH.nx
  simp
end K11
/-! the law -/
namespace K11
open PySem Fv PyProof.Rows
def lawT : FS := fSeq (fIfS (fNotT (fTru (fCall 2 fe__law_same (faC (fFz (fLst (faC (fCall 1 fe_token_fault (faC (fVar 4) (faN))) (faC (fCall 1 fe_deed_fault (faC (fVar 4) (faN))) (faC (fCall 1 fe_deed_fault (faC (fSl gSl (fVar 4) (foN) (foS (fC (.int 4000)))) (faN))) (faN)))))) (faC (fFz (fLst (faC (fTup (faC (fC (.str (("long" : PySem.Str).cps.toList))) (faC (fC (.int 1)) (faC (fC (.int 4001)) (faN))))) (faC (fTup (faC (fC (.str (("long" : PySem.Str).cps.toList))) (faC (fC (.int 1)) (faC (fC (.int 4001)) (faN))))) (faC (fTup (faC (fC (.str (("syntax" : PySem.Str).cps.toList))) (faC (fC (.int 1)) (faC (fC (.int 12)) (faN))))) (faN)))))) (faN)))))) (fRet (fC (.bl false))) (fNx)) (fRet (fAnd (fOp (gIsN false) (fCall 1 fe_token_fault (faC (fSl gSl (fVar 4) (foN) (foS (fC (.int 4000)))) (faN))) (fC .non)) (fCa gAll (faC (fFz (fLc (fiRng1 (faC (fC (.int 10)) (faN))) (gtName 5) (fun _ h => .ok true h) (fCall 2 fe__law_right (faC (fVar 1) (faC (fVar 2) (faN)))) [5])) (faN)))))
def lngV : SV := .tup [.str (("long" : PySem.Str).cps.toList), .int 1, .int 4001]
theorem law_tail {t : Tx} {a b c d : Int} {z0 z3 : SV} (ht : t.length = 4001) (e1 : ∀ h, Cn h → fe_token_fault [.str t] h = .ok lngV h) (e2 : ∀ h, Cn h → fe_deed_fault [.str t] h = .ok lngV h)
    (e3 : ∃ ex, fe_deed_fault [.str (t.take 4000)] (Hp2 a b c d) = .ok synV ⟨(Hp2 a b c d).c ++ ex⟩) (e4 : ∀ h, Cn h → fe_token_fault [.str (t.take 4000)] h = .ok .non h) :
    wp (lawT [some z0, some (.loc 0), some (.loc 1), some z3, some (.str t), none] (Hp2 a b c d)) fun fl h => match fl with
      | .rt v => v = .bl true
      | _ => False := by
  have hs := sizeLine_eq
  have C := cn_pots a b c d
  have P : PH 2 [] (Hp2 a b c d) := ⟨[(a, b), (c, d)], rfl, rfl⟩
  have T : Tn 2 [] := rfl
  obtain ⟨ex, e3⟩ := e3
  unfold lawT
  generalize Hp2 a b c d = h at *
  have sl : ∀ (h : SH), fSl gSl (fVar 4) (foN) (foS (fC (.int 4000))) [some z0, some (.loc 0), some (.loc 1), some z3, some (.str t), none] h = .ok (.str (t.take 4000)) h := fun h => sl_ok (var_ok rfl) oN_ok (oS_ok c_ok) (sl_str_to (by omega) 4000 h)
  have l1 := fz_lstX (ex := ex) (η := [some z0, some (.loc 0), some (.loc 1), some z3, some (.str t), none]) C
    (faC_ok (call1_ok (var_ok (i := 4) rfl) (e1 h C)) (faC_ok (call1_ok (var_ok (i := 4) rfl) (e2 h C)) (faC_ok (call1_ok (sl h) e3) faN_ok))) rfl (by simp; omega)
  have l2 := fz_lst' (η := [some z0, some (.loc 0), some (.loc 1), some z3, some (.str t), none]) C
    (faC_ok (tup_ok (faC_ok (c_ok (v := .str (("long" : PySem.Str).cps.toList))) (faC_ok (c_ok (v := .int 1)) (faC_ok (c_ok (v := .int 4001)) faN_ok))) (by simp; omega)) (faC_ok (tup_ok (faC_ok (c_ok (v := .str (("long" : PySem.Str).cps.toList))) (faC_ok (c_ok (v := .int 1)) (faC_ok (c_ok (v := .int 4001)) faN_ok))) (by simp; omega))
      (faC_ok (tup_ok (faC_ok (c_ok (v := .str (("syntax" : PySem.Str).cps.toList))) (faC_ok (c_ok (v := .int 1)) (faC_ok (c_ok (v := .int 12)) faN_ok))) (by simp; omega)) faN_ok))) rfl (by simp; omega)
  have sm : Sm h 12 (.ls [lngV, lngV, synV]) (.ls [lngV, lngV, synV]) := dp_sm 12 _ (by
    show (decide (3 ≤ sizeLine) && (dp 11 lngV && (dp 11 lngV && (dp 11 synV && true)))) = true
    have q : ∀ (w : List Nat) (i j : Int), dp 11 (.tup [.str w, .int i, .int j]) = true := fun w i j => by
      show (decide (3 ≤ sizeLine) && (dp 10 (.str w) && (dp 10 (.int i) && (dp 10 (.int j) && true)))) = true
      rw [decide_eq_true (by omega)]
      rfl
    unfold lngV synV
    rw [q, q, decide_eq_true (by omega)]
    rfl)
  rw [wp_seq, wp_guard l1 l2 (law_same_ok sm C), seqK_nx, wp_ret]
  have q1 := isN_ok (v := .non) false (call1_ok (sl h) (e4 h C)) (c_ok (v := .non))
  have q2 : ∀ b : F, fAnd (fOp (gIsN false) (fCall 1 fe_token_fault (faC (fSl gSl (fVar 4) (foN) (foS (fC (.int 4000)))) (faN))) (fC .non)) b [some z0, some (.loc 0), some (.loc 1), some z3, some (.str t), none] h = b [some z0, some (.loc 0), some (.loc 1), some z3, some (.str t), none] h := fun b => and_ok (k := true) q1 (fun _ => rfl) (fun z => by cases z)
  rw [q2, wp_ca, wp_faC]
  refine (wp_rngP 10 10 (fun v => v = .bl true) (fun v e => by rw [e]; exact Vf.bl _) P T (by omega) (.ok ⟨10, rfl, by omega, by omega, P⟩) (fun j tl h P T => ?_)).mono fun v h7 ⟨vs, e, _, _, k, P7⟩ => ?_
  · rw [wp_call2, wp_var rfl, wp_var rfl]
    exact law_right_ok P T
  · subst e
    rw [bl_all k, wp_faN, all_bls, wp_ok]
    simp
theorem mulS_ok (a : List Nat) (k : Nat) (h1 : 2 ≤ k) (h2 : k ≤ 65536) (h3 : 1 ≤ a.length) (h4 : a.length ≤ 256) (h : SH) : gMulS (.str a) (.int (k : Int)) h = .ok (.str (List.replicate k a).flatten) h := by
  unfold gMulS
  simp only
  rw [if_pos (by simp only [Bool.and_eq_true, decide_eq_true_eq]; omega), Int.toNat_natCast]
theorem c_dd : (("deed a() { " : PySem.Str).cps.toList) = ddT := rfl
theorem c_up : (("up " : PySem.Str).cps.toList) = [117, 112, 32] := rfl
theorem c_x : (("x" : PySem.Str).cps.toList) = [120] := rfl
theorem L_len : (ddT ++ upT 1328).length = 3995 := by decide +kernel
theorem law_ok (ns : List Int) (hl : ns.length ≤ 63) : ∃ h', fe_law [.fl (ns.map SV.int)] ⟨[]⟩ = .ok (.bl true) h' := by
  have w : wp (fe_law [.fl (ns.map SV.int)] ⟨[]⟩) fun v h' => v = .bl true := by
    have hs := sizeLine_eq
    unfold fe_law fb_law
    apply wp_body
    (simp only [startS, List.map_cons, List.map_nil, List.length_cons, List.length_nil, List.replicate, List.cons_append, List.nil_append, Nat.reduceAdd, Nat.reduceSub])
    have C0 : Cn ⟨[]⟩ := rfl
    obtain ⟨a, b, e0⟩ := pot_ok ns hl (k := 0) (by decide) (by decide) ⟨[]⟩ C0
    have P1 : PH 1 [] ((⟨[]⟩ : SH).new (.lst [.int a, .int b])) := ⟨[(a, b)], rfl, rfl⟩
    have C1 := P1.cn rfl
    obtain ⟨c, d, e1⟩ := pot_ok ns hl (k := 1) (by decide) (by decide) ((⟨[]⟩ : SH).new (.lst [.int a, .int b])) C1
    rw [wp_seq, wp_asg, wp_eq (tup_ok (faC_ok (call2_ok (var_ok rfl) c_ok e0) (faC_ok (call2_ok (var_ok rfl) c_ok e1) faN_ok)) (by show 2 ≤ _; omega))]
    have hh : ((⟨[]⟩ : SH).new (.lst [.int a, .int b])).new (.lst [.int c, .int d]) = Hp2 a b c d := rfl
    rw [hh]
    have et : gtTup 2 (gtCons (gtName 1) (gtCons (gtName 2) gtNil)) (.tup [.loc (SH.nx ⟨[]⟩), .loc (SH.nx ((⟨[]⟩ : SH).new (.lst [.int a, .int b])))]) [some (.fl (ns.map .int)), none, none, none, none, none] (Hp2 a b c d) = .ok [some (.fl (ns.map .int)), some (.loc 0), some (.loc 1), none, none, none] (Hp2 a b c d) := rfl
    rw [wp_eq et, seqK_nx, wp_seq, wp_set, c_dd, c_up, c_x]
    have m1 : gMulS (.str [117, 112, 32]) (.int 1328) (Hp2 a b c d) = .ok (.str (upT 1328)) (Hp2 a b c d) := mulS_ok [117, 112, 32] 1328 (by decide) (by decide) (by decide) (by decide) (Hp2 a b c d)
    have ll := L_len
    have a1 : gAdd (.str ddT) (.str (upT 1328)) (Hp2 a b c d) = .ok (.str (ddT ++ upT 1328)) (Hp2 a b c d) := add_str (by rw [← List.length_append, ll]; omega) _
    rw [wp_eq (op_ok c_ok (op_ok c_ok c_ok m1) a1), seqK_nx, wp_seq, wp_set]
    have hT1 : ddT ++ upT 1328 ++ xxT 6 = T1 := rfl
    have hlen := T1_len
    rw [← hT1] at hlen
    have f1 : ∀ h, Cn h → fe_token_fault [.str T1] h = .ok lngV h := fun h C => by
      rw [token_fault_ok T1 (by rw [T1_len]; omega) h C, T1_fl]
      show Out.ok (SV.tup [SV.str sLng, SV.int ((plA T1 4000).1 : Nat), SV.int ((plA T1 4000).2 : Nat)]) h = _
      rw [T1_pl 4000 (by omega)]
      rfl
    have f2 : ∀ h, Cn h → fe_deed_fault [.str T1] h = .ok lngV h := fun h C => by
      rw [deed_fault_bad T1 (by rw [T1_len]; omega) h C T1_fl]
      show Out.ok (SV.tup [SV.str sLng, SV.int ((plA T1 4000).1 : Nat), SV.int ((plA T1 4000).2 : Nat)]) h = _
      rw [T1_pl 4000 (by omega)]
      rfl
    have f3 := deed_T0 a b c d
    have f4 : ∀ h, Cn h → fe_token_fault [.str T0] h = .ok .non h := fun h C => by
      rw [token_fault_ok T0 (by rw [T0_len]; omega) h C, T0_fl]
      rfl
    have hT0 : T1.take 4000 = T0 := rfl
    rw [← hT0] at f3 f4
    have x1 : (List.replicate 6 [120]).flatten = xxT 6 := rfl
    have l6 : (xxT 6).length = 6 := rfl
    try simp only [List.set_cons_zero, List.set_cons_succ]
    generalize upT 1328 = U at *
    generalize ddT = D at *
    generalize xxT 6 = X at *
    have sub6 : ∀ h, gSub (.int 4001) (.int (((D ++ U).length : Nat) : Int)) h = .ok (.int ((6 : Nat) : Int)) h := fun h => by
      rw [ll]
      rfl
    have m2 := fun h => mulS_ok [120] 6 (by decide) (by decide) (by decide) (by decide) h
    rw [x1] at m2
    rw [wp_eq (op_ok (var_ok rfl) (op_ok c_ok (op_ok c_ok (ca_ok (faC_ok (var_ok rfl) faN_ok) (len_str (by rw [ll]; omega) _)) (sub6 _)) (m2 _)) (add_str (by rw [ll, l6]; omega) _)), seqK_nx, hT1]
    have lt := T1_len
    generalize T1 = t at *
    try simp only [List.set_cons_zero, List.set_cons_succ]
    refine (law_tail (z0 := .fl (ns.map .int)) (z3 := .str (D ++ U)) lt f1 f2 f3 f4).mono fun fl h q => ?_
    cases fl with
    | rt v => exact q
    | nx _ => exact q.elim
    | bk _ => exact q.elim
    | ct _ => exact q.elim
  obtain ⟨v, h', e, rfl⟩ := w.get
  exact ⟨h', e⟩
end K11
namespace K11
open PySem PySem.Spec PyProof.Rows L2 Fv
def names0 : List PySem.Str := ["CLOSED", "LETTERS", "MOST_LETTERS", "StoreError", "InvalidText", "BadDeed", "DIGITS", "DOUBLES", "SIGNS", "BLANKS", "MOST_DIGITS", "MOST_SIGNS", "places_of", "stretch_from", "token_from", "is_lettered", "wrong_with", "tokens_by", "read_signs", "check_text", "tokens", "token_fault", "MOST_NESTED", "MOST_BETWEEN", "UNITS", "COMPARED", "reader_of", "kind_here", "place_here", "looks"]
def names1 : List PySem.Str := ["stop", "go_on", "take", "open_more", "read_scan", "read_bracket", "read_round", "read_named", "read_unit", "read_between", "read_prod", "read_sums", "read_comp", "read_neg", "read_and", "read_or", "begin_anew", "read_whole", "MOST_BLOCKS", "MOST_LOOPS", "MOST_STEPS", "MOST_PARAMETERS", "STARTS", "read_number", "read_put", "read_small", "read_if", "read_loop", "read_step", "read_block"]
def names2 : List PySem.Str := ["read_names", "tree_by", "tree_of", "deed_fault", "_law_pot", "_law_draw", "_law_pick", "_law_same", "_law_letters", "_law_digits", "_law_signs", "_law_place", "_law_end", "_law_lex", "_law_piece", "_law_first", "_law_right"]
abbrev names : List PySem.Str := names0 ++ names1 ++ names2
def exB (K : PySem.W.Frag) : Bool := ((He.tupB K "CLOSED" [.str "let", .str "put", .str "drop", .str "if", .str "else", .str "repeat", .str "each", .str "in", .str "by", .str "from", .str "to", .str "where", .str "answer", .str "give", .str "up", .str "sum", .str "count", .str "of", .str "has", .str "and", .str "or", .str "not", .str "deed", .str "table", .str "index"]) && ((He.tupB K "DOUBLES" [.str "<=", .str ">=", .str "<>"]) && ((He.tupB K "STARTS" [.str "let", .str "NAME", .str "put", .str "drop", .str "answer", .str "give", .str "if", .str "repeat", .str "each"]) && (Fv.exB1 K "BadDeed" "fault"))))
abbrev R : PySem.W.OpenRow := PySem.W.OpenLaw.row PySem.Challenge.rw_oneafter_k11_whole_tokens_and_what_is_wr
abbrev hk : PySem.W.Hook := He.hookX 4 faL fnL [] [] exB
def ob (s : PySem.W.SharedT) : He.AlX := He.obsX 4 faL fnL [] [] exB (HandSHeadRun.getT s)
theorem ob_eq (s : PySem.W.SharedT) : ob s = hk.obs s.abs := He.obsX_eq (HandSHeadRun.getT_eq s)
theorem runA (w : World) (os : OsState) : (Fv.runF R 12000 w os).map (Fv.lookA R w) = some true := by
  kernel_rfl
theorem runB (w : World) (os : OsState) : (Fv.runF R 12000 w os).map (Fv.lookB R (PySem.W.view R.prog [82]) names) = some (PySem.W.openGood (PySem.W.view R.prog [82]) names) := by
  kernel_rfl
theorem runC0 (w : World) (os : OsState) : (Fv.runF R 12000 w os).map ob = some (hk.val w) := by
  kernel_rfl
theorem topRun (w : World) : HandSHeadRun.RunEq R (PySem.W.view R.prog [82]) hk ob 12000 names w :=
  Fv.run_of (runA w) (runB w) fun os s e => Fv.part_of (runC0 w) os s e
theorem st_CLOSED {K : PySem.W.Frag} {γ : Nat → Option Addr} (h : He.tupB K "CLOSED" [.str "let", .str "put", .str "drop", .str "if", .str "else", .str "repeat", .str "each", .str "in", .str "by", .str "from", .str "to", .str "where", .str "answer", .str "give", .str "up", .str "sum", .str "count", .str "of", .str "has", .str "and", .str "or", .str "not", .str "deed", .str "table", .str "index"] = true) : Stat ⟨K, γ⟩ (.tup tup_CLOSED) (.ref (He.ga K "CLOSED")) :=
  stat_tup (fun H => He.tupB_ok h H) fun ρ H => .cons (.str _) (.cons (.str _) (.cons (.str _) (.cons (.str _) (.cons (.str _) (.cons (.str _) (.cons (.str _) (.cons (.str _) (.cons (.str _) (.cons (.str _) (.cons (.str _) (.cons (.str _) (.cons (.str _) (.cons (.str _) (.cons (.str _) (.cons (.str _) (.cons (.str _) (.cons (.str _) (.cons (.str _) (.cons (.str _) (.cons (.str _) (.cons (.str _) (.cons (.str _) (.cons (.str _) (.cons (.str _) (.nil)))))))))))))))))))))))))
theorem st_DOUBLES {K : PySem.W.Frag} {γ : Nat → Option Addr} (h : He.tupB K "DOUBLES" [.str "<=", .str ">=", .str "<>"] = true) : Stat ⟨K, γ⟩ (.tup tup_DOUBLES) (.ref (He.ga K "DOUBLES")) :=
  stat_tup (fun H => He.tupB_ok h H) fun ρ H => .cons (.str _) (.cons (.str _) (.cons (.str _) (.nil)))
theorem st_STARTS {K : PySem.W.Frag} {γ : Nat → Option Addr} (h : He.tupB K "STARTS" [.str "let", .str "NAME", .str "put", .str "drop", .str "answer", .str "give", .str "if", .str "repeat", .str "each"] = true) : Stat ⟨K, γ⟩ (.tup tup_STARTS) (.ref (He.ga K "STARTS")) :=
  stat_tup (fun H => He.tupB_ok h H) fun ρ H => .cons (.str _) (.cons (.str _) (.cons (.str _) (.cons (.str _) (.cons (.str _) (.cons (.str _) (.cons (.str _) (.cons (.str _) (.cons (.str _) (.nil)))))))))
theorem facts {P : Program} {w : World} {K : PySem.W.Frag} {h : Heap} {mg : PySem.Str → Option Value} {a : Addr} (X : K.In h) (Gn : h.Ns mainGlobals mg) (ha : mg ("law" : PySem.Str) = some (.ref a)) (c : He.SaysX faL fnL [] [] exB w h K) :
    ∃ fd : FuncData, (∀ (s : Shared) (v : Value), BindsTo s fd ⟨[v], []⟩ [("script", v)]) ∧ ∀ base : Heap, FnG P w K mg base CX0 15 a fd ["script"] (spF ⟨K, fun _ => none⟩ WF0 1 fe_law) := by
  have T : Fx faL fnL K mg := Fx.of X Gn c.t.d
  have e := ha.symm.trans (T.g 63)
  cases e
  obtain ⟨fd, F⟩ := T.ok.def_ 36 (d := d_law) rfl
  have b := FunD.bindsA (ps := ["script"]) F fun _ _ _ _ _ _ us hl => match us, hl with | [_], _ => rfl
  refine ⟨fd, fun s v => b s [v] rfl, fun base => ?_⟩
  obtain ⟨f', fd', C⟩ := ok_law (P := P) (w := w) (base := base) (γ := fun _ => none) T ⟨st_CLOSED (by have z := c.more; unfold exB at z; simp only [Bool.and_eq_true] at z; exact z.1), st_DOUBLES (by have z := c.more; unfold exB at z; simp only [Bool.and_eq_true] at z; exact z.2.1), st_STARTS (by have z := c.more; unfold exB at z; simp only [Bool.and_eq_true] at z; exact z.2.2.1), (by have z := c.more; unfold exB at z; simp only [Bool.and_eq_true] at z; exact z.2.2.2)⟩
  have e1 := C.m.symm.trans (T.g 63)
  cases e1
  obtain ⟨oc, od, dV, kV, doc, pm, an, cdv, ct, osl, e2, lk, _⟩ := C.F.ex
  obtain ⟨oc', od', dV', kV', doc', pm', an', cdv', ct', osl', e2', lk', _⟩ := F.ex
  have e3 := lk.symm.trans lk'
  have e4 : fd' = fd := by
    injection e3 with e3
    injection e3 with _ _ e3 _
    injection e3
  exact e4 ▸ C.ok
theorem plain (ns : List Int) (hl : ns.length ≤ 63) : ∃ h', fe_law [.fl (ns.map SV.int)] h00 = .ok (.bl true) h' := law_ok ns hl
end K11
open PySem PySem.W PySem.Calls PyProof.Rows
theorem PySem.Challenge.cw_oneafter_k11_whole_tokens_and_what_is_wr_holds : PySem.Challenge.rw_oneafter_k11_whole_tokens_and_what_is_wr.Holds := by
  w_on; o_law
  refine HandSHeadRun.head_any (r := OpenLaw.row PySem.Challenge.rw_oneafter_k11_whole_tokens_and_what_is_wr) (q := view (OpenLaw.row PySem.Challenge.rw_oneafter_k11_whole_tokens_and_what_is_wr).prog [82]) (H := K11.hk) (ob := K11.ob) (M := 12000) (loose := K11.names) (d := HandSHeadRun.topDef (OpenLaw.row PySem.Challenge.rw_oneafter_k11_whole_tokens_and_what_is_wr).prog 82) (kwd := []) K11.ob_eq
    (by kernel_rfl) (fun s => by kernel_rfl) K11.topRun (by kernel_rfl) (by kernel_rfl) (by kernel_rfl) (by rfl) (by first | assumption | decide +kernel) (by decide +kernel) ⟨rfl, rfl, rfl, rfl, rfl, by decide +kernel⟩ ?hw ?hc
  case hw => w_witness2
  case hc =>
    refine Fv.walkG (l := PySem.Challenge.rw_oneafter_k11_whole_tokens_and_what_is_wr) (n := 63) (k := 15) (x := "script") rfl (by decide) (by kernel_rfl) ⟨rfl, by decide, by decide⟩ ?F
    intro w mg fa h Y G hmg0
    obtain ⟨K, KX, c⟩ := Y
    have hmg : mg ("law" : PySem.Str) = some (.ref fa) := by
      have e : (HandSHeadRun.topDef (OpenLaw.row PySem.Challenge.rw_oneafter_k11_whole_tokens_and_what_is_wr).prog 82).name = ("law" : PySem.Str) := by kernel_rfl
      rw [← e]
      exact hmg0
    obtain ⟨fd, hb, hF⟩ := K11.facts (P := (PySem.Challenge.rw_oneafter_k11_whole_tokens_and_what_is_wr).prog) (w := w) KX G hmg c
    exact ⟨K, fd, _, KX, hb, fun H a ns hl hO hS => Fv.sp_script (K11.plain ns hl) hO hS, fun base _ _ => hF base⟩
