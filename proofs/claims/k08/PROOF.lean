import PyProof.Rows.All
import Wide.All
import OpenK.AllK
import Wide.FinOn
import HandS.ForMost
import HandS.Exc
import HandS.TryMany
import HandS.Lambda
import HandS.Defaults
import HandS.IsInst
import HandS.ExcField
import HandS.ExcSuper
import HandS.WideBits
import HandS.TupAny
import HandS.TupMul
import HandS.Wide
import HandS.Style
import PyProof.StrOps2
import HandS.Zip
import HandS.Iter
import HandS.ExcInit
import KE.KExcLine
import HandS.More
import PyProof.Draws
import PyProof.EnumMake
import HandS.EndTab
import HandS.HeadWalk
import HandS.HeadHook4
import HandS.Head0
import HandS.Head1
import HandS.Head2
import HandS.HeadEnd
import HandS.HotCalls
import PySem.Challenge.RW_twoled_k08_whole_euclid_and_the_greatest
set_option Elab.async false
section
set_option Elab.async false
set_option linter.all false
set_option maxRecDepth 100000
/-! M1: data, the mini heap, what a value stands for, growth, results. -/
namespace MP
open PySem PySem.Spec PyProof.Rows L2

abbrev S (l : List Nat) : Str := ⟨l.toArray⟩
/-- a text's signs -/
def tx (s : String) : List Nat := s.toList.map Char.toNat

/-- a Python value, as the mirror has it -/
inductive D where
  | non | bl (b : Bool) | int (i : Int) | str (l : List Nat)
  | tup (ds : List D) | lst (ds : List D) | ref (i : Nat) | glo (x : Str) | clo (n : Nat) (cs : List D)
instance : Inhabited D := ⟨.non⟩

mutual
def D.beq : D → D → Bool
  | .non, .non => true
  | .bl a, .bl b => a == b
  | .int a, .int b => a == b
  | .str a, .str b => a == b
  | .tup a, .tup b => D.beqs a b
  | .lst a, .lst b => D.beqs a b
  | .ref a, .ref b => a == b
  | .glo a, .glo b => a == b
  | .clo n a, .clo m b => n == m && D.beqs a b
  | _, _ => false
def D.beqs : List D → List D → Bool
  | [], [] => true
  | x :: xs, y :: ys => D.beq x y && D.beqs xs ys
  | _, _ => false
end
mutual
theorem D.beq_ok : ∀ (a b : D), D.beq a b = true ↔ a = b
  | .non, b => by cases b <;> simp [D.beq]
  | .bl a, b => by cases b <;> simp [D.beq]
  | .int a, b => by cases b <;> simp [D.beq]
  | .str a, b => by cases b <;> simp [D.beq]
  | .tup a, b => by cases b <;> simp [D.beq, D.beqs_ok a]
  | .lst a, b => by cases b <;> simp [D.beq, D.beqs_ok a]
  | .ref a, b => by cases b <;> simp [D.beq]
  | .glo a, b => by cases b <;> simp [D.beq]
  | .clo n a, b => by cases b <;> simp [D.beq, D.beqs_ok a]
theorem D.beqs_ok : ∀ (a b : List D), D.beqs a b = true ↔ a = b
  | [], b => by cases b <;> simp [D.beqs]
  | x :: xs, b => by cases b <;> simp [D.beqs, D.beq_ok x, D.beqs_ok xs]
end
instance : DecidableEq D := fun a b => decidable_of_iff _ (D.beq_ok a b)

/-- what stands in the mini heap -/
inductive MO where
  | lst (ds : List D) | dead
  deriving DecidableEq
instance : Inhabited MO := ⟨.dead⟩

/-- a lambda of the text -/
structure LamI where
  qual : Str
  params : Arguments
  body : Expr
  scope : Scope
  caps : List Str

/-- growth but for lists that stand by themselves -/
structure Ext0 (H : Hp) (μ : List Addr) (H' : Hp) (μ' : List Addr) : Prop where
  pre : μ <+: μ'
  keep0 : ∀ a u, H a = some u → a ∉ μ → (∀ ps, u ≠ .tbl ps) → (∀ xs, u ≠ .lst xs) → H' a = some u
  keepT : ∀ a ps, H a = some (.tbl ps) → a ∉ μ → ∃ ps', H' a = some (.tbl ps')
  new : ∀ a, a ∈ μ' → a ∈ μ ∨ H a = none ∨ ∃ xs, H a = some (.lst xs)
/-- growth: what is tracked and is not of the mini heap stays -/
structure Ext (H : Hp) (μ : List Addr) (H' : Hp) (μ' : List Addr) : Prop where
  pre : μ <+: μ'
  keep : ∀ a u, H a = some u → a ∉ μ → (∀ ps, u ≠ .tbl ps) → H' a = some u
  keepT : ∀ a ps, H a = some (.tbl ps) → a ∉ μ → ∃ ps', H' a = some (.tbl ps')
  new : ∀ a, a ∈ μ' → a ∈ μ ∨ H a = none
theorem Ext.to0 {H H' : Hp} {μ μ' : List Addr} (e : Ext H μ H' μ') : Ext0 H μ H' μ' := ⟨e.pre, fun a u h n t _ => e.keep a u h n t, e.keepT, fun a m => (e.new a m).imp id .inl⟩
/-- what stays fixed -/
structure G where
  K : PySem.W.Frag
  mg : Str → Option Value
  lam : Nat → Option LamI
  T : List (Addr × Str)
  J : Hp → List Addr → Prop
  Jm : ∀ {H H' : Hp} {μ μ' : List Addr}, J H μ → Ext0 H μ H' μ' → J H' μ'
  Jd : ∀ {H : Hp} {μ μ' : List Addr}, J H μ → (∀ a ∈ μ', a ∈ μ) → J H μ'

def TupM (Γ : G) (H : Hp) (μ : List Addr) (a : Addr) (vs : List V) : Prop :=
  (a ∉ μ ∧ Rd H a (.tup vs)) ∨ ∃ (o : Obj) (its : Array Value) (n : Nat), Γ.K.lookup a = some o ∧ o.cls = .type "tuple" ∧ o.data = .seq its n ∧ its.size ≤ sizeLine ∧ Vals vs its.toList
/-- a list that never changes: frozen, or of the module -/
def LstM (Γ : G) (H : Hp) (μ : List Addr) (a : Addr) (vs : List V) : Prop :=
  (a ∉ μ ∧ ∃ o, H a = some (.frz o (.lst vs))) ∨ ∃ (its : Array Value) (n : Nat), Γ.K.lookup a = some { cls := .type "list", data := .seq its n } ∧ its.size ≤ sizeLine ∧ Vals vs its.toList
/-- a list that can be added -/
def LsP (K : PySem.W.Frag) (H : Hp) (a : Addr) (vs : List V) : Prop :=
  Rd H a (.lst vs) ∨ ∃ (its : Array Value) (n : Nat), K.lookup a = some { cls := .type "list", data := .seq its n } ∧ its.size ≤ sizeLine ∧ Vals vs its.toList
theorem LsP.sq {K : PySem.W.Frag} {H : Hp} {a : Addr} {vs : List V} (x : LsP K H a vs) : SqL K H a vs := by
  rcases x with r | ⟨its, n, r1, r2, r3⟩
  · exact .inl r
  · exact .inr ⟨_, its, n, r1, rfl, rfl, rfl, r2, r3⟩
/-- the cells put away -/
def hideC (H : Hp) (cells : List Addr) : Hp := fun b => if b ∈ cells then none else H b
/-- the object of a lambda, its code, its cells with their values -/
structure CloM (Γ : G) (H : Hp) (μ : List Addr) (f : Addr) (n : Nat) (cells : List Addr) (vs : List V) : Prop where
  obj : ∃ (I : LamI) (clos : List (Str × Addr)) (pm ctv : Value) (c' : Addr), Γ.lam n = some I ∧ clos.map (·.1) = I.caps ∧ clos.map (·.2) = cells ∧
    H f = some (.frz (PySem.W.kla_obj "<lambda>" I.qual I.params I.body I.scope clos pm c' ctv) (.own 0)) ∧ H c' = some (LamX.CodeO c' I.qual) ∧ c' ∉ cells ∧ c' ∉ μ
  fm : f ∉ μ ∧ f ∉ cells
  nd : cells.Nodup
  cm : ∀ c ∈ cells, c ∉ μ
  len : cells.length = vs.length
  val : ∀ (j : Nat) (c : Addr) (v : V), cells[j]? = some c → vs[j]? = some v → ∃ (oc : Obj) (u : Value), H c = some (.frz oc (.own 0)) ∧ oc.data = .cell (some u) ∧ RelV v u

mutual
/-- v stands for d -/
def Den (Γ : G) (μ : List Addr) : Hp → V → D → Prop
  | _, v, .non => v = .non
  | _, v, .bl b => v = .bl b
  | _, v, .int i => v = .int i
  | _, v, .str l => v = .str (S l)
  | H, v, .tup ds => ∃ a vs, v = .ref a ∧ TupM Γ H μ a vs ∧ Dens Γ μ H vs ds
  | H, v, .lst ds => ∃ a vs, v = .ref a ∧ LstM Γ H μ a vs ∧ Dens Γ μ H vs ds
  | _, v, .ref i => ∃ a, v = .ref a ∧ μ[i]? = some a
  | _, v, .glo x => ∃ a, v = .ref a ∧ Γ.mg x = some (.ref a) ∧ PySem.W.keepIn Γ.K (.ref a) = true
  | H, v, .clo n cs => ∃ f cells vs, v = .ref f ∧ CloM Γ H μ f n cells vs ∧ Dens Γ μ (hideC H cells) vs cs
def Dens (Γ : G) (μ : List Addr) : Hp → List V → List D → Prop
  | _, vs, [] => vs = []
  | H, vs, d :: ds => ∃ v r, vs = v :: r ∧ Den Γ μ H v d ∧ Dens Γ μ H r ds
end

theorem Ext.refl (H : Hp) (μ : List Addr) : Ext H μ H μ := ⟨List.prefix_refl _, fun _ _ h _ _ => h, fun _ ps h _ => ⟨ps, h⟩, fun _ h => .inl h⟩
theorem Ext.out {H H' : Hp} {μ μ' : List Addr} (e : Ext H μ H' μ') {a : Addr} {u : HO} (h : H a = some u) (n : a ∉ μ) : a ∉ μ' := fun z => by
  rcases e.new a z with q | q
  · exact n q
  · rw [h] at q; cases q
theorem Ext.there {H H' : Hp} {μ μ' : List Addr} (e : Ext H μ H' μ') {a : Addr} {u : HO} (h : H a = some u) (n : a ∉ μ) : ∃ u', H' a = some u' := by
  by_cases z : ∃ ps, u = .tbl ps
  · obtain ⟨ps, rfl⟩ := z
    obtain ⟨ps', q⟩ := e.keepT a ps h n
    exact ⟨_, q⟩
  · exact ⟨u, e.keep a u h n fun ps q => z ⟨ps, q⟩⟩
theorem Ext.trans {H H1 H2 : Hp} {μ μ1 μ2 : List Addr} (a : Ext H μ H1 μ1) (b : Ext H1 μ1 H2 μ2) : Ext H μ H2 μ2 where
  pre := a.pre.trans b.pre
  keep := fun c u h n t => b.keep c u (a.keep c u h n t) (a.out h n) t
  keepT := fun c ps h n => by
    obtain ⟨ps', q⟩ := a.keepT c ps h n
    exact b.keepT c ps' q (a.out h n)
  new := fun c h => by
    rcases b.new c h with q | q
    · exact a.new c q
    · by_cases hc : c ∈ μ
      · exact .inl hc
      · refine .inr ?_
        cases e : H c with
        | none => rfl
        | some u =>
          obtain ⟨u', e'⟩ := a.there e hc
          rw [q] at e'; cases e'
theorem Ext0.out {H H' : Hp} {μ μ' : List Addr} (e : Ext0 H μ H' μ') {a : Addr} {u : HO} (h : H a = some u) (n : a ∉ μ) (l : ∀ xs, u ≠ .lst xs) : a ∉ μ' := fun z => by
  rcases e.new a z with q | q | ⟨xs, q⟩
  · exact n q
  · rw [h] at q; cases q
  · rw [h] at q; cases q; exact l xs rfl
theorem Ext0.hide {H H' : Hp} {μ μ' : List Addr} (e : Ext0 H μ H' μ') (cells : List Addr) : Ext0 (hideC H cells) μ (hideC H' cells) μ' where
  pre := e.pre
  keep0 := fun a u h n t l => by
    unfold hideC at h ⊢
    by_cases z : a ∈ cells
    · rw [if_pos z] at h; cases h
    · rw [if_neg z] at h ⊢
      exact e.keep0 a u h n t l
  keepT := fun a ps h n => by
    unfold hideC at h ⊢
    by_cases z : a ∈ cells
    · rw [if_pos z] at h; cases h
    · rw [if_neg z] at h ⊢
      exact e.keepT a ps h n
  new := fun a h => by
    unfold hideC
    by_cases z : a ∈ cells
    · rw [if_pos z]; exact .inr (.inl rfl)
    · rw [if_neg z]; exact e.new a h
theorem TupM.mono0 {Γ : G} {H H' : Hp} {μ μ' : List Addr} {a : Addr} {vs : List V} (x : TupM Γ H μ a vs) (e : Ext0 H μ H' μ') : TupM Γ H' μ' a vs := by
  rcases x with ⟨n, r | ⟨o, r⟩⟩ | r
  · exact .inl ⟨e.out r n (fun _ z => nomatch z), .inl (e.keep0 _ _ r n (fun _ z => nomatch z) fun _ z => nomatch z)⟩
  · exact .inl ⟨e.out r n (fun _ z => nomatch z), .inr ⟨o, e.keep0 _ _ r n (fun _ z => nomatch z) fun _ z => nomatch z⟩⟩
  · exact .inr r
theorem LstM.mono0 {Γ : G} {H H' : Hp} {μ μ' : List Addr} {a : Addr} {vs : List V} (x : LstM Γ H μ a vs) (e : Ext0 H μ H' μ') : LstM Γ H' μ' a vs := by
  rcases x with ⟨n, o, r⟩ | r
  · exact .inl ⟨e.out r n (fun _ z => nomatch z), o, e.keep0 _ _ r n (fun _ z => nomatch z) fun _ z => nomatch z⟩
  · exact .inr r
theorem TupM.sq {Γ : G} {H : Hp} {μ : List Addr} {a : Addr} {vs : List V} (x : TupM Γ H μ a vs) : SqT Γ.K H a vs := by
  rcases x with ⟨_, r⟩ | r
  · exact .inl r
  · exact .inr r
theorem LstM.ls {Γ : G} {H : Hp} {μ : List Addr} {a : Addr} {vs : List V} (x : LstM Γ H μ a vs) : LsP Γ.K H a vs := by
  rcases x with ⟨_, o, r⟩ | r
  · exact .inl (.inr ⟨o, r⟩)
  · exact .inr r
theorem LstM.sq {Γ : G} {H : Hp} {μ : List Addr} {a : Addr} {vs : List V} (x : LstM Γ H μ a vs) : SqL Γ.K H a vs := x.ls.sq
theorem codeO_lst (c : Addr) (q : Str) (xs : List V) : LamX.CodeO c q ≠ .lst xs := fun z => by
  unfold LamX.CodeO at z
  cases z
theorem codeO_tbl (c : Addr) (q : Str) (ps : Array Value) : LamX.CodeO c q ≠ .tbl ps := LamX.codeO_ne ps
theorem CloM.mono0 {Γ : G} {H H' : Hp} {μ μ' : List Addr} {f n : Nat} {cells : List Addr} {vs : List V} (x : CloM Γ H μ f n cells vs) (e : Ext0 H μ H' μ') : CloM Γ H' μ' f n cells vs where
  obj := by
    obtain ⟨I, clos, pm, ctv, c', h1, h2, h3, h4, h5, h6, h7⟩ := x.obj
    exact ⟨I, clos, pm, ctv, c', h1, h2, h3, e.keep0 _ _ h4 x.fm.1 (fun ps z => nomatch z) (fun ps z => nomatch z), e.keep0 _ _ h5 h7 (codeO_tbl _ _) (codeO_lst _ _), h6, e.out h5 h7 (codeO_lst _ _)⟩
  fm := by
    obtain ⟨I, clos, pm, ctv, c', h1, h2, h3, h4, h5, h6⟩ := x.obj
    exact ⟨e.out h4 x.fm.1 (fun _ z => nomatch z), x.fm.2⟩
  nd := x.nd
  cm := fun c h => by
    obtain ⟨j, hj, ej⟩ := List.mem_iff_getElem.mp h
    have h1 : cells[j]? = some c := by rw [List.getElem?_eq_getElem hj, ej]
    have hv : j < vs.length := by rw [← x.len]; exact hj
    obtain ⟨oc, u, q, _⟩ := x.val j c vs[j] h1 (List.getElem?_eq_getElem hv)
    exact e.out q (x.cm c h) fun _ z => nomatch z
  len := x.len
  val := fun j c v h1 h2 => by
    obtain ⟨oc, u, q, r⟩ := x.val j c v h1 h2
    exact ⟨oc, u, e.keep0 _ _ q (x.cm c (List.mem_of_getElem? h1)) (fun ps z => nomatch z) (fun ps z => nomatch z), r⟩

mutual
theorem Den.mono0 {Γ : G} {μ μ' : List Addr} : ∀ {d : D} {H H' : Hp} {v : V}, Den Γ μ H v d → Ext0 H μ H' μ' → Den Γ μ' H' v d
  | .non, _, _, _, h, _ => h
  | .bl _, _, _, _, h, _ => h
  | .int _, _, _, _, h, _ => h
  | .str _, _, _, _, h, _ => h
  | .tup ds, _, _, _, h, e => by
    obtain ⟨a, vs, e1, q, r⟩ := h
    exact ⟨a, vs, e1, q.mono0 e, Dens.mono0 r e⟩
  | .lst ds, _, _, _, h, e => by
    obtain ⟨a, vs, e1, q, r⟩ := h
    exact ⟨a, vs, e1, q.mono0 e, Dens.mono0 r e⟩
  | .ref i, _, _, _, h, e => by
    obtain ⟨a, e1, q⟩ := h
    obtain ⟨t, rfl⟩ := e.pre
    refine ⟨a, e1, ?_⟩
    rw [List.getElem?_append_left (List.getElem?_eq_some_iff.mp q).1]
    exact q
  | .glo _, _, _, _, h, _ => h
  | .clo n cs, _, _, _, h, e => by
    obtain ⟨f, cells, vs, e1, q, r⟩ := h
    exact ⟨f, cells, vs, e1, q.mono0 e, Dens.mono0 r (e.hide cells)⟩
theorem Dens.mono0 {Γ : G} {μ μ' : List Addr} : ∀ {ds : List D} {H H' : Hp} {vs : List V}, Dens Γ μ H vs ds → Ext0 H μ H' μ' → Dens Γ μ' H' vs ds
  | [], _, _, _, h, _ => h
  | d :: ds, _, _, _, h, e => by
    obtain ⟨v, r, e1, q, t⟩ := h
    exact ⟨v, r, e1, Den.mono0 q e, Dens.mono0 t e⟩
end
theorem Den.mono {Γ : G} {μ μ' : List Addr} {d : D} {H H' : Hp} {v : V} (h : Den Γ μ H v d) (e : Ext H μ H' μ') : Den Γ μ' H' v d := h.mono0 e.to0
theorem Dens.mono {Γ : G} {μ μ' : List Addr} {d : List D} {H H' : Hp} {v : List V} (h : Dens Γ μ H v d) (e : Ext H μ H' μ') : Dens Γ μ' H' v d := h.mono0 e.to0
theorem Dens.length {Γ : G} {μ : List Addr} {H : Hp} : ∀ {ds : List D} {vs : List V}, Dens Γ μ H vs ds → vs.length = ds.length
  | [], _, h => by rw [show _ = [] from h]; rfl
  | d :: ds, _, h => by
    obtain ⟨v, r, rfl, _, t⟩ := h
    rw [List.length_cons, List.length_cons, Dens.length t]
theorem Dens.get {Γ : G} {μ : List Addr} {H : Hp} : ∀ {ds : List D} {vs : List V} {i : Nat} {d : D}, Dens Γ μ H vs ds → ds[i]? = some d → ∃ v, vs[i]? = some v ∧ Den Γ μ H v d
  | [], _, _, _, _, h => by simp at h
  | x :: ds, _, 0, d, h, e => by
    obtain ⟨v, r, rfl, q, t⟩ := h
    simp at e; subst e
    exact ⟨v, rfl, q⟩
  | x :: ds, _, i + 1, d, h, e => by
    obtain ⟨v, r, rfl, q, t⟩ := h
    obtain ⟨w, a, b⟩ := Dens.get (i := i) t (by simpa using e)
    exact ⟨w, by simpa using a, b⟩
theorem Dens.getV {Γ : G} {μ : List Addr} {H : Hp} {ds : List D} {vs : List V} {i : Nat} {v : V} (h : Dens Γ μ H vs ds) (e : vs[i]? = some v) : ∃ d, ds[i]? = some d ∧ Den Γ μ H v d := by
  have hi : i < ds.length := by rw [← h.length]; exact (List.getElem?_eq_some_iff.mp e).1
  obtain ⟨w, a, b⟩ := h.get (List.getElem?_eq_getElem hi)
  rw [e] at a; cases a
  exact ⟨_, List.getElem?_eq_getElem hi, b⟩
theorem Dens.append {Γ : G} {μ : List Addr} {H : Hp} : ∀ {ds es : List D} {vs us : List V}, Dens Γ μ H vs ds → Dens Γ μ H us es → Dens Γ μ H (vs ++ us) (ds ++ es)
  | [], _, _, _, h, k => by rw [show _ = [] from h]; exact k
  | d :: ds, _, _, _, h, k => by
    obtain ⟨v, r, rfl, q, t⟩ := h
    exact ⟨v, _, rfl, q, Dens.append t k⟩
theorem Dens.one {Γ : G} {μ : List Addr} {H : Hp} {v : V} {d : D} (h : Den Γ μ H v d) : Dens Γ μ H [v] [d] := ⟨v, [], rfl, h, rfl⟩
theorem Dens.take {Γ : G} {μ : List Addr} {H : Hp} : ∀ {ds : List D} {vs : List V} (n : Nat), Dens Γ μ H vs ds → Dens Γ μ H (vs.take n) (ds.take n)
  | _, _, 0, _ => rfl
  | [], _, n + 1, h => by rw [show _ = [] from h]; rfl
  | d :: ds, _, n + 1, h => by
    obtain ⟨v, r, rfl, q, t⟩ := h
    exact ⟨v, r.take n, rfl, q, Dens.take n t⟩
theorem Dens.drop {Γ : G} {μ : List Addr} {H : Hp} : ∀ {ds : List D} {vs : List V} (n : Nat), Dens Γ μ H vs ds → Dens Γ μ H (vs.drop n) (ds.drop n)
  | _, _, 0, h => h
  | [], _, n + 1, h => by rw [show _ = [] from h]; rfl
  | d :: ds, _, n + 1, h => by
    obtain ⟨v, r, rfl, q, t⟩ := h
    exact Dens.drop n t
theorem Dens.set {Γ : G} {μ : List Addr} {H : Hp} {v : V} {d : D} (k : Den Γ μ H v d) : ∀ {ds : List D} {vs : List V} (n : Nat), Dens Γ μ H vs ds → Dens Γ μ H (vs.set n v) (ds.set n d)
  | [], _, n, h => by rw [show _ = [] from h]; rfl
  | x :: ds, _, 0, h => by
    obtain ⟨w, r, rfl, q, t⟩ := h
    exact ⟨v, r, rfl, k, t⟩
  | x :: ds, _, n + 1, h => by
    obtain ⟨w, r, rfl, q, t⟩ := h
    exact ⟨w, r.set n v, rfl, q, Dens.set k n t⟩

/-- the slots -/
def EnvOk (Γ : G) (μ : List Addr) (H : Hp) : L2.St → List (Option D) → Prop
  | [], [] => True
  | s :: σ, r :: ρ => (match r with | none => True | some d => ∃ v, s = some v ∧ Den Γ μ H v d) ∧ EnvOk Γ μ H σ ρ
  | _, _ => False
theorem EnvOk.mono {Γ : G} {μ μ' : List Addr} {H H' : Hp} (e : Ext H μ H' μ') : ∀ {σ : L2.St} {ρ : List (Option D)}, EnvOk Γ μ H σ ρ → EnvOk Γ μ' H' σ ρ
  | [], [], _ => trivial
  | s :: σ, r :: ρ, h => by
    obtain ⟨h1, h2⟩ := h
    refine ⟨?_, EnvOk.mono e h2⟩
    cases r with
    | none => trivial
    | some d =>
      obtain ⟨v, e1, q⟩ := h1
      exact ⟨v, e1, q.mono e⟩
theorem EnvOk.get {Γ : G} {μ : List Addr} {H : Hp} : ∀ {σ : L2.St} {ρ : List (Option D)} {i : Nat} {d : D}, EnvOk Γ μ H σ ρ → ρ[i]? = some (some d) → ∃ v, σ[i]? = some (some v) ∧ Den Γ μ H v d
  | [], [], _, _, _, e => by simp at e
  | s :: σ, r :: ρ, 0, d, h, e => by
    obtain ⟨h1, h2⟩ := h
    simp at e; subst e
    obtain ⟨v, e1, q⟩ := h1
    exact ⟨v, by simp [e1], q⟩
  | s :: σ, r :: ρ, i + 1, d, h, e => by
    obtain ⟨h1, h2⟩ := h
    obtain ⟨v, a, b⟩ := EnvOk.get (i := i) h2 (by simpa using e)
    exact ⟨v, by simpa using a, b⟩
theorem EnvOk.set {Γ : G} {μ : List Addr} {H : Hp} {v : V} {d : D} (k : Den Γ μ H v d) : ∀ {σ : L2.St} {ρ : List (Option D)} (i : Nat), EnvOk Γ μ H σ ρ → EnvOk Γ μ H (σ.set i (some v)) (ρ.set i (some d))
  | [], [], i, _ => trivial
  | s :: σ, r :: ρ, 0, h => ⟨⟨v, rfl, k⟩, h.2⟩
  | s :: σ, r :: ρ, i + 1, h => ⟨h.1, EnvOk.set k i h.2⟩
theorem EnvOk.wipe {Γ : G} {μ : List Addr} {H : Hp} {x : Option V} : ∀ {σ : L2.St} {ρ : List (Option D)} (i : Nat), EnvOk Γ μ H σ ρ → EnvOk Γ μ H (σ.set i x) (ρ.set i none)
  | [], [], i, _ => trivial
  | s :: σ, r :: ρ, 0, h => ⟨trivial, h.2⟩
  | s :: σ, r :: ρ, i + 1, h => ⟨h.1, EnvOk.wipe i h.2⟩
theorem EnvOk.len {Γ : G} {μ : List Addr} {H : Hp} : ∀ {σ : L2.St} {ρ : List (Option D)}, EnvOk Γ μ H σ ρ → σ.length = ρ.length
  | [], [], _ => rfl
  | s :: σ, r :: ρ, h => by rw [List.length_cons, List.length_cons, EnvOk.len h.2]

/-- an object of the mini heap -/
def MOk (Γ : G) (H : Hp) (μ : List Addr) (a : Addr) : MO → Prop
  | .lst ds => ∃ vs, H a = some (.lst vs) ∧ Dens Γ μ H vs ds
  | .dead => ∃ vs, H a = some (.lst vs)
theorem MOk.there {Γ : G} {H : Hp} {μ : List Addr} {a : Addr} {o : MO} (x : MOk Γ H μ a o) : ∃ vs, H a = some (.lst vs) := by
  cases o with
  | lst ds => obtain ⟨vs, e, _⟩ := x; exact ⟨vs, e⟩
  | dead => exact x
structure Rel (Γ : G) (H : Hp) (μ : List Addr) (h : List MO) : Prop where
  len : μ.length = h.length
  nd : μ.Nodup
  ob : ∀ (i : Nat) (a : Addr) (o : MO), μ[i]? = some a → h[i]? = some o → MOk Γ H μ a o
  tabs : LamX.Tabs Γ.T H
  j : Γ.J H μ
theorem Rel.mem {Γ : G} {H : Hp} {μ : List Addr} {h : List MO} (r : Rel Γ H μ h) {a : Addr} (m : a ∈ μ) : ∃ vs, H a = some (.lst vs) := by
  obtain ⟨i, hi, e⟩ := List.mem_iff_getElem.mp m
  have h1 : μ[i]? = some a := by rw [List.getElem?_eq_getElem hi, e]
  have hj : i < h.length := by rw [← r.len]; exact hi
  exact (r.ob i a _ h1 (List.getElem?_eq_getElem hj)).there
theorem Rel.no {Γ : G} {H : Hp} {μ : List Addr} {h : List MO} (r : Rel Γ H μ h) {a : Addr} {u : HO} (e : H a = some u) (n : ∀ vs, u ≠ .lst vs) : a ∉ μ := fun m => by
  obtain ⟨vs, q⟩ := r.mem m
  rw [e] at q; cases q
  exact n vs rfl
theorem Rel.fresh {Γ : G} {H : Hp} {μ : List Addr} {h : List MO} (r : Rel Γ H μ h) {a : Addr} (e : H a = none) : a ∉ μ := fun m => by
  obtain ⟨vs, q⟩ := r.mem m
  rw [e] at q; cases q
/-- a new thing is laid beside -/
theorem Ext.laid {H : Hp} {μ : List Addr} {p : Addr} {u : HO} (e : H p = none) : Ext H μ (upd H p u) μ where
  pre := List.prefix_refl _
  keep := fun a v h _ _ => by rw [upd_ne (ne_of_none h e)]; exact h
  keepT := fun a ps h _ => ⟨ps, by rw [upd_ne (ne_of_none h e)]; exact h⟩
  new := fun _ h => .inl h
theorem Rel.grow {Γ : G} {H H' : Hp} {μ : List Addr} {h : List MO} (r : Rel Γ H μ h) (e : Ext H μ H' μ) (k : ∀ a ∈ μ, H' a = H a) (t : LamX.Tabs Γ.T H') : Rel Γ H' μ h where
  len := r.len
  nd := r.nd
  ob := fun i a o h1 h2 => by
    have x := r.ob i a o h1 h2
    have m : a ∈ μ := List.mem_of_getElem? h1
    cases o with
    | lst ds => obtain ⟨vs, q, z⟩ := x; exact ⟨vs, by rw [k a m]; exact q, z.mono e⟩
    | dead => obtain ⟨vs, q⟩ := x; exact ⟨vs, by rw [k a m]; exact q⟩
  tabs := t
  j := Γ.Jm r.j e.to0
theorem Rel.laid {Γ : G} {H : Hp} {μ : List Addr} {h : List MO} (r : Rel Γ H μ h) {p : Addr} {u : HO} (e : H p = none) : Rel Γ (upd H p u) μ h :=
  r.grow (Ext.laid e) (fun a m => by
    obtain ⟨vs, q⟩ := r.mem m
    exact upd_ne (ne_of_none q e)) (r.tabs.ext fun b o q => by rw [upd_ne (ne_of_none q e)]; exact q)

/-! ### results -/
/-- an exception: its class's name, its fields -/
structure Ex where
  cls : Str
  fs : List (Str × D)
inductive Res (α : Type) where
  | ok (a : α) (h : List MO) | err (e : Ex) (h : List MO) | stuck
def Res.bind {α β : Type} (r : Res α) (k : α → List MO → Res β) : Res β := match r with
  | .ok a h => k a h
  | .err e h => .err e h
  | .stuck => .stuck
theorem Res.bind_assoc {α β γ : Type} (r : Res α) (f : α → List MO → Res β) (g : β → List MO → Res γ) : (r.bind f).bind g = r.bind fun a h => (f a h).bind g := by
  cases r <;> rfl
abbrev Rho := List (Option D)
abbrev ME := Rho → List MO → Res D
abbrev MA := Rho → List MO → Res (List D)
abbrev MT := Rho → List MO → Res Bool
/-- the class and the dict of an exception -/
def ExOk (Γ : G) (H : Hp) (μ : List Addr) (cls : Value) (d : Option Addr) (e : Ex) : Prop :=
  ∃ (C dx : Addr) (vs : List V), cls = .ref C ∧ d = some dx ∧ Γ.mg e.cls = some (.ref C) ∧ H dx = some (.xd ((e.fs.map (·.1)).zip vs)) ∧ Dens Γ μ H vs (e.fs.map (·.2))
/-- where a run from H, μ may lead: every end that the mirror's end stands for is wanted -/
def Good (Γ : G) (W : WX) (σ : L2.St) (H : Hp) (μ : List Addr) {α β : Type} (den : Hp → List Addr → β → α → Prop) (Q : β → Hp → Prop) : Res α → Prop
  | .ok a h => ∀ v H' μ', Ext H μ H' μ' → Rel Γ H' μ' h → den H' μ' v a → Q v H'
  | .err e h => ∀ cls d H' μ', Ext H μ H' μ' → Rel Γ H' μ' h → ExOk Γ H' μ' cls d e → W cls d σ H'
  | .stuck => False
theorem Good.bind {Γ : G} {W : WX} {σ : L2.St} {H : Hp} {μ : List Addr} {α β α' β' : Type} {den : Hp → List Addr → β → α → Prop} {den' : Hp → List Addr → β' → α' → Prop} {Q : β' → Hp → Prop} {Q1 : β → Hp → Prop} {r : Res α} {k : α → List MO → Res α'}
    (g : Good Γ W σ H μ den' Q (r.bind k)) (next : ∀ a h v H' μ', r = .ok a h → Ext H μ H' μ' → Rel Γ H' μ' h → den H' μ' v a → Good Γ W σ H' μ' den' Q (k a h) → Q1 v H') : Good Γ W σ H μ den Q1 r := by
  cases r with
  | ok a h =>
    intro v H' μ' e x d
    refine next a h v H' μ' rfl e x d ?_
    have g' : Good Γ W σ H μ den' Q (k a h) := g
    revert g'
    cases k a h with
    | ok b h2 => exact fun g' w H2 μ2 e2 x2 d2 => g' w H2 μ2 (e.trans e2) x2 d2
    | err ex h2 => exact fun g' c dd H2 μ2 e2 x2 d2 => g' c dd H2 μ2 (e.trans e2) x2 d2
    | stuck => exact fun g' => g'
  | err e h => exact g
  | stuck => exact g
abbrev denE (Γ : G) : Hp → List Addr → V → D → Prop := fun H μ v d => Den Γ μ H v d
abbrev denA (Γ : G) : Hp → List Addr → List V → List D → Prop := fun H μ v d => Dens Γ μ H v d
abbrev denT : Hp → List Addr → Bool → Bool → Prop := fun _ _ b c => b = c
/-- the readings that come of the mirror -/
def tE (Γ : G) (W : WX) (f : ME) : TE := fun σ H Q => ∃ ρ h μ, EnvOk Γ μ H σ ρ ∧ Rel Γ H μ h ∧ Good Γ W σ H μ (denE Γ) Q (f ρ h)
def tA (Γ : G) (W : WX) (f : MA) : TA := fun σ H Q => ∃ ρ h μ, EnvOk Γ μ H σ ρ ∧ Rel Γ H μ h ∧ Good Γ W σ H μ (denA Γ) Q (f ρ h)
def tT (Γ : G) (W : WX) (f : MT) : TT := fun σ H Q => ∃ ρ h μ, EnvOk Γ μ H σ ρ ∧ Rel Γ H μ h ∧ Good Γ W σ H μ denT Q (f ρ h)
/-- the expression e does what f does -/
structure FE (X : Cx) (Γ : G) (W : WX) (e : Expr) (f : ME) : Prop where
  ok : PE X e (tE Γ W f)
structure FT (X : Cx) (Γ : G) (W : WX) (e : Expr) (f : MT) : Prop where
  ok : PT X e (tT Γ W f)
structure FA (X : Cx) (Γ : G) (W : WX) (es : List Expr) (f : MA) : Prop where
  ok : PA X es (tA Γ W f)
end MP
namespace L2
open PySem PySem.Spec PyProof.Rows
theorem PE.imp {X : Cx} {e : Expr} {t t' : TE} (h : PE X e t) (i : ∀ σ H Q, t' σ H Q → t σ H Q) : PE X e t' := ⟨fun pins s σ H Q I q => h.run pins s σ H Q I (i _ _ _ q)⟩
theorem PT.imp {X : Cx} {e : Expr} {t t' : TT} (h : PT X e t) (i : ∀ σ H Q, t' σ H Q → t σ H Q) : PT X e t' := ⟨fun pins s σ H Q I q => h.run pins s σ H Q I (i _ _ _ q)⟩
theorem PA.imp {X : Cx} {e : List Expr} {t t' : TA} (h : PA X e t) (i : ∀ σ H Q, t' σ H Q → t σ H Q) : PA X e t' := ⟨fun pos pins s σ H Q I q => h.run pos pins s σ H Q I (i _ _ _ q)⟩
theorem PW.imp {X : Cx} {e : Expr} {t t' : TT} (h : PW X e t) (i : ∀ σ H Q, t' σ H Q → t σ H Q) : PW X e t' := ⟨fun w pins s σ H Q I q => h.run w pins s σ H Q I (i _ _ _ q)⟩
theorem PS.imp {X : Cx} {e : Stmt} {t t' : TS} (h : PS X e t) (i : ∀ D σ H, t' D σ H → t D σ H) : PS X e t' := ⟨fun pins s σ H D I q => h.run pins s σ H D I (i _ _ _ q)⟩
theorem PSs.imp {X : Cx} {e : List Stmt} {t t' : TS} (h : PSs X e t) (i : ∀ D σ H, t' D σ H → t D σ H) : PSs X e t' := ⟨fun pins s σ H D I q => h.run pins s σ H D I (i _ _ _ q)⟩
/-- a list is known from now on -/
theorem Inv.frz {X : Cx} {pins : List (Addr × Obj)} {σ : L2.St} {H : Hp} {s : Shared} {p : Addr} {xs : List V} (I : Inv X pins σ H s) (e : H p = some (.lst xs)) : ∃ o, Inv X pins σ (upd H p (.frz o (.lst xs))) s := by
  have x := I.hok p _ e
  obtain ⟨z, its, n, r, g⟩ := x
  refine ⟨{ cls := Value.type "list", data := Data.seq its.toArray n }, ?_⟩
  have hok : HOk X.prog X.w (upd H p (.frz { cls := Value.type "list", data := Data.seq its.toArray n } (.lst xs))) s.heap := fun b u q => by
    by_cases hb : b = p
    · subst hb
      rw [upd_same] at q; cases q
      exact ⟨g, z, its, n, r, g⟩
    · rw [upd_ne hb] at q
      exact (I.hok b u q).stay (fun c v _ k => k) (fun c k => by rw [upd_ne (ne_of k e (by intro z; cases z))]; exact k) fun c ys k => by rw [upd_ne (ne_of k e (by intro z; cases z))]; exact k
  have nn : ∀ {b}, H b = none → (upd H p (.frz { cls := Value.type "list", data := Data.seq its.toArray n } (.lst xs)) : Hp) b = none := fun {b} q => by rw [upd_ne (fun z => by rw [z, e] at q; cases q)]; exact q
  exact {
    ok := I.ok
    os := I.os
    bare := I.bare
    base := {
      keep := I.base.keep
      slot := I.base.slot
      free := fun b o q n hx => nn (I.base.free b o q n hx)
      there := I.base.there
      tups := fun b ys q => by
        have k := I.base.tups b ys q
        rw [upd_ne (ne_of k e (by intro z; cases z))]; exact k
      frzs := fun b o u q => by
        have k := I.base.frzs b o u q
        rw [upd_ne (ne_of k e (by intro z; cases z))]; exact k
      tbls := fun b ps q => by
        obtain ⟨more, k⟩ := I.base.tbls b ps q
        exact ⟨more, by rw [upd_ne (ne_of k e (by intro z; cases z))]; exact k⟩ }
    loc := I.loc
    cell := I.cell
    free := nn I.free
    freeC := fun x c q => nn (I.freeC x c q)
    pin := fun q m => by
      obtain ⟨a, b, c⟩ := I.pin q m
      exact ⟨a, nn b, c⟩
    hok := hok
    len := I.len }
/-- the value that is wanted may be wanted as a list that is known -/
def fz (Q : VK) : VK := fun v H => Q v H ∨ ∃ p xs, v = .ref p ∧ H p = some (.lst xs) ∧ ∀ o, Q v (upd H p (.frz o (.lst xs)))
theorem PE.fz {X : Cx} {e : Expr} {t : TE} (h : PE X e t) : PE X e fun σ H Q => t σ H (L2.fz Q) := ⟨fun pins s σ H Q I q => wpAny_mono (h.run pins s σ H _ I q) (fun u s' ⟨v, H', I', r, q⟩ => by
  rcases q with q | ⟨p, xs, rfl, e, q⟩
  · exact ⟨v, H', I', r, q⟩
  · obtain ⟨o, I2⟩ := I'.frz e
    exact ⟨_, _, I2, r, q o⟩) fun _ _ x => x⟩
end L2
end
section
set_option Elab.async false
set_option linter.all false
set_option maxRecDepth 100000
set_option maxHeartbeats 1000000
/-! M2: expressions. -/
namespace MP
open PySem PySem.Spec PyProof.Rows L2

structure CxG (X : Cx) (Γ : G) : Prop where
  k : X.K = Γ.K
  m : X.mg = Γ.mg

/-! ### names, constants -/
def xVar (i : Nat) : ME := fun ρ h => match ρ[i]? with
  | some (some d) => .ok d h
  | _ => .stuck
def xC (d : D) : ME := fun _ h => .ok d h
section
variable {X : Cx} {Γ : G} {W : WX}
theorem fe_var {i : Nat} {x : Str} {pos : Pos} (hN : X.N[i]? = some x) (hv : Vis X.env.scope x) (hd : (x == ("__debug__" : Str)) = false := by decide) (hcd : (x == ("__classdict__" : Str)) = false := by decide) : FE X Γ W (.Name x pos) (xVar i) := by
  refine ⟨(pe_var hN hv hd hcd).imp fun σ H Q q => ?_⟩
  obtain ⟨ρ, h, μ, he, hr, q⟩ := q
  unfold xVar at q
  split at q
  · rename_i d e
    obtain ⟨v, a, b⟩ := he.get e
    exact ⟨v, a, q v H μ (Ext.refl _ _) hr b⟩
  · exact False.elim q
/-- a constant whose value is v -/
theorem fe_const {e : Expr} {v : V} {d : D} (hp : PE X e (tC v)) (hd : ∀ H μ, Den Γ μ H v d) : FE X Γ W e (xC d) := by
  refine ⟨hp.imp fun σ H Q q => ?_⟩
  obtain ⟨ρ, h, μ, he, hr, q⟩ := q
  exact q v H μ (Ext.refl _ _) hr (hd H μ)
theorem fe_int {i j pos} : FE X Γ W (.Constant (.int i) j pos) (xC (.int i)) := fe_const pe_int fun _ _ => rfl
theorem fe_bl {b j pos} : FE X Γ W (.Constant (.bool b) j pos) (xC (.bl b)) := fe_const pe_bl fun _ _ => rfl
theorem fe_non {j pos} : FE X Γ W (.Constant .none j pos) (xC .non) := fe_const pe_non fun _ _ => rfl
theorem fe_str {x : Str} {l : List Nat} {j pos} (e : x = S l := by decide +kernel) : FE X Γ W (.Constant (.str x) j pos) (xC (.str l)) := by
  subst e
  exact fe_const pe_str fun _ _ => rfl
/-- a module's constant -/
theorem fe_glob {x : Str} {v : V} {d : D} {u : Value} {pos : Pos} (hg : Gl X x) (hm : X.mg x = some u) (r : RelV v u) (hd : ∀ H μ, Den Γ μ H v d) (hdb : (x == ("__debug__" : Str)) = false := by decide) : FE X Γ W (.Name x pos) (xC d) :=
  fe_const (pe_glob hg hm r hdb) hd
/-- a def of the module, as a value -/
theorem fe_fn {x : Str} {pos : Pos} {a : Addr} (hX : CxG X Γ) (hg : Gl X x) (hm : X.mg x = some (.ref a)) (hk : PySem.W.keepIn X.K (.ref a) = true) (hdb : (x == ("__debug__" : Str)) = false := by decide) : FE X Γ W (.Name x pos) (xC (.glo x)) :=
  fe_const (pe_glob (v := .ref a) hg hm rfl hdb) fun _ _ => ⟨a, rfl, by rw [← hX.m]; exact hm, by rw [← hX.k]; exact hk⟩

/-! ### two in a row -/
def xOp2 (g : D → D → List MO → Res D) (fa fb : ME) : ME := fun ρ h => (fa ρ h).bind fun x h1 => (fb ρ h1).bind fun y h2 => g x y h2
def Op2 (Γ : G) (r : R2) (g : D → D → List MO → Res D) : Prop := ∀ (W : WX) (σ : L2.St) (H : Hp) (μ : List Addr) (h : List MO) (x y : V) (a b : D) (Q : VK), Rel Γ H μ h → Den Γ μ H x a → Den Γ μ H y b → Good Γ W σ H μ (denE Γ) Q (g a b h) → r x y H Q
theorem op2_run {g : D → D → List MO → Res D} {fa fb : ME} {r : R2} (hg : Op2 Γ r g) {σ : L2.St} {H : Hp} {Q : VK} (q : tE Γ W (xOp2 g fa fb) σ H Q) : tOp r (tE Γ W fa) (tE Γ W fb) σ H Q := by
  obtain ⟨ρ, h, μ, he, hr, q⟩ := q
  refine ⟨ρ, h, μ, he, hr, Good.bind q fun a h1 x H1 μ1 _ e1 r1 d1 q1 => ?_⟩
  refine ⟨ρ, h1, μ1, he.mono e1, r1, Good.bind q1 fun b h2 y H2 μ2 _ e2 r2 d2 q2 => ?_⟩
  exact hg W σ H2 μ2 h2 x y a b Q r2 (d1.mono e2) d2 q2
theorem fe_bin {op : Operator} {a b : Expr} {fa fb : ME} {pos : Pos} {r : R2} {g : D → D → List MO → Res D} (ho : OpR X (binaryOp op) r) (hg : Op2 Γ r g) (ha : FE X Γ W a fa) (hb : FE X Γ W b fb) : FE X Γ W (.BinOp a op b pos) (xOp2 g fa fb) :=
  ⟨(pe_op ho ha.ok hb.ok).imp fun _ _ _ q => op2_run hg q⟩
/-- as above, where a new list may come -/
theorem fe_binz {op : Operator} {a b : Expr} {fa fb : ME} {pos : Pos} {r : R2} {g : D → D → List MO → Res D} (ho : OpR X (binaryOp op) r) (hg : Op2 Γ (fun x y H Q => r x y H (fz Q)) g) (ha : FE X Γ W a fa) (hb : FE X Γ W b fb) : FE X Γ W (.BinOp a op b pos) (xOp2 g fa fb) :=
  ⟨(pe_op ho ha.ok hb.ok).fz.imp fun _ _ _ q => op2_run hg q⟩
theorem fe_cmp {op : CmpOp} {a b : Expr} {fa fb : ME} {pos : Pos} {r : R2} {g : D → D → List MO → Res D} (ho : OpR X (compareOp op) r) (hg : Op2 Γ r g) (ha : FE X Γ W a fa) (hb : FE X Γ W b fb) (hm : behindInMarks op b = false) : FE X Γ W (.Compare a [op] [b] pos) (xOp2 g fa fb) :=
  ⟨(pe_cmpR ho ha.ok hb.ok hm).imp fun _ _ _ q => op2_run hg q⟩
theorem fe_ix {a b : Expr} {fa fb : ME} {pos : Pos} {r : R2} {g : D → D → List MO → Res D} (ho : IxR X r) (hg : Op2 Γ r g) (ha : FE X Γ W a fa) (hb : FE X Γ W b fb) (hs : PlainIx b) : FE X Γ W (.Subscript a b pos) (xOp2 g fa fb) :=
  ⟨(pe_ix ho ha.ok hb.ok hs).imp fun _ _ _ q => op2_run hg q⟩
def xOp1 (g : D → List MO → Res D) (fa : ME) : ME := fun ρ h => (fa ρ h).bind fun x h1 => g x h1
def Op1 (Γ : G) (r : V → Hp → VK → Prop) (g : D → List MO → Res D) : Prop := ∀ (W : WX) (σ : L2.St) (H : Hp) (μ : List Addr) (h : List MO) (x : V) (a : D) (Q : VK), Rel Γ H μ h → Den Γ μ H x a → Good Γ W σ H μ (denE Γ) Q (g a h) → r x H Q
theorem fe_un {op : UnaryOp} {a : Expr} {fa : ME} {pos : Pos} {r : V → Hp → VK → Prop} {g : D → List MO → Res D} (ho : UnR X (unaryOp op) r) (hg : Op1 Γ r g) (ha : FE X Γ W a fa) : FE X Γ W (.UnaryOp op a pos) (xOp1 g fa) := by
  refine ⟨(pe_un ho ha.ok).imp fun σ H Q q => ?_⟩
  obtain ⟨ρ, h, μ, he, hr, q⟩ := q
  refine ⟨ρ, h, μ, he, hr, Good.bind q fun a h1 x H1 μ1 _ e1 r1 d1 q1 => ?_⟩
  exact hg W σ H1 μ1 h1 x a Q r1 d1 q1
end

/-! ### what a value is -/
theorem Den.int_of {Γ : G} {μ : List Addr} {H : Hp} {v : V} {i : Int} (h : Den Γ μ H v (.int i)) : v = .int i := h
section
variable {Γ : G} {W : WX} {σ : L2.St} {H : Hp} {μ : List Addr} {h : List MO} {Q : VK}
theorem good_pure {v : V} {d : D} (g : Good Γ W σ H μ (denE Γ) Q (.ok d h)) (r : Rel Γ H μ h) (k : Den Γ μ H v d) : Q v H := g v H μ (Ext.refl _ _) r k
theorem good_tup {vs : List V} {ds : List D} (g : Good Γ W σ H μ (denE Γ) Q (.ok (.tup ds) h)) (r : Rel Γ H μ h) (k : Dens Γ μ H vs ds) (p : Addr) (hp : H p = none) : Q (.ref p) (upd H p (.tup vs)) :=
  g _ _ μ (Ext.laid hp) (r.laid hp) ⟨p, vs, rfl, .inl ⟨r.fresh hp, .inl upd_same⟩, k.mono (Ext.laid hp)⟩
theorem good_lst {vs : List V} {ds : List D} (g : Good Γ W σ H μ (denE Γ) Q (.ok (.lst ds) h)) (r : Rel Γ H μ h) (k : Dens Γ μ H vs ds) (p : Addr) (hp : H p = none) : fz Q (.ref p) (upd H p (.lst vs)) :=
  .inr ⟨p, vs, rfl, upd_same, fun o => by
    rw [upd_upd]
    exact g _ _ μ (Ext.laid hp) (r.laid hp) ⟨p, vs, rfl, .inl ⟨r.fresh hp, o, upd_same⟩, k.mono (Ext.laid hp)⟩⟩
/-- a new list of the mini heap -/
theorem ext_new {p : Addr} {u : HO} (hp : H p = none) : Ext H μ (upd H p u) (μ ++ [p]) where
  pre := List.prefix_append _ _
  keep := (Ext.laid hp).keep
  keepT := (Ext.laid hp).keepT
  new := fun a m => by
    rcases List.mem_append.mp m with m | m
    · exact .inl m
    · rw [List.mem_singleton.mp m]; exact .inr hp
theorem rel_new {vs : List V} {ds : List D} (r : Rel Γ H μ h) (k : Dens Γ μ H vs ds) {p : Addr} (hp : H p = none) : Rel Γ (upd H p (.lst vs)) (μ ++ [p]) (h ++ [.lst ds]) where
  len := by rw [List.length_append, List.length_append, r.len]; rfl
  nd := List.nodup_append.mpr ⟨r.nd, by simp, fun a m b m2 z => by
    rw [List.mem_singleton.mp m2] at z
    rw [z] at m
    exact r.fresh hp m⟩
  ob := fun i a o h1 h2 => by
    by_cases hi : i < μ.length
    · rw [List.getElem?_append_left hi] at h1
      rw [List.getElem?_append_left (by rw [← r.len]; exact hi)] at h2
      have x := r.ob i a o h1 h2
      have e : Ext H μ (upd H p (.lst vs)) (μ ++ [p]) := ext_new hp
      cases o with
      | lst es => obtain ⟨us, q, z⟩ := x; exact ⟨us, by rw [upd_ne (ne_of_none q hp)]; exact q, z.mono e⟩
      | dead => obtain ⟨us, q⟩ := x; exact ⟨us, by rw [upd_ne (ne_of_none q hp)]; exact q⟩
    · have hi2 : i = μ.length := by
        have := (List.getElem?_eq_some_iff.mp h1).1
        rw [List.length_append] at this
        simp at this
        omega
      subst hi2
      rw [List.getElem?_append_right (Nat.le_refl _), Nat.sub_self] at h1
      rw [r.len, List.getElem?_append_right (Nat.le_refl _), Nat.sub_self] at h2
      cases h1; cases h2
      exact ⟨vs, upd_same, k.mono (ext_new hp)⟩
  tabs := r.tabs.ext fun b o q => by rw [upd_ne (ne_of_none q hp)]; exact q
  j := Γ.Jm r.j (ext_new hp).to0
theorem good_new {vs : List V} {ds : List D} (g : Good Γ W σ H μ (denE Γ) Q (.ok (.ref h.length) (h ++ [.lst ds]))) (r : Rel Γ H μ h) (k : Dens Γ μ H vs ds) (p : Addr) (hp : H p = none) : Q (.ref p) (upd H p (.lst vs)) :=
  g _ _ (μ ++ [p]) (ext_new hp) (rel_new r k hp) ⟨p, rfl, by rw [← r.len, List.getElem?_append_right (Nat.le_refl _), Nat.sub_self]; rfl⟩
/-- a list beside the mini heap is written, or known from now on -/
theorem Ext0.off {p : Addr} {xs : List V} {u : HO} (e : H p = some (.lst xs)) (n : p ∉ μ) : Ext0 H μ (upd H p u) μ where
  pre := List.prefix_refl _
  keep0 := fun a v h _ _ l => by rw [upd_ne (ne_of h e (l _))]; exact h
  keepT := fun a ps h _ => ⟨ps, by rw [upd_ne (ne_of h e (by intro z; cases z))]; exact h⟩
  new := fun a m => .inl m
theorem Rel.off {p : Addr} {xs : List V} {u : HO} (r : Rel Γ H μ h) (e : H p = some (.lst xs)) (n : p ∉ μ) : Rel Γ (upd H p u) μ h where
  len := r.len
  nd := r.nd
  ob := fun i a o h1 h2 => by
    have x := r.ob i a o h1 h2
    have ne : a ≠ p := fun z => n (z ▸ List.mem_of_getElem? h1)
    cases o with
    | lst es => obtain ⟨us, q, z⟩ := x; exact ⟨us, by rw [upd_ne ne]; exact q, z.mono0 (Ext0.off e n)⟩
    | dead => obtain ⟨us, q⟩ := x; exact ⟨us, by rw [upd_ne ne]; exact q⟩
  tabs := fun q hq => by
    obtain ⟨ps, h1, h2, h3⟩ := r.tabs q hq
    have nn : ∀ b o, H b = some o → (∀ vs, o ≠ .lst vs) → b ≠ p := fun b o q t => ne_of q e (t _)
    refine ⟨ps, by rw [upd_ne (nn _ _ h1 fun vs z => nomatch z)]; exact h1, h2, fun pos cv hc => ?_⟩
    obtain ⟨c, e1, e2⟩ := h3 pos cv hc
    exact ⟨c, e1, by rw [upd_ne (nn _ _ e2 fun vs z => nomatch z)]; exact e2⟩
  j := Γ.Jm r.j (Ext0.off e n)
/-- a list of the mini heap is written -/
theorem ext_write {p : Addr} {u : HO} (m : p ∈ μ) : Ext H μ (upd H p u) μ where
  pre := List.prefix_refl _
  keep := fun a v e n _ => by rw [upd_ne (fun z => n (by rw [z]; exact m))]; exact e
  keepT := fun a ps e n => ⟨ps, by rw [upd_ne (fun z => n (by rw [z]; exact m))]; exact e⟩
  new := fun a m => .inl m
theorem rel_write {vs : List V} {ds : List D} {i : Nat} {p : Addr} (r : Rel Γ H μ h) (hi : μ[i]? = some p) (k : Dens Γ μ H vs ds) : Rel Γ (upd H p (.lst vs)) μ (h.set i (.lst ds)) where
  len := by rw [List.length_set]; exact r.len
  nd := r.nd
  ob := fun j a o h1 h2 => by
    have e : Ext H μ (upd H p (.lst vs)) μ := ext_write (List.mem_of_getElem? hi)
    by_cases hj : j = i
    · subst hj
      rw [hi] at h1; cases h1
      rw [List.getElem?_set_self (by rw [← r.len]; exact (List.getElem?_eq_some_iff.mp hi).1)] at h2
      cases h2
      exact ⟨vs, upd_same, k.mono e⟩
    · rw [List.getElem?_set_ne (Ne.symm hj)] at h2
      have ne : a ≠ p := fun z => by
        subst z
        obtain ⟨b1, e1⟩ := List.getElem?_eq_some_iff.mp h1
        obtain ⟨b2, e2⟩ := List.getElem?_eq_some_iff.mp hi
        exact hj ((List.getElem_inj r.nd).mp (e1.trans e2.symm))
      have x := r.ob j a o h1 h2
      cases o with
      | lst es => obtain ⟨us, q, z⟩ := x; exact ⟨us, by rw [upd_ne ne]; exact q, z.mono e⟩
      | dead => obtain ⟨us, q⟩ := x; exact ⟨us, by rw [upd_ne ne]; exact q⟩
  tabs := fun q hq => by
    obtain ⟨ps, h1, h2, h3⟩ := r.tabs q hq
    have n : ∀ b o, H b = some o → (∀ vs, o ≠ .lst vs) → b ≠ p := fun b o e z t => r.no e z (t ▸ List.mem_of_getElem? hi)
    refine ⟨ps, by rw [upd_ne (n _ _ h1 fun vs z => nomatch z)]; exact h1, h2, fun pos cv hc => ?_⟩
    obtain ⟨c, e1, e2⟩ := h3 pos cv hc
    exact ⟨c, e1, by rw [upd_ne (n _ _ e2 fun vs z => nomatch z)]; exact e2⟩
  j := Γ.Jm r.j (ext_write (List.mem_of_getElem? hi)).to0
end

/-! ### the lists -/
def hl (h : List MO) (i : Nat) : Option (List D) := match h[i]? with
  | some (.lst ds) => some ds
  | _ => none
theorem hl_iff {h : List MO} {i : Nat} {ds : List D} : hl h i = some ds ↔ h[i]? = some (.lst ds) := by
  unfold hl
  cases h[i]? with
  | none => simp
  | some o => cases o <;> simp
def getL (h : List MO) : D → Option (List D)
  | .lst ds => some ds
  | .ref i => hl h i
  | _ => none
theorem getL_ls {Γ : G} {H : Hp} {μ : List Addr} {h : List MO} (r : Rel Γ H μ h) : ∀ {d : D} {v : V} {ds : List D}, Den Γ μ H v d → getL h d = some ds → ∃ a vs, v = .ref a ∧ LsP Γ.K H a vs ∧ Dens Γ μ H vs ds
  | .lst es, v, ds, k, e => by
    cases e
    obtain ⟨a, vs, rfl, q, t⟩ := k
    exact ⟨a, vs, rfl, q.ls, t⟩
  | .ref i, v, ds, k, e => by
    obtain ⟨a, rfl, q⟩ := k
    obtain ⟨vs, q1, q2⟩ := r.ob i a _ q (hl_iff.mp e)
    exact ⟨a, vs, rfl, .inl (.inl q1), q2⟩
  | .non, _, _, _, e => nomatch e
  | .bl _, _, _, _, e => nomatch e
  | .int _, _, _, _, e => nomatch e
  | .str _, _, _, _, e => nomatch e
  | .tup _, _, _, _, e => nomatch e
  | .glo _, _, _, _, e => nomatch e
  | .clo _ _, _, _, _, e => nomatch e
theorem getL_ok {Γ : G} {H : Hp} {μ : List Addr} {h : List MO} (r : Rel Γ H μ h) {d : D} {v : V} {ds : List D} (k : Den Γ μ H v d) (e : getL h d = some ds) : ∃ a vs, v = .ref a ∧ SqL Γ.K H a vs ∧ Dens Γ μ H vs ds := by
  obtain ⟨a, vs, rfl, q, t⟩ := getL_ls r k e
  exact ⟨a, vs, rfl, q.sq, t⟩
end MP
end
section
set_option Elab.async false
set_option linter.all false
set_option maxRecDepth 100000
set_option maxHeartbeats 1000000
/-! M3: operators. -/
namespace MP
open PySem PySem.Spec PyProof.Rows L2

abbrev LINE : Nat := 16777216
theorem line_eq : sizeLine = LINE := sizeLine_eq
theorem S_app (a b : List Nat) : S a ++ S b = S (a ++ b) := by
  show (⟨a.toArray ++ b.toArray⟩ : Str) = ⟨(a ++ b).toArray⟩
  rw [List.append_toArray]
theorem S_len (a : List Nat) : (S a).length = a.length := by simp [Str.length]
theorem S_inj {a b : List Nat} (h : S a = S b) : a = b := by
  have := congrArg (fun x : Str => x.cps.toList) h
  simpa using this
theorem S_eq (a b : List Nat) : (S a = S b) = (a = b) := propext ⟨S_inj, fun h => by rw [h]⟩

/-! ### + -/
def oAdd : D → D → List MO → Res D
  | .int i, .int j, h => .ok (.int (i + j)) h
  | .str a, .str b, h => if a.length + b.length ≤ LINE then .ok (.str (a ++ b)) h else .stuck
  | .tup a, .tup b, h => if a.length + b.length ≤ LINE then .ok (.tup (a ++ b)) h else .stuck
  | x, y, h => match getL h x, getL h y with
    | some a, some b => if a.length + b.length ≤ LINE then .ok (.lst (a ++ b)) h else .stuck
    | _, _ => .stuck
def rCatP (K : PySem.W.Frag) : R2 := fun x y H Q => ∃ l b xs zs, x = .ref l ∧ y = .ref b ∧ LsP K H l xs ∧ LsP K H b zs ∧ xs.length + zs.length ≤ sizeLine ∧ ∀ p, H p = none → Q (.ref p) (upd H p (.lst (xs ++ zs)))
theorem LsP.at {X : Cx} {pins : List (Addr × Obj)} {σ : L2.St} {H : Hp} {s : Shared} {a : Addr} {xs : List V} (I : Inv X pins σ H s) (h : LsP X.K H a xs) : ∃ (its : List Value) (n : Nat), Vals xs its ∧ s.heap.get? a = some { cls := .type "list", data := .seq its.toArray n } := by
  rcases h with h | ⟨its, n, hk, hz, r⟩
  · obtain ⟨z, its, n, r, e⟩ := h.ok I.hok
    exact ⟨its, n, r, e⟩
  · exact ⟨its.toList, n, r, by have := I.kIn a _ hk; simpa using this⟩
theorem op_catP {X : Cx} : OpR X (binaryOp .Add) (rCatP X.K) := by
  intro pins s σ H x y v u Q I rx ry h
  obtain ⟨l, b, xs, zs, rfl, rfl, hH, hB, hz, q⟩ := h
  cases rx
  cases ry
  obtain ⟨its, n, r, e⟩ := LsP.at I hH
  obtain ⟨its2, n2, r2, e2⟩ := LsP.at I hB
  have hl := r.length
  have hl2 := r2.length
  refine PySem.P.add_list e e2 ?_ (by rw [List.size_toArray, List.size_toArray]; omega)
  have ea : its.toArray ++ its2.toArray = (its ++ its2).toArray := by simp
  rw [ea]
  exact ⟨.ref _, _, I.lnew (t' := s.toks) (r.append r2) (by rw [List.length_append]; omega), rfl, q _ I.fresh⟩
def rAddAll (K : PySem.W.Frag) : R2 := fun x y H Q => rI0 (fun i j => .int (i + j)) x y H Q ∨ (∃ i j, x = .str i ∧ y = .str j ∧ i.length + j.length ≤ sizeLine ∧ Q (.str (i ++ j)) H) ∨ rCatA K x y H Q ∨ rCatP K x y H Q
theorem op_addAll {X : Cx} {Γ : G} (hX : CxG X Γ) : OpR X (binaryOp .Add) (rAddAll Γ.K) := by
  rw [← hX.k]
  exact op_add.or (op_add_str.or (op_catA.or op_catP))
section
variable {Γ : G} {W : WX} {σ : L2.St} {H : Hp} {μ : List Addr} {h : List MO} {Q : VK} {x y : V}
theorem add_lists {a b : List D} {d e : D} (r : Rel Γ H μ h) (da : Den Γ μ H x d) (db : Den Γ μ H y e) (ea : getL h d = some a) (eb : getL h e = some b) (hl : a.length + b.length ≤ LINE) (q : Good Γ W σ H μ (denE Γ) Q (.ok (.lst (a ++ b)) h)) : rAddAll Γ.K x y H (fz Q) := by
  obtain ⟨p, vs, rfl, hp, dv⟩ := getL_ls r da ea
  obtain ⟨p2, us, rfl, hp2, du⟩ := getL_ls r db eb
  refine .inr (.inr (.inr ⟨p, p2, vs, us, rfl, rfl, hp, hp2, ?_, good_lst q r (dv.append du)⟩))
  rw [line_eq, dv.length, du.length]
  exact hl
theorem o_add : Op2 Γ (fun x y H Q => rAddAll Γ.K x y H (fz Q)) oAdd := by
  intro W σ H μ h x y a b Q r da db q
  have lists : ∀ {a b : D}, Den Γ μ H x a → Den Γ μ H y b → Good Γ W σ H μ (denE Γ) Q (match getL h a, getL h b with
    | some a, some b => if a.length + b.length ≤ LINE then .ok (.lst (a ++ b)) h else .stuck
    | _, _ => .stuck) → rAddAll Γ.K x y H (fz Q) := fun {a b} da db q => by
    split at q
    · rename_i u v e1 e2
      split at q
      · rename_i hl
        exact add_lists r da db e1 e2 hl q
      · exact False.elim q
    · exact False.elim q
  unfold oAdd at q
  split at q
  · cases da; cases db
    exact .inl ⟨_, _, rfl, rfl, .inl (good_pure q r rfl)⟩
  · split at q
    · rename_i hl
      cases da; cases db
      refine .inr (.inl ⟨_, _, rfl, rfl, ?_, ?_⟩)
      · rw [S_len, S_len, line_eq]; exact hl
      · rw [S_app]; exact .inl (good_pure q r rfl)
    · exact False.elim q
  · split at q
    · rename_i a b hl
      obtain ⟨p, vs, rfl, tp, dv⟩ := da
      obtain ⟨p2, us, rfl, tp2, du⟩ := db
      refine .inr (.inr (.inl ⟨p, p2, vs, us, rfl, rfl, tp.sq, tp2.sq, ?_, fun e => ?_, fun _ e => ?_, fun _ _ p hp => .inl (good_tup q r (dv.append du) p hp)⟩))
      · rw [line_eq, dv.length, du.length]; exact hl
      · subst e
        have := dv.length
        have e : a = [] := List.eq_nil_of_length_eq_zero this.symm
        subst e
        exact .inl (good_pure q r ⟨p2, us, rfl, tp2, du⟩)
      · subst e
        have := du.length
        have e : b = [] := List.eq_nil_of_length_eq_zero this.symm
        subst e
        rw [List.append_nil] at q
        exact .inl (good_pure q r ⟨p, vs, rfl, tp, dv⟩)
    · exact False.elim q
  · exact lists da db q

/-! ### -, *, //, %, ** -/
def oSub : D → D → List MO → Res D
  | .int i, .int j, h => .ok (.int (i - j)) h
  | _, _, _ => .stuck
theorem o_sub : Op2 Γ (rI0 fun i j => .int (i - j)) oSub := by
  intro W σ H μ h x y a b Q r da db q
  unfold oSub at q
  split at q
  · cases da; cases db
    exact ⟨_, _, rfl, rfl, good_pure q r rfl⟩
  · exact False.elim q
def mulOk (i j : Int) : Prop := CMulX i j
@[irreducible] instance mulOkD (i j : Int) : Decidable (mulOk i j) := by unfold mulOk CMulX; infer_instance
/-- a text so many times -/
def repS (k : Nat) (l : List Nat) : List Nat := (List.replicate k l).flatten
def oMul : D → D → List MO → Res D
  | .int i, .int j, h => if mulOk i j then .ok (.int (i * j)) h else .stuck
  | .str l, .int k, h => if k < 2 ^ 40 ∧ - 2 ^ 40 < k ∧ l.length * k.toNat ≤ LINE then .ok (.str (repS k.toNat l)) h else .stuck
  | .tup ds, .int k, h => if ds ≠ [] ∧ 2 ≤ k ∧ k ≤ 1000 ∧ ds.length ≤ 1000 then .ok (.tup (List.replicate k.toNat ds).flatten) h else .stuck
  | _, _, _ => .stuck
end
theorem fold_rep (a : Array Nat) : ∀ (n : Nat) (s : Array Nat), ((List.replicate n a).foldl (· ++ ·) s).toList = s.toList ++ repS n a.toList
  | 0, s => by simp [repS]
  | n + 1, s => by
    rw [List.replicate_succ, List.foldl_cons, fold_rep a n]
    simp [repS, List.replicate_succ]
def rMulS : R2 := fun x y H Q => ∃ l k, x = .str (S l) ∧ y = .int k ∧ k < 2 ^ 40 ∧ - 2 ^ 40 < k ∧ l.length * k.toNat ≤ LINE ∧ Q (.str (S (repS k.toNat l))) H
theorem op_mulS {X : Cx} : OpR X (binaryOp .Mult) rMulS := by
  intro pins s σ H x y v u Q I rx ry hq
  obtain ⟨l, k, rfl, rfl, h1, h2, h3, q⟩ := hq
  obtain ⟨t, rfl⟩ := rx
  obtain ⟨t', rfl⟩ := ry
  have e1 : decide (k < -(2 ^ 63 : Int)) = false := decide_eq_false (by omega)
  have e2 : decide (k ≥ (2 ^ 63 : Int)) = false := decide_eq_false (by omega)
  refine PySem.P.mul_str (by rw [e1, e2]; rfl) (fun h _ => ?_) (fun h _ => ?_) ?_
  · intro z
    have hl : (S l).length = l.length := S_len l
    rw [hl] at z
    have hk : 0 < k := by omega
    have h4 : (l.length : Int) * k ≤ 16777216 := by
      have e : (k.toNat : Int) = k := Int.toNat_of_nonneg (by omega)
      have h5 : ((l.length * k.toNat : Nat) : Int) ≤ ((LINE : Nat) : Int) := Int.ofNat_le.mpr h3
      rw [Int.natCast_mul, e] at h5
      exact h5
    have h6 : (2 ^ 63 - 1) / k < (l.length : Int) := z
    have h7 : (2 ^ 63 - 1 : Int) < (l.length : Int) * k := (Int.ediv_lt_iff_lt_mul hk).mp h6
    omega
  · apply decide_eq_false
    show ¬ ((S l).length * k.toNat > sizeLine)
    rw [S_len, line_eq]
    omega
  · by_cases z : k < 1
    · rw [if_pos z]
      refine ⟨by decide, ?_⟩
      have e : repS k.toNat l = [] := by
        have : k.toNat = 0 := by omega
        rw [this]; rfl
      rw [e] at q
      exact ⟨.str (S []), H, I.tok _, ⟨_, rfl⟩, q⟩
    · rw [if_neg z]
      by_cases z2 : (k == 1 || (S l).length == 0) = true
      · rw [if_pos z2]
        have e : repS k.toNat l = l := by
          rw [Bool.or_eq_true] at z2
          rcases z2 with z2 | z2
          · have : k = 1 := eq_of_beq z2
            subst this
            simp [repS]
          · have : l.length = 0 := by rw [← S_len]; exact eq_of_beq z2
            have : l = [] := List.eq_nil_of_length_eq_zero this
            subst this
            unfold repS
            simp
        rw [e] at q
        exact ⟨.str (S l), H, I, ⟨_, rfl⟩, q⟩
      · rw [if_neg z2]
        have e : (⟨(List.replicate k.toNat (S l).cps).foldl (· ++ ·) #[]⟩ : Str) = S (repS k.toNat l) := by
          have := fold_rep (S l).cps k.toNat #[]
          simp at this
          show Str.mk _ = Str.mk _
          congr 1
          apply Array.toList_inj.mp
          rw [this]
        rw [e]
        refine ⟨?_, ⟨.str (S (repS k.toNat l)), H, I.tok _, ⟨_, rfl⟩, q⟩⟩
        first
          | (rw [S_len]; show (repS k.toNat l).length ≤ sizeLine; rw [line_eq]; simp [repS]; rw [Nat.mul_comm]; exact h3)
          | (show (S (repS k.toNat l)).length ≤ sizeLine; rw [S_len, line_eq]; simp [repS]; rw [Nat.mul_comm]; exact h3)
end MP
end
section
set_option Elab.async false
set_option linter.all false
set_option maxRecDepth 100000
set_option maxHeartbeats 1000000
/-! M4: more operators, comparisons. -/
namespace MP
open PySem PySem.Spec PyProof.Rows L2
def rMulAll (K : PySem.W.Frag) : R2 := fun x y H Q => rI CMulX (fun i j => .int (i * j)) x y H Q ∨ rMulS x y H Q ∨ rRepT K x y H Q
theorem op_mulAll {X : Cx} {Γ : G} (hX : CxG X Γ) : OpR X (binaryOp .Mult) (rMulAll Γ.K) := by
  rw [← hX.k]
  exact op_mulX.or (op_mulS.or op_repT)
theorem flatten_dens {Γ : G} {μ : List Addr} {H : Hp} {vs : List V} {ds : List D} (h : Dens Γ μ H vs ds) : ∀ n : Nat, Dens Γ μ H (List.replicate n vs).flatten (List.replicate n ds).flatten
  | 0 => rfl
  | n + 1 => by
    rw [List.replicate_succ, List.replicate_succ, List.flatten_cons, List.flatten_cons]
    exact h.append (flatten_dens h n)
def oFdiv : D → D → List MO → Res D
  | .int i, .int j, h => if j ≠ 0 ∧ j.natAbs.log2 < 9000 then .ok (.int (i.fdiv j)) h else .stuck
  | _, _, _ => .stuck
def oMod : D → D → List MO → Res D
  | .int i, .int j, h => if j ≠ 0 then .ok (.int (i.fmod j)) h else .stuck
  | _, _, _ => .stuck
def oPow : D → D → List MO → Res D
  | .int i, .int j, h => if 0 ≤ j ∧ j ≤ 1000000 ∧ i.natAbs < 2 ^ 64 then .ok (.int (i ^ j.toNat)) h else .stuck
  | _, _, _ => .stuck
def CDivA (_ j : Int) : Prop := j ≠ 0 ∧ j.natAbs.log2 < 9000
theorem op_fdivA {X : Cx} : OpR X (binaryOp .FloorDiv) (rI CDivA fun i j => .int (i.fdiv j)) := opI fun _ _ _ _ _ _ _ hc q => floordiv_int hc.1 q (.inl (PyProof.noPylong_of_log2 hc.2))
section
variable {Γ : G} {W : WX} {σ : L2.St} {H : Hp} {μ : List Addr} {h : List MO} {Q : VK} {x y : V}
theorem o_mul : Op2 Γ (rMulAll Γ.K) oMul := by
  intro W σ H μ h x y a b Q r da db q
  unfold oMul at q
  split at q
  · split at q
    · rename_i hl
      cases da; cases db
      exact .inl ⟨_, _, rfl, rfl, hl, good_pure q r rfl⟩
    · exact False.elim q
  · split at q
    · rename_i hl
      cases da; cases db
      exact .inr (.inl ⟨_, _, rfl, rfl, hl.1, hl.2.1, hl.2.2, good_pure q r rfl⟩)
    · exact False.elim q
  · split at q
    · rename_i ds k hl
      obtain ⟨p, vs, rfl, tp, dv⟩ := da
      cases db
      refine .inr (.inr ⟨p, k, vs, rfl, rfl, tp.sq, fun e => ?_, hl.2.1, hl.2.2.1, by rw [dv.length]; exact hl.2.2.2, good_tup q r (flatten_dens dv _)⟩)
      subst e
      have := dv.length
      exact hl.1 (List.eq_nil_of_length_eq_zero this.symm)
    · exact False.elim q
  · exact False.elim q
theorem o_fdiv : Op2 Γ (rI CDivA fun i j => .int (i.fdiv j)) oFdiv := by
  intro W σ H μ h x y a b Q r da db q
  unfold oFdiv at q
  split at q
  · split at q
    · rename_i hl
      cases da; cases db
      exact ⟨_, _, rfl, rfl, hl, good_pure q r rfl⟩
    · exact False.elim q
  · exact False.elim q
theorem o_mod : Op2 Γ (rI (fun _ j => j ≠ 0) fun i j => .int (i.fmod j)) oMod := by
  intro W σ H μ h x y a b Q r da db q
  unfold oMod at q
  split at q
  · split at q
    · rename_i hl
      cases da; cases db
      exact ⟨_, _, rfl, rfl, hl, good_pure q r rfl⟩
    · exact False.elim q
  · exact False.elim q
theorem o_pow : Op2 Γ (rI CPow fun i j => .int (i ^ j.toNat)) oPow := by
  intro W σ H μ h x y a b Q r da db q
  unfold oPow at q
  split at q
  · split at q
    · rename_i hl
      cases da; cases db
      exact ⟨_, _, rfl, rfl, hl, good_pure q r rfl⟩
    · exact False.elim q
  · exact False.elim q
def oNeg : D → List MO → Res D
  | .int i, h => .ok (.int (-i)) h
  | _, _ => .stuck
theorem o_neg : Op1 Γ (rU fun i => .int (-i)) oNeg := by
  intro W σ H μ h x a Q r da q
  unfold oNeg at q
  split at q
  · cases da
    exact ⟨_, rfl, good_pure q r rfl⟩
  · exact False.elim q

/-! ### comparisons -/
def oLt : D → D → List MO → Res D
  | .int i, .int j, h => .ok (.bl (decide (i < j))) h
  | .str a, .str b, h => .ok (.bl (decide (a < b))) h
  | _, _, _ => .stuck
def oLe : D → D → List MO → Res D
  | .int i, .int j, h => .ok (.bl (decide (i ≤ j))) h
  | .str a, .str b, h => .ok (.bl (!decide (b < a))) h
  | _, _, _ => .stuck
def oGt : D → D → List MO → Res D
  | .int i, .int j, h => .ok (.bl (decide (j < i))) h
  | .str a, .str b, h => .ok (.bl (decide (b < a))) h
  | _, _, _ => .stuck
def oGe : D → D → List MO → Res D
  | .int i, .int j, h => .ok (.bl (decide (j ≤ i))) h
  | .str a, .str b, h => .ok (.bl (!decide (a < b))) h
  | _, _, _ => .stuck
def rCmpB (f : Int → Int → Bool) (g : List Nat → List Nat → Bool) : R2 := fun x y H Q => rI0 (fun i j => .bl (f i j)) x y H Q ∨ ∃ i j : Str, x = .str i ∧ y = .str j ∧ Q (.bl (g i.cps.toList j.cps.toList)) H
theorem o_cmp {f : Int → Int → Bool} {g : List Nat → List Nat → Bool} {o : D → D → List MO → Res D} (h1 : ∀ i j h, o (.int i) (.int j) h = .ok (.bl (f i j)) h) (h2 : ∀ i j h, o (.str i) (.str j) h = .ok (.bl (g i j)) h)
    (h3 : ∀ a b h, (∀ i j, ¬ (a = .int i ∧ b = .int j)) → (∀ i j, ¬ (a = .str i ∧ b = .str j)) → o a b h = .stuck) : Op2 Γ (rCmpB f g) o := by
  intro W σ H μ h x y a b Q r da db q
  by_cases c1 : ∃ i j, a = .int i ∧ b = .int j
  · obtain ⟨i, j, rfl, rfl⟩ := c1
    cases da; cases db
    rw [h1] at q
    exact .inl ⟨_, _, rfl, rfl, good_pure q r rfl⟩
  · by_cases c2 : ∃ i j, a = .str i ∧ b = .str j
    · obtain ⟨i, j, rfl, rfl⟩ := c2
      cases da; cases db
      rw [h2] at q
      refine .inr ⟨_, _, rfl, rfl, good_pure q r ?_⟩
      show V.bl (g (S i).cps.toList (S j).cps.toList) = _
      simp
    · rw [h3 a b h (fun i j z => c1 ⟨i, j, z⟩) (fun i j z => c2 ⟨i, j, z⟩)] at q
      exact False.elim q
theorem o_lt : Op2 Γ (rCmpB (fun i j => decide (i < j)) fun i j => decide (i < j)) oLt := o_cmp (fun _ _ _ => rfl) (fun _ _ _ => rfl) fun a b h n1 n2 => by
  unfold oLt; split <;> first | exact absurd ⟨rfl, rfl⟩ (n1 _ _) | exact absurd ⟨rfl, rfl⟩ (n2 _ _) | rfl
theorem o_le : Op2 Γ (rCmpB (fun i j => decide (i ≤ j)) fun i j => !decide (j < i)) oLe := o_cmp (fun _ _ _ => rfl) (fun _ _ _ => rfl) fun a b h n1 n2 => by
  unfold oLe; split <;> first | exact absurd ⟨rfl, rfl⟩ (n1 _ _) | exact absurd ⟨rfl, rfl⟩ (n2 _ _) | rfl
theorem o_gt : Op2 Γ (rCmpB (fun i j => decide (j < i)) fun i j => decide (j < i)) oGt := o_cmp (fun _ _ _ => rfl) (fun _ _ _ => rfl) fun a b h n1 n2 => by
  unfold oGt; split <;> first | exact absurd ⟨rfl, rfl⟩ (n1 _ _) | exact absurd ⟨rfl, rfl⟩ (n2 _ _) | rfl
theorem o_ge : Op2 Γ (rCmpB (fun i j => decide (j ≤ i)) fun i j => !decide (i < j)) oGe := o_cmp (fun _ _ _ => rfl) (fun _ _ _ => rfl) fun a b h n1 n2 => by
  unfold oGe; split <;> first | exact absurd ⟨rfl, rfl⟩ (n1 _ _) | exact absurd ⟨rfl, rfl⟩ (n2 _ _) | rfl
end
section
variable {X : Cx}
theorem op_ltA : OpR X (compareOp .Lt) (rCmpB (fun i j => decide (i < j)) fun i j => decide (i < j)) := op_lt.or op_lt_str
theorem op_leA : OpR X (compareOp .LtE) (rCmpB (fun i j => decide (i ≤ j)) fun i j => !decide (j < i)) := op_le.or op_le_str
theorem op_gtA : OpR X (compareOp .Gt) (rCmpB (fun i j => decide (j < i)) fun i j => decide (j < i)) := op_gt.or op_gt_str
theorem op_geA : OpR X (compareOp .GtE) (rCmpB (fun i j => decide (j ≤ i)) fun i j => !decide (i < j)) := op_ge.or op_ge_str
end
/-! == -/
mutual
def toP : D → Option PyData
  | .non => some .none
  | .bl b => some (.bool b)
  | .int i => some (.int i)
  | .str l => some (.str (S l))
  | .tup ds => (toPs ds).map .tuple
  | .lst ds => (toPs ds).map .list
  | _ => none
def toPs : List D → Option (List PyData)
  | [] => some []
  | d :: ds => match toP d, toPs ds with
    | some p, some ps => some (p :: ps)
    | _, _ => none
end
/-- a list of the mini heap as it stands -/
def nf (h : List MO) : D → D
  | .ref i => match hl h i with
    | some ds => .lst ds
    | none => .ref i
  | d => d
mutual
theorem toP_ok {Γ : G} {μ : List Addr} {H : Hp} : ∀ {d : D} {v : V} {p : PyData}, Den Γ μ H v d → toP d = some p → Dp Γ.K H v p
  | .non, v, p, k, e => by cases e; cases (show v = _ from k); exact .non
  | .bl b, v, p, k, e => by cases e; cases (show v = _ from k); exact .bl b
  | .int b, v, p, k, e => by cases e; cases (show v = _ from k); exact .int b
  | .str b, v, p, k, e => by cases e; cases (show v = _ from k); exact .str _
  | .tup ds, v, p, k, e => by
    unfold toP at e
    cases q : toPs ds with
    | none => rw [q] at e; cases e
    | some ps =>
      rw [q] at e; cases e
      obtain ⟨a, vs, rfl, t, dv⟩ := k
      exact .tup t.sq (toPs_ok dv q)
  | .lst ds, v, p, k, e => by
    unfold toP at e
    cases q : toPs ds with
    | none => rw [q] at e; cases e
    | some ps =>
      rw [q] at e; cases e
      obtain ⟨a, vs, rfl, t, dv⟩ := k
      exact .lst t.sq (toPs_ok dv q)
  | .ref _, _, _, _, e => by unfold toP at e; cases e
  | .glo _, _, _, _, e => by unfold toP at e; cases e
  | .clo _ _, _, _, _, e => by unfold toP at e; cases e
theorem toPs_ok {Γ : G} {μ : List Addr} {H : Hp} : ∀ {ds : List D} {vs : List V} {ps : List PyData}, Dens Γ μ H vs ds → toPs ds = some ps → DpAll Γ.K H vs ps
  | [], vs, ps, k, e => by cases e; rw [show vs = [] from k]; exact .nil
  | d :: ds, vs, ps, k, e => by
    unfold toPs at e
    obtain ⟨v, r, rfl, k1, k2⟩ := k
    cases q1 : toP d with
    | none => rw [q1] at e; simp at e
    | some p =>
      cases q2 : toPs ds with
      | none => rw [q1, q2] at e; simp at e
      | some qs =>
        rw [q1, q2] at e
        cases e
        exact .cons (toP_ok k1 q1) (toPs_ok k2 q2)
end
theorem nf_ok {Γ : G} {μ : List Addr} {H : Hp} {h : List MO} (r : Rel Γ H μ h) {d : D} {v : V} {p : PyData} (k : Den Γ μ H v d) (e : toP (nf h d) = some p) : Dp Γ.K H v p := by
  cases d with
  | ref i =>
    have e' : toP (match hl h i with | some ds => D.lst ds | none => D.ref i) = some p := e
    cases q : hl h i with
    | none => rw [q] at e'; simp [toP] at e'
    | some ds =>
      rw [q] at e'
      obtain ⟨a, rfl, hm⟩ := k
      obtain ⟨vs, q1, q2⟩ := r.ob i a _ hm (hl_iff.mp q)
      have e2 : (toPs ds).map PyData.list = some p := by
        have := e'
        unfold toP at this
        exact this
      cases q3 : toPs ds with
      | none => rw [q3] at e2; cases e2
      | some ps =>
        rw [q3] at e2
        cases e2
        exact .lst (SqL.of q1) (toPs_ok q2 q3)
  | _ => exact toP_ok k e
/-- values whose == needs no look within -/
def scalD : D → D → Bool
  | .non, .non => true | .non, .int _ => true | .int _, .non => true | .non, .bl _ => true | .bl _, .non => true | .non, .str _ => true | .str _, .non => true
  | .int _, .int _ => true | .bl _, .bl _ => true | .str _, .str _ => true
  | .int _, .str _ => true | .str _, .int _ => true | .bl _, .str _ => true | .str _, .bl _ => true
  | _, _ => false
def eqD (h : List MO) (a b : D) : Option Bool :=
  if scalD a b then some (decide (a = b)) else match toP (nf h a), toP (nf h b) with
    | some p, some q => if SeqAt.shaped p && SeqAt.shaped q then some (PyData.eqv p q) else none
    | _, _ => none
def oEq (a b : D) (h : List MO) : Res D := match eqD h a b with
  | some c => .ok (.bl c) h
  | none => .stuck
def oNe (a b : D) (h : List MO) : Res D := match eqD h a b with
  | some c => .ok (.bl (!c)) h
  | none => .stuck
def rEqA (K : PySem.W.Frag) : R2 := fun x y H Q => rEq x y H Q ∨ rEqD K x y H Q
def rNeA (K : PySem.W.Frag) : R2 := fun x y H Q => rNe x y H Q ∨ rNeD K x y H Q
theorem op_eqA {X : Cx} {Γ : G} (hX : CxG X Γ) {k : Nat} (hr : Room k X.A) : OpR X (compareOp .Eq) (rEqA Γ.K) := by
  rw [← hX.k]
  exact op_eq.or (op_eqD hr.units)
theorem op_neA {X : Cx} {Γ : G} (hX : CxG X Γ) {k : Nat} (hr : Room k X.A) : OpR X (compareOp .NotEq) (rNeA Γ.K) := by
  rw [← hX.k]
  exact op_ne.or (op_neD hr.units)
theorem scal_ok {Γ : G} {μ : List Addr} {H : Hp} {x y : V} {a b : D} (da : Den Γ μ H x a) (db : Den Γ μ H y b) (s : scalD a b = true) : scal x y = true ∧ decide (x = y) = decide (a = b) := by
  have key : ∀ (a b : D), scalD a b = true → ∃ f : D → V, (∀ H μ v, Den Γ μ H v a ↔ v = f a) ∧ (∀ H μ v, Den Γ μ H v b ↔ v = f b) ∧ scal (f a) (f b) = true ∧ (f a = f b ↔ a = b) := by
    intro a b s
    refine ⟨fun d => match d with | .non => .non | .bl b => .bl b | .int i => .int i | .str l => .str (S l) | _ => .non, ?_⟩
    cases a <;> cases b <;> first
      | (exfalso; simp [scalD] at s; done)
      | (refine ⟨fun _ _ _ => Iff.rfl, fun _ _ _ => Iff.rfl, rfl, ?_⟩; simp)
  obtain ⟨f, h1, h2, h3, h4⟩ := key a b s
  have ex := (h1 H μ x).mp da
  have ey := (h2 H μ y).mp db
  subst ex ey
  exact ⟨h3, by rw [decide_eq_decide]; exact h4⟩
theorem eqD_ok {Γ : G} {H : Hp} {μ : List Addr} {h : List MO} {x y : V} {a b : D} {c : Bool} (r : Rel Γ H μ h) (da : Den Γ μ H x a) (db : Den Γ μ H y b) (e : eqD h a b = some c) :
    (scal x y = true ∧ decide (x = y) = c) ∨ ∃ p q, Dp Γ.K H x p ∧ Dp Γ.K H y q ∧ SeqAt.shaped p = true ∧ SeqAt.shaped q = true ∧ PyData.eqv p q = c := by
  unfold eqD at e
  split at e
  · rename_i s
    cases e
    exact .inl (scal_ok da db s)
  · split at e
    · rename_i p q e1 e2
      split at e
      · rename_i hs
        cases e
        rw [Bool.and_eq_true] at hs
        exact .inr ⟨p, q, nf_ok r da e1, nf_ok r db e2, hs.1, hs.2, rfl⟩
      · cases e
    · cases e
theorem o_eq {Γ : G} : Op2 Γ (rEqA Γ.K) oEq := by
  intro W σ H μ h x y a b Q r da db q
  unfold oEq at q
  split at q
  · rename_i c e
    rcases eqD_ok r da db e with ⟨s, e⟩ | ⟨p, p2, h1, h2, h3, h4, e⟩
    · refine .inl ⟨s, ?_⟩
      rw [e]; exact good_pure q r rfl
    · refine .inr ⟨p, p2, h1, h2, h3, h4, ?_⟩
      rw [e]; exact good_pure q r rfl
  · exact False.elim q
theorem o_ne {Γ : G} : Op2 Γ (rNeA Γ.K) oNe := by
  intro W σ H μ h x y a b Q r da db q
  unfold oNe at q
  split at q
  · rename_i c e
    rcases eqD_ok r da db e with ⟨s, e⟩ | ⟨p, p2, h1, h2, h3, h4, e⟩
    · refine .inl ⟨s, ?_⟩
      rw [e]; exact good_pure q r rfl
    · refine .inr ⟨p, p2, h1, h2, h3, h4, ?_⟩
      rw [e]; exact good_pure q r rfl
  · exact False.elim q
end MP
end
section
set_option Elab.async false
set_option linter.all false
set_option maxRecDepth 100000
set_option maxHeartbeats 1000000
/-! M5: is, in, subscripts, tests, displays, calls of built-ins. -/
namespace MP
open PySem PySem.Spec PyProof.Rows L2

/-! ### is None, is True, is False -/
def isK : D → Bool
  | .non => true
  | .bl _ => true
  | _ => false
def oIs (a b : D) (h : List MO) : Res D := if isK b then .ok (.bl (decide (a = b))) h else .stuck
def oIsNot (a b : D) (h : List MO) : Res D := if isK b then .ok (.bl (!decide (a = b))) h else .stuck
def rIsK (neg : Bool) : R2 := fun x y H Q => (y = .non ∨ ∃ b, y = .bl b) ∧ Q (.bl (if neg then !decide (x = y) else decide (x = y))) H
theorem plain_b {x : V} {v : Value} (r : RelV x v) (b : Bool) : plainIs v (.bool b) = true ∧ (v == Value.bool b) = decide (x = .bl b) := by
  cases x with
  | non => cases r; exact ⟨rfl, rfl⟩
  | bl c =>
    cases r
    refine ⟨rfl, ?_⟩
    by_cases e : c = b
    · subst e; simp
    · have h1 : Value.bool c ≠ Value.bool b := fun z => e (Value.bool.inj z)
      have h2 : V.bl c ≠ V.bl b := fun z => e (V.bl.inj z)
      rw [decide_eq_false h2]
      exact beq_eq_false_iff_ne.mpr h1
  | int i => obtain ⟨t, rfl⟩ := r; exact ⟨rfl, rfl⟩
  | str i => obtain ⟨t, rfl⟩ := r; exact ⟨rfl, rfl⟩
  | byt i => obtain ⟨t, rfl⟩ := r; exact ⟨rfl, rfl⟩
  | flt i => obtain ⟨t, rfl⟩ := r; exact ⟨rfl, rfl⟩
  | ref i => cases r; exact ⟨rfl, rfl⟩
  | ty i => cases r; exact ⟨rfl, rfl⟩
theorem op_isK {X : Cx} : OpR X (compareOp .Is) (rIsK false) := by
  intro pins s σ H x y v u Q I rx ry h
  obtain ⟨hy, q⟩ := h
  rcases hy with rfl | ⟨b, rfl⟩
  · exact op_isN pins s σ H x _ v u Q I rx ry ⟨rfl, q⟩
  · cases ry
    obtain ⟨p, e⟩ := plain_b rx b
    exact wpAny_is_plain p (fin_bl I q e.symm)
theorem op_isNotK {X : Cx} : OpR X (compareOp .IsNot) (rIsK true) := by
  intro pins s σ H x y v u Q I rx ry h
  obtain ⟨hy, q⟩ := h
  rcases hy with rfl | ⟨b, rfl⟩
  · exact op_notN pins s σ H x _ v u Q I rx ry ⟨rfl, q⟩
  · cases ry
    obtain ⟨p, e⟩ := plain_b rx b
    exact wpAny_isNot_plain p (fin_bl I q (by rw [e]; rfl))
section
variable {Γ : G} {W : WX} {σ : L2.St} {H : Hp} {μ : List Addr} {h : List MO} {Q : VK} {x y : V}
theorem isK_dec {a b : D} (da : Den Γ μ H x a) (db : Den Γ μ H y b) (k : isK b = true) : (y = .non ∨ ∃ c, y = .bl c) ∧ decide (x = y) = decide (a = b) := by
  cases b with
  | non =>
    cases db
    refine ⟨.inl rfl, decide_eq_decide.mpr ?_⟩
    cases a with
    | non => cases da; simp
    | bl _ => cases da; simp
    | int _ => cases da; simp
    | str _ => cases da; simp
    | tup _ => obtain ⟨a, vs, rfl, _⟩ := da; simp
    | lst _ => obtain ⟨a, vs, rfl, _⟩ := da; simp
    | ref _ => obtain ⟨a, rfl, _⟩ := da; simp
    | glo _ => obtain ⟨a, rfl, _⟩ := da; simp
    | clo _ _ => obtain ⟨a, _, _, rfl, _⟩ := da; simp
  | bl c =>
    cases db
    refine ⟨.inr ⟨c, rfl⟩, decide_eq_decide.mpr ?_⟩
    cases a with
    | non => cases da; simp
    | bl _ => cases da; simp
    | int _ => cases da; simp
    | str _ => cases da; simp
    | tup _ => obtain ⟨a, vs, rfl, _⟩ := da; simp
    | lst _ => obtain ⟨a, vs, rfl, _⟩ := da; simp
    | ref _ => obtain ⟨a, rfl, _⟩ := da; simp
    | glo _ => obtain ⟨a, rfl, _⟩ := da; simp
    | clo _ _ => obtain ⟨a, _, _, rfl, _⟩ := da; simp
  | _ => cases k
theorem o_is : Op2 Γ (rIsK false) oIs := by
  intro W σ H μ h x y a b Q r da db q
  unfold oIs at q
  split at q
  · rename_i k
    obtain ⟨h1, h2⟩ := isK_dec da db k
    refine ⟨h1, ?_⟩
    rw [if_neg Bool.false_ne_true, h2]
    exact good_pure q r rfl
  · exact False.elim q
theorem o_isnot : Op2 Γ (rIsK true) oIsNot := by
  intro W σ H μ h x y a b Q r da db q
  unfold oIsNot at q
  split at q
  · rename_i k
    obtain ⟨h1, h2⟩ := isK_dec da db k
    refine ⟨h1, ?_⟩
    rw [if_pos rfl, h2]
    exact good_pure q r rfl
  · exact False.elim q

/-! ### in, not in -/
def eqF : D → D → Bool
  | .non, .non => true
  | .bl a, .bl b => a == b
  | .bl a, .int b => (if a then 1 else 0) == b
  | .int a, .bl b => a == (if b then 1 else 0)
  | .int a, .int b => a == b
  | .str a, .str b => a == b
  | _, _ => false
def flatD : D → Bool
  | .non => true
  | .bl _ => true
  | .int _ => true
  | .str _ => true
  | _ => false
def getQ (h : List MO) : D → Option (List D)
  | .tup ds => some ds
  | d => getL h d
def oIn (neg : Bool) (a b : D) (h : List MO) : Res D := match a, b with
  | .str [c], .str l => .ok (.bl (if neg then !decide (c ∈ l) else decide (c ∈ l))) h
  | a, b => match getQ h b with
    | some ds => if flatD a && ds.all flatD then .ok (.bl (if neg then !(ds.any fun y => eqF y a) else ds.any fun y => eqF y a)) h else .stuck
    | none => .stuck
theorem getQ_ok (r : Rel Γ H μ h) {d : D} {v : V} {ds : List D} (k : Den Γ μ H v d) (e : getQ h d = some ds) : ∃ a vs, v = .ref a ∧ (SqL Γ.K H a vs ∨ SqT Γ.K H a vs) ∧ Dens Γ μ H vs ds := by
  cases d with
  | tup es =>
    cases e
    obtain ⟨a, vs, rfl, q, t⟩ := k
    exact ⟨a, vs, rfl, .inr q.sq, t⟩
  | _ =>
    obtain ⟨a, vs, e1, q, t⟩ := getL_ok r k e
    exact ⟨a, vs, e1, .inl q, t⟩
theorem flat_ok {a : D} (da : Den Γ μ H x a) (f : flatD a = true) : flatV x = true := by
  cases a with
  | non => cases da; rfl
  | bl _ => cases da; rfl
  | int _ => cases da; rfl
  | str _ => cases da; rfl
  | _ => cases f
theorem eqF_ok {a b : D} (da : Den Γ μ H x a) (db : Den Γ μ H y b) (f : flatD a = true) (g : flatD b = true) : eqV x y = eqF a b := by
  cases a with
  | non => cases da; cases b with
    | non => cases db; rfl
    | bl _ => cases db; rfl
    | int _ => cases db; rfl
    | str _ => cases db; rfl
    | _ => cases g
  | bl _ => cases da; cases b with
    | non => cases db; rfl
    | bl _ => cases db; rfl
    | int _ => cases db; rfl
    | str _ => cases db; rfl
    | _ => cases g
  | int _ => cases da; cases b with
    | non => cases db; rfl
    | bl _ => cases db; rfl
    | int _ => cases db; rfl
    | str _ => cases db; rfl
    | _ => cases g
  | str l => cases da; cases b with
    | non => cases db; rfl
    | bl _ => cases db; rfl
    | int _ => cases db; rfl
    | str m =>
      cases db
      show (S l == S m) = (l == m)
      rw [Bool.eq_iff_iff]
      simp
    | _ => cases g
  | _ => cases f
theorem flats_ok : ∀ {ds : List D} {vs : List V}, Dens Γ μ H vs ds → ds.all flatD = true → vs.all flatV = true
  | [], _, k, _ => by rw [show _ = [] from k]; rfl
  | d :: ds, _, k, f => by
    obtain ⟨v, r, rfl, k1, k2⟩ := k
    rw [List.all_cons, Bool.and_eq_true] at f
    rw [List.all_cons, flat_ok k1 f.1, flats_ok k2 f.2]
    rfl
theorem anyF_ok {a : D} (da : Den Γ μ H x a) (fa : flatD a = true) : ∀ {ds : List D} {vs : List V}, Dens Γ μ H vs ds → ds.all flatD = true → (vs.any fun y => eqV y x) = ds.any fun y => eqF y a
  | [], _, k, _ => by rw [show _ = [] from k]; rfl
  | d :: ds, _, k, f => by
    obtain ⟨v, r, rfl, k1, k2⟩ := k
    rw [List.all_cons, Bool.and_eq_true] at f
    rw [List.any_cons, List.any_cons, eqF_ok k1 da f.1 fa, anyF_ok da fa k2 f.2]
def rInA (K : PySem.W.Frag) (neg : Bool) : R2 := fun x y H Q => (∃ (c : Nat) (z : Str), x = .str ⟨#[c]⟩ ∧ y = .str z ∧ Q (.bl (if neg then !decide (c ∈ z.cps.toList) else decide (c ∈ z.cps.toList))) H) ∨ rIn K neg x y H Q
theorem o_in {neg : Bool} : Op2 Γ (rInA Γ.K neg) (oIn neg) := by
  intro W σ H μ h x y a b Q r da db q
  unfold oIn at q
  split at q
  · cases da; cases db
    refine .inl ⟨_, _, rfl, rfl, good_pure q r ?_⟩
    simp [Den]
  · split at q
    · rename_i ds e
      split at q
      · rename_i f
        rw [Bool.and_eq_true] at f
        obtain ⟨p, vs, rfl, sq, dv⟩ := getQ_ok r db e
        refine .inr ⟨p, vs, rfl, sq, flat_ok da f.1, flats_ok dv f.2, good_pure q r ?_⟩
        unfold inV
        rw [anyF_ok da f.1 dv f.2]
        exact rfl
      · exact False.elim q
    · exact False.elim q
end
theorem op_inA {X : Cx} {Γ : G} (hX : CxG X Γ) : OpR X (compareOp .In) (rInA Γ.K false) := by
  rw [← hX.k]
  exact op_in_sign.or op_in_seq
theorem op_notInA {X : Cx} {Γ : G} (hX : CxG X Γ) : OpR X (compareOp .NotIn) (rInA Γ.K true) := by
  rw [← hX.k]
  exact op_notIn_sign.or op_notIn_seq

/-! ### subscripts -/
def oIx (a b : D) (h : List MO) : Res D := match a, b with
  | .str l, .int i => if l.length ≤ LINE then match atI l i with
      | some c => .ok (.str [c]) h
      | none => .stuck
    else .stuck
  | a, .int i => match getQ h a with
    | some ds => match atI ds i with
      | some d => .ok d h
      | none => .stuck
    | none => .stuck
  | _, _ => .stuck
theorem atI_dens {Γ : G} {μ : List Addr} {H : Hp} {vs : List V} {ds : List D} {i : Int} {d : D} (k : Dens Γ μ H vs ds) (e : atI ds i = some d) : ∃ v, atI vs i = some v ∧ Den Γ μ H v d := by
  unfold atI at e ⊢
  rw [k.length]
  cases q : ixN ds.length i with
  | none => rw [q] at e; cases e
  | some j =>
    rw [q] at e
    exact k.get e
theorem o_ix {Γ : G} : Op2 Γ (rIx Γ.K) oIx := by
  intro W σ H μ h x y a b Q r da db q
  unfold oIx at q
  split at q
  · split at q
    · rename_i hl
      split at q
      · rename_i c e
        cases da; cases db
        refine .inr (.inr ⟨_, _, c, rfl, rfl, by rw [S_len, line_eq]; exact hl, by simpa using e, good_pure q r rfl⟩)
      · exact False.elim q
    · exact False.elim q
  · split at q
    · rename_i ds e
      split at q
      · rename_i d e2
        obtain ⟨p, vs, rfl, sq, dv⟩ := getQ_ok r da e
        cases db
        obtain ⟨v, e3, k⟩ := atI_dens dv e2
        rcases sq with sq | sq
        · exact .inl ⟨p, vs, _, v, rfl, rfl, sq, e3, good_pure q r k⟩
        · exact .inr (.inl ⟨p, vs, _, v, rfl, rfl, sq, e3, good_pure q r k⟩)
      · exact False.elim q
    · exact False.elim q
  · exact False.elim q
theorem ix_all {X : Cx} {Γ : G} (hX : CxG X Γ) : IxR X (rIx Γ.K) := by
  rw [← hX.k]
  exact ix_seq

/-! ### slices -/
def cutD {α : Type} (xs : List α) (lo hi : Option Int) : List α := (xs.drop (HT.sIx xs.length 0 lo)).take (HT.sIx xs.length xs.length hi - HT.sIx xs.length 0 lo)
def oSl (a : D) (lo hi : Option Int) (h : List MO) : Res D := match a with
  | .str l => if l.length ≤ LINE then .ok (.str (cutD l lo hi)) h else .stuck
  | .tup ds => .ok (.tup (cutD ds lo hi)) h
  | a => match getL h a with
    | some ds => .ok (.lst (cutD ds lo hi)) h
    | none => .stuck
/-- a slice's part: left out, or an int -/
def xPart (f : Option ME) : Rho → List MO → Res (Option Int) := fun ρ h => match f with
  | none => .ok none h
  | some f => (f ρ h).bind fun y h2 => match y with
    | .int i => .ok (some i) h2
    | _ => .stuck
def xSl (fa : ME) (fl fu : Option ME) : ME := fun ρ h => (fa ρ h).bind fun x h1 => (xPart fl ρ h1).bind fun l h2 => (xPart fu ρ h2).bind fun u h3 => oSl x l u h3
abbrev tO (Γ : G) (W : WX) (f : Option ME) : TO := match f with
  | none => tNoPart
  | some f => tPart (tE Γ W f)
structure FO (X : Cx) (Γ : G) (W : WX) (e : Option Expr) (f : Option ME) : Prop where
  ok : PO X e (tO Γ W f)
section
variable {X : Cx} {Γ : G} {W : WX}
theorem fo_none : FO X Γ W none none := ⟨po_none⟩
theorem fo_some {e : Expr} {f : ME} (h : FE X Γ W e f) : FO X Γ W (some e) (some f) := ⟨po_some h.ok⟩
def rSlAll (K : PySem.W.Frag) : V → Option Int → Option Int → Hp → VK → Prop := fun x lo hi H Q => rSlL K x lo hi H Q ∨ rSlA K x lo hi H Q ∨ rSlS x lo hi H Q
theorem sl_all (hX : CxG X Γ) : SlR X (rSlAll Γ.K) := by
  rw [← hX.k]
  exact sl_list.or (sl_tupA.or sl_str)
theorem Dens.cut {μ : List Addr} {H : Hp} {vs : List V} {ds : List D} (k : Dens Γ μ H vs ds) (lo hi : Option Int) : Dens Γ μ H (cutV vs lo hi) (cutD ds lo hi) := by
  unfold cutV cutD
  rw [k.length]
  exact (k.drop _).take _
theorem oSl_ok {σ : L2.St} {H : Hp} {μ : List Addr} {h : List MO} {Q : VK} {x : V} {a : D} {lo hi : Option Int} (r : Rel Γ H μ h) (da : Den Γ μ H x a) (q : Good Γ W σ H μ (denE Γ) Q (oSl a lo hi h)) : rSlAll Γ.K x lo hi H (fz Q) := by
  unfold oSl at q
  split at q
  · split at q
    · rename_i l hl
      cases da
      refine .inr (.inr ⟨_, rfl, by rw [S_len, line_eq]; exact hl, .inl (good_pure q r ?_)⟩)
      show V.str (cutS (S l) lo hi) = V.str (S (cutD l lo hi))
      unfold cutS cutD
      simp [Str.length]
    · exact False.elim q
  · rename_i ds
    obtain ⟨p, vs, rfl, tp, dv⟩ := da
    refine .inr (.inl ⟨p, vs, rfl, tp.sq, fun e => ?_, fun _ p hp => .inl (good_tup q r (dv.cut lo hi) p hp)⟩)
    have e2 : cutD ds lo hi = ds := by
      unfold cutD
      rw [← dv.length, e.1, e.2, List.drop_zero, Nat.sub_zero, dv.length, List.take_length]
    rw [e2] at q
    exact .inl (good_pure q r ⟨p, vs, rfl, tp, dv⟩)
  · split at q
    · rename_i ds e
      obtain ⟨p, vs, rfl, sq, dv⟩ := getL_ok r da e
      exact .inl ⟨p, vs, rfl, sq, good_lst q r (dv.cut lo hi)⟩
    · exact False.elim q
theorem part_ok {σ : L2.St} {H : Hp} {μ : List Addr} {ρ : Rho} {h : List MO} {f : Option ME} {R : Option Int → Hp → Prop} {α β : Type} {den : Hp → List Addr → β → α → Prop} {Q : β → Hp → Prop} {k : Option Int → List MO → Res α} (he : EnvOk Γ μ H σ ρ) (hr : Rel Γ H μ h)
    (q : Good Γ W σ H μ den Q ((xPart f ρ h).bind k))
    (next : ∀ o h1 H1 μ1, Ext H μ H1 μ1 → Rel Γ H1 μ1 h1 → Good Γ W σ H1 μ1 den Q (k o h1) → R o H1) : tO Γ W f σ H R := by
  cases f with
  | none => exact next none h H μ (Ext.refl _ _) hr q
  | some f =>
    have q' : Good Γ W σ H μ den Q ((f ρ h).bind fun y h2 => (match y with | .int i => Res.ok (some i) h2 | _ => .stuck).bind k) := by
      have e : (xPart (some f) ρ h).bind k = (f ρ h).bind fun y h2 => (match y with | .int i => Res.ok (some i) h2 | _ => .stuck).bind k := by
        exact Res.bind_assoc _ _ _
      rw [← e]; exact q
    refine ⟨ρ, h, μ, he, hr, Good.bind q' fun a h1 x H1 μ1 _ e1 r1 d1 q1 => ?_⟩
    cases a with
    | int i => exact ⟨i, d1, next (some i) h1 H1 μ1 e1 r1 q1⟩
    | _ => exact False.elim q1
theorem fe_slice {a : Expr} {lo hi : Option Expr} {fa : ME} {fl fu : Option ME} {p2 pos : Pos} (hX : CxG X Γ) (ha : FE X Γ W a fa) (hl : FO X Γ W lo fl) (hu : FO X Γ W hi fu) : FE X Γ W (.Subscript a (.Slice lo hi none p2) pos) (xSl fa fl fu) := by
  refine ⟨(pe_slice (sl_all hX) ha.ok hl.ok hu.ok).fz.imp fun σ H Q q => ?_⟩
  obtain ⟨ρ, h, μ, he, hr, q⟩ := q
  refine ⟨ρ, h, μ, he, hr, Good.bind q fun a h1 x H1 μ1 _ e1 r1 d1 q1 => ?_⟩
  refine part_ok (he.mono e1) r1 q1 fun l h2 H2 μ2 e2 r2 q2 => ?_
  refine part_ok ((he.mono e1).mono e2) r2 q2 fun u h3 H3 μ3 e3 r3 q3 => ?_
  exact oSl_ok r3 ((d1.mono e2).mono e3) q3

/-! ### tests -/
/-- a comparison or another value that is a bool, as a test -/
def xTest (f : ME) : MT := fun ρ h => (f ρ h).bind fun d h1 => match d with
  | .bl b => .ok b h1
  | _ => .stuck
theorem test_run {f : ME} {σ : L2.St} {H : Hp} {Q : Bool → Hp → Prop} (q : tT Γ W (xTest f) σ H Q) : tE Γ W f σ H fun x H' => ∃ k, x = .bl k ∧ Q k H' := by
  obtain ⟨ρ, h, μ, he, hr, q⟩ := q
  refine ⟨ρ, h, μ, he, hr, Good.bind q fun a h1 x H1 μ1 _ e1 r1 d1 q1 => ?_⟩
  cases a with
  | bl b => exact ⟨b, d1, q1 b H1 μ1 (Ext.refl _ _) r1 rfl⟩
  | _ => exact False.elim q1
theorem ft_val {e : Expr} {f : ME} (h : FE X Γ W e f) (he : ∀ whole, isTrue e X.env whole = (do let v ← whole; standAt e.pos; holding [v] (truthy v)) := by intro _; rfl) : FT X Γ W e (xTest f) :=
  ⟨(pt_val h.ok he).imp fun σ H Q q => test_run q⟩
theorem ft_cmp {op : CmpOp} {a b : Expr} {fa fb : ME} {pos : Pos} {r : R2} {g : D → D → List MO → Res D} (ho : OpR X (compareOp op) r) (hg : Op2 Γ r g) (ha : FE X Γ W a fa) (hb : FE X Γ W b fb) (hm : behindInMarks op b = false) : FT X Γ W (.Compare a [op] [b] pos) (xTest (xOp2 g fa fb)) := by
  refine ⟨(pt_cmpR ho ha.ok hb.ok hm).imp fun σ H Q q => ?_⟩
  obtain ⟨ρ, h, μ, he, hr, q⟩ := q
  exact op2_run hg (test_run ⟨ρ, h, μ, he, hr, q⟩)
/-- a value of any kind, as a test -/
def truD (h : List MO) : D → Option Bool
  | .non => some false
  | .bl b => some b
  | .int i => some (i != 0)
  | .str l => if l.length ≤ LINE then some (!l.isEmpty) else none
  | .tup ds => some (!ds.isEmpty)
  | d => (getL h d).map fun ds => !ds.isEmpty
def xTru (f : ME) : MT := fun ρ h => (f ρ h).bind fun d h1 => match truD h1 d with
  | some b => .ok b h1
  | none => .stuck
theorem dens_empty {μ : List Addr} {H : Hp} {vs : List V} {ds : List D} (k : Dens Γ μ H vs ds) : (!vs.isEmpty) = !ds.isEmpty := by
  have := k.length
  cases vs <;> cases ds <;> simp_all
theorem tru_of {H : Hp} {μ : List Addr} {h : List MO} {x : V} {d : D} {b : Bool} (r : Rel Γ H μ h) (k : Den Γ μ H x d) (e : truD h d = some b) : TruV Γ.K x H b := by
  have lists : ∀ ds, getL h d = some ds → b = (!ds.isEmpty) → TruV Γ.K x H b := fun ds e1 e2 => by
    obtain ⟨a, vs, rfl, sq, dv⟩ := getL_ok r k e1
    exact .inl ⟨vs, sq, by rw [e2, dens_empty dv]⟩
  cases d with
  | non => cases k; cases e; rfl
  | bl _ => cases k; cases e; rfl
  | int _ => cases k; cases e; rfl
  | str l =>
    cases k
    have e : (if l.length ≤ LINE then some (!l.isEmpty) else none) = some b := e
    split at e
    · rename_i hl
      cases e
      refine ⟨by rw [S_len, line_eq]; exact hl, ?_⟩
      rw [S_len]
      cases l with
      | nil => rfl
      | cons a l =>
        show true = _
        rw [List.length_cons]
        symm
        rw [bne_iff_ne]
        omega
    · cases e
  | tup ds =>
    obtain ⟨a, vs, rfl, tp, dv⟩ := k
    cases e
    exact .inr (.inl ⟨vs, tp.sq, (dens_empty dv).symm⟩)
  | lst ds => exact lists ds rfl (by cases e; rfl)
  | ref i =>
    have e' : (getL h (.ref i)).map (fun ds => !ds.isEmpty) = some b := e
    cases q : getL h (.ref i) with
    | none => rw [q] at e'; cases e'
    | some ds => rw [q] at e'; cases e'; exact lists ds q rfl
  | glo _ => cases e
  | clo _ _ => cases e
theorem ft_tru {e : Expr} {f : ME} (hX : CxG X Γ) (h : FE X Γ W e f) (he : ∀ whole, isTrue e X.env whole = (do let v ← whole; standAt e.pos; holding [v] (truthy v)) := by intro _; rfl) : FT X Γ W e (xTru f) := by
  refine ⟨(pt_truth h.ok he).imp fun σ H Q q => ?_⟩
  obtain ⟨ρ, h, μ, he, hr, q⟩ := q
  refine ⟨ρ, h, μ, he, hr, Good.bind q fun a h1 x H1 μ1 _ e1 r1 d1 q1 => ?_⟩
  split at q1
  · rename_i b eb
    refine ⟨b, ?_, q1 b H1 μ1 (Ext.refl _ _) r1 rfl⟩
    rw [hX.k]
    exact tru_of r1 d1 eb
  · exact False.elim q1
def xAnd (a b : MT) : MT := fun ρ h => (a ρ h).bind fun c h1 => if c then b ρ h1 else .ok false h1
def xOr (a b : MT) : MT := fun ρ h => (a ρ h).bind fun c h1 => if c then .ok true h1 else b ρ h1
def xNot (a : MT) : MT := fun ρ h => (a ρ h).bind fun c h1 => .ok (!c) h1
structure FW (X : Cx) (Γ : G) (W : WX) (e : Expr) (f : MT) : Prop where
  ok : PW X e (tT Γ W f)
theorem ft_w {e : Expr} {f : MT} (h : FW X Γ W e f) : FT X Γ W e f := ⟨h.ok.pt⟩
theorem fw_and1 {a : Expr} {fa : MT} {pos : Pos} (ha : FT X Γ W a fa) : FW X Γ W (.BoolOp .And [a] pos) fa := ⟨pw_and1 ha.ok⟩
theorem fw_or1 {a : Expr} {fa : MT} {pos : Pos} (ha : FT X Γ W a fa) : FW X Γ W (.BoolOp .Or [a] pos) fa := ⟨pw_or1 ha.ok⟩
theorem fw_and {a b : Expr} {rest : List Expr} {fa fb : MT} {pos : Pos} (ha : FT X Γ W a fa) (hb : FW X Γ W (.BoolOp .And (b :: rest) pos) fb) : FW X Γ W (.BoolOp .And (a :: b :: rest) pos) (xAnd fa fb) := by
  refine ⟨(pw_and ha.ok hb.ok).imp fun σ H Q q => ?_⟩
  obtain ⟨ρ, h, μ, he, hr, q⟩ := q
  refine ⟨ρ, h, μ, he, hr, Good.bind q fun a h1 x H1 μ1 _ e1 r1 d1 q1 => ?_⟩
  cases (show x = a from d1)
  cases a with
  | true => exact ⟨ρ, h1, μ1, he.mono e1, r1, q1⟩
  | false => exact q1 false H1 μ1 (Ext.refl _ _) r1 rfl
theorem fw_or {a b : Expr} {rest : List Expr} {fa fb : MT} {pos : Pos} (ha : FT X Γ W a fa) (hb : FW X Γ W (.BoolOp .Or (b :: rest) pos) fb) : FW X Γ W (.BoolOp .Or (a :: b :: rest) pos) (xOr fa fb) := by
  refine ⟨(pw_or ha.ok hb.ok).imp fun σ H Q q => ?_⟩
  obtain ⟨ρ, h, μ, he, hr, q⟩ := q
  refine ⟨ρ, h, μ, he, hr, Good.bind q fun a h1 x H1 μ1 _ e1 r1 d1 q1 => ?_⟩
  cases (show x = a from d1)
  cases a with
  | false => exact ⟨ρ, h1, μ1, he.mono e1, r1, q1⟩
  | true => exact q1 true H1 μ1 (Ext.refl _ _) r1 rfl
theorem ft_not {a : Expr} {fa : MT} {pos : Pos} (ha : FT X Γ W a fa) : FT X Γ W (.UnaryOp .Not a pos) (xNot fa) := by
  refine ⟨(pt_not ha.ok).imp fun σ H Q q => ?_⟩
  obtain ⟨ρ, h, μ, he, hr, q⟩ := q
  refine ⟨ρ, h, μ, he, hr, Good.bind q fun a h1 x H1 μ1 _ e1 r1 d1 q1 => ?_⟩
  cases (show x = a from d1)
  exact q1 _ H1 μ1 (Ext.refl _ _) r1 rfl
def xIf (c : MT) (a b : ME) : ME := fun ρ h => (c ρ h).bind fun t h1 => if t then a ρ h1 else b ρ h1
theorem fe_if {c a b : Expr} {fc : MT} {fa fb : ME} {pos : Pos} (hc : FT X Γ W c fc) (ha : FE X Γ W a fa) (hb : FE X Γ W b fb) : FE X Γ W (.IfExp c a b pos) (xIf fc fa fb) := by
  refine ⟨(pe_ifExp hc.ok ha.ok hb.ok).imp fun σ H Q q => ?_⟩
  obtain ⟨ρ, h, μ, he, hr, q⟩ := q
  refine ⟨ρ, h, μ, he, hr, Good.bind q fun a h1 x H1 μ1 _ e1 r1 d1 q1 => ?_⟩
  cases (show x = a from d1)
  cases a with
  | true => exact ⟨ρ, h1, μ1, he.mono e1, r1, q1⟩
  | false => exact ⟨ρ, h1, μ1, he.mono e1, r1, q1⟩
/-- and, or, not as values: bools -/
def xAndV (a b : ME) : ME := fun ρ h => (a ρ h).bind fun d h1 => match d with
  | .bl true => b ρ h1
  | .bl false => .ok (.bl false) h1
  | _ => .stuck
def xOrV (a b : ME) : ME := fun ρ h => (a ρ h).bind fun d h1 => match d with
  | .bl true => .ok (.bl true) h1
  | .bl false => b ρ h1
  | _ => .stuck
def xNotV (a : ME) : ME := fun ρ h => (a ρ h).bind fun d h1 => match d with
  | .bl b => .ok (.bl (!b)) h1
  | _ => .stuck
theorem fe_one {op} {a : Expr} {fa : ME} {pos : Pos} (ha : FE X Γ W a fa) : FE X Γ W (.BoolOp op [a] pos) fa := ⟨pe_one ha.ok⟩
theorem fe_and {a b : Expr} {rest : List Expr} {fa fb : ME} {pos : Pos} (ha : FE X Γ W a fa) (hb : FE X Γ W (.BoolOp .And (b :: rest) pos) fb) : FE X Γ W (.BoolOp .And (a :: b :: rest) pos) (xAndV fa fb) := by
  refine ⟨(pe_and ha.ok hb.ok).imp fun σ H Q q => ?_⟩
  obtain ⟨ρ, h, μ, he, hr, q⟩ := q
  refine ⟨ρ, h, μ, he, hr, Good.bind q fun a h1 x H1 μ1 _ e1 r1 d1 q1 => ?_⟩
  split at q1
  · exact ⟨true, d1, ⟨ρ, h1, μ1, he.mono e1, r1, q1⟩⟩
  · exact ⟨false, d1, q1 _ H1 μ1 (Ext.refl _ _) r1 rfl⟩
  · exact False.elim q1
theorem fe_or {a b : Expr} {rest : List Expr} {fa fb : ME} {pos : Pos} (ha : FE X Γ W a fa) (hb : FE X Γ W (.BoolOp .Or (b :: rest) pos) fb) : FE X Γ W (.BoolOp .Or (a :: b :: rest) pos) (xOrV fa fb) := by
  refine ⟨(pe_or ha.ok hb.ok).imp fun σ H Q q => ?_⟩
  obtain ⟨ρ, h, μ, he, hr, q⟩ := q
  refine ⟨ρ, h, μ, he, hr, Good.bind q fun a h1 x H1 μ1 _ e1 r1 d1 q1 => ?_⟩
  split at q1
  · exact ⟨true, d1, q1 _ H1 μ1 (Ext.refl _ _) r1 rfl⟩
  · exact ⟨false, d1, ⟨ρ, h1, μ1, he.mono e1, r1, q1⟩⟩
  · exact False.elim q1
theorem fe_not {a : Expr} {fa : ME} {pos : Pos} (ha : FE X Γ W a fa) : FE X Γ W (.UnaryOp .Not a pos) (xNotV fa) := by
  refine ⟨(pe_not ha.ok).imp fun σ H Q q => ?_⟩
  obtain ⟨ρ, h, μ, he, hr, q⟩ := q
  refine ⟨ρ, h, μ, he, hr, Good.bind q fun a h1 x H1 μ1 _ e1 r1 d1 q1 => ?_⟩
  split at q1
  · exact ⟨_, d1, q1 _ H1 μ1 (Ext.refl _ _) r1 rfl⟩
  · exact False.elim q1

/-! ### a chain -/
def xChain (g g' : D → D → List MO → Res D) (fa fb fc : ME) : ME := fun ρ h => (fa ρ h).bind fun x h1 => (fb ρ h1).bind fun y h2 => (g x y h2).bind fun z h3 => match z with
  | .bl true => (fc ρ h3).bind fun w h4 => g' y w h4
  | .bl false => .ok (.bl false) h3
  | _ => .stuck
theorem chain_run {g g' : D → D → List MO → Res D} {fa fb fc : ME} {r r' : R2} (hg : Op2 Γ r g) (hg' : Op2 Γ r' g') {σ : L2.St} {H : Hp} {Q : VK} (q : tE Γ W (xChain g g' fa fb fc) σ H Q) : tChain r r' (tE Γ W fa) (tE Γ W fb) (tE Γ W fc) σ H Q := by
  obtain ⟨ρ, h, μ, he, hr, q⟩ := q
  refine ⟨ρ, h, μ, he, hr, Good.bind q fun a h1 x H1 μ1 _ e1 r1 d1 q1 => ?_⟩
  refine ⟨ρ, h1, μ1, he.mono e1, r1, Good.bind q1 fun b h2 y H2 μ2 _ e2 r2 d2 q2 => ?_⟩
  refine hg W σ H2 μ2 h2 x y a b _ r2 (d1.mono e2) d2 (Good.bind q2 fun z h3 zv H3 μ3 _ e3 r3 d3 q3 => ?_)
  split at q3
  · refine ⟨true, d3, ?_⟩
    rw [if_pos rfl]
    refine ⟨ρ, h3, μ3, ((he.mono e1).mono e2).mono e3, r3, Good.bind q3 fun c h4 w' H4 μ4 _ e4 r4 d4 q4 => ?_⟩
    exact hg' W σ H4 μ4 h4 y w' b c Q r4 ((d2.mono e3).mono e4) d4 q4
  · refine ⟨false, d3, ?_⟩
    rw [if_neg Bool.false_ne_true]
    exact q3 _ H3 μ3 (Ext.refl _ _) r3 rfl
  · exact False.elim q3
theorem fe_chain {op op' : CmpOp} {a b c : Expr} {fa fb fc : ME} {pos : Pos} {r r' : R2} {g g' : D → D → List MO → Res D} (ho : OpR X (compareOp op) r) (ho' : OpR X (compareOp op') r') (hg : Op2 Γ r g) (hg' : Op2 Γ r' g')
    (ha : FE X Γ W a fa) (hb : FE X Γ W b fb) (hc : FE X Γ W c fc) (hm : lastMarks [op, op'] [b, c] = false := by with_unfolding_all rfl) : FE X Γ W (.Compare a [op, op'] [b, c] pos) (xChain g g' fa fb fc) :=
  ⟨(pe_chain ho ho' ha.ok hb.ok hc.ok hm).imp fun _ _ _ q => chain_run hg hg' q⟩
theorem ft_chain {op op' : CmpOp} {a b c : Expr} {fa fb fc : ME} {pos : Pos} {r r' : R2} {g g' : D → D → List MO → Res D} (ho : OpR X (compareOp op) r) (ho' : OpR X (compareOp op') r') (hg : Op2 Γ r g) (hg' : Op2 Γ r' g')
    (ha : FE X Γ W a fa) (hb : FE X Γ W b fb) (hc : FE X Γ W c fc) (hm : lastMarks [op, op'] [b, c] = false := by with_unfolding_all rfl) : FT X Γ W (.Compare a [op, op'] [b, c] pos) (xTest (xChain g g' fa fb fc)) :=
  ⟨(pt_chain ho ho' ha.ok hb.ok hc.ok hm).imp fun σ H Q q => by
    have q' := test_run q
    exact chain_run hg hg' q'⟩

/-! ### argument lists, displays -/
def aNil : MA := fun _ h => .ok [] h
def aCons (f : ME) (g : MA) : MA := fun ρ h => (f ρ h).bind fun d h1 => (g ρ h1).bind fun ds h2 => .ok (d :: ds) h2
theorem fa_nil : FA X Γ W [] aNil := by
  refine ⟨pa_nil.imp fun σ H Q q => ?_⟩
  obtain ⟨ρ, h, μ, he, hr, q⟩ := q
  exact q [] H μ (Ext.refl _ _) hr rfl
theorem fa_cons {e : Expr} {es : List Expr} {f : ME} {g : MA} (he : FE X Γ W e f) (hg : FA X Γ W es g) (hs : starEach (e :: es) X.env = (false, eval e X.env) :: starEach es X.env := by rfl) : FA X Γ W (e :: es) (aCons f g) := by
  refine ⟨(pa_cons he.ok hg.ok hs).imp fun σ H Q q => ?_⟩
  obtain ⟨ρ, h, μ, he, hr, q⟩ := q
  refine ⟨ρ, h, μ, he, hr, Good.bind q fun a h1 x H1 μ1 _ e1 r1 d1 q1 => ?_⟩
  refine ⟨ρ, h1, μ1, he.mono e1, r1, Good.bind q1 fun b h2 y H2 μ2 _ e2 r2 d2 q2 => ?_⟩
  exact q2 (x :: y) H2 μ2 (Ext.refl _ _) r2 ⟨x, y, rfl, d1.mono e2, d2⟩
def xTup (f : MA) : ME := fun ρ h => (f ρ h).bind fun ds h1 => if ds.length ≤ LINE then .ok (.tup ds) h1 else .stuck
def xLst (f : MA) : ME := fun ρ h => (f ρ h).bind fun ds h1 => if ds.length ≤ LINE then .ok (.lst ds) h1 else .stuck
/-- a list that will change -/
def xNew (f : MA) : ME := fun ρ h => (f ρ h).bind fun ds h1 => if ds.length ≤ LINE then .ok (.ref h1.length) (h1 ++ [.lst ds]) else .stuck
theorem fe_tup {es : List Expr} {f : MA} {x1} {pos : Pos} (h : FA X Γ W es f) : FE X Γ W (.Tuple es x1 pos) (xTup f) := by
  refine ⟨(pe_tup h.ok).imp fun σ H Q q => ?_⟩
  obtain ⟨ρ, h, μ, he, hr, q⟩ := q
  refine ⟨ρ, h, μ, he, hr, Good.bind q fun a h1 x H1 μ1 _ e1 r1 d1 q1 => ?_⟩
  split at q1
  · rename_i hl
    exact ⟨by rw [line_eq, d1.length]; exact hl, good_tup q1 r1 d1⟩
  · exact False.elim q1
theorem fe_lst {es : List Expr} {f : MA} {pos : Pos} (h : FA X Γ W es f) : FE X Γ W (.List es pos) (xLst f) := by
  refine ⟨(pe_lst h.ok).fz.imp fun σ H Q q => ?_⟩
  obtain ⟨ρ, h, μ, he, hr, q⟩ := q
  refine ⟨ρ, h, μ, he, hr, Good.bind q fun a h1 x H1 μ1 _ e1 r1 d1 q1 => ?_⟩
  split at q1
  · rename_i hl
    exact ⟨by rw [line_eq, d1.length]; exact hl, good_lst q1 r1 d1⟩
  · exact False.elim q1
theorem fe_new {es : List Expr} {f : MA} {pos : Pos} (h : FA X Γ W es f) : FE X Γ W (.List es pos) (xNew f) := by
  refine ⟨(pe_lst h.ok).imp fun σ H Q q => ?_⟩
  obtain ⟨ρ, h, μ, he, hr, q⟩ := q
  refine ⟨ρ, h, μ, he, hr, Good.bind q fun a h1 x H1 μ1 _ e1 r1 d1 q1 => ?_⟩
  split at q1
  · rename_i hl
    exact ⟨by rw [line_eq, d1.length]; exact hl, good_new q1 r1 d1⟩
  · exact False.elim q1
end
end MP
end
section
set_option Elab.async false
set_option linter.all false
set_option maxRecDepth 100000
set_option maxHeartbeats 1000000
/-! M6: calls of built-ins, methods. -/
namespace MP
open PySem PySem.Spec PyProof.Rows L2

def xCB (g : List D → List MO → Res D) (fa : MA) : ME := fun ρ h => (fa ρ h).bind fun ds h1 => g ds h1
def OpC (Γ : G) (r : List V → Hp → VK → Prop) (g : List D → List MO → Res D) : Prop := ∀ (W : WX) (σ : L2.St) (H : Hp) (μ : List Addr) (h : List MO) (xs : List V) (ds : List D) (Q : VK), Rel Γ H μ h → Dens Γ μ H xs ds → Good Γ W σ H μ (denE Γ) Q (g ds h) → r xs H Q
section
variable {X : Cx} {Γ : G} {W : WX}
theorem cb_run {g : List D → List MO → Res D} {fa : MA} {r : List V → Hp → VK → Prop} (hg : OpC Γ r g) {σ : L2.St} {H : Hp} {Q : VK} (q : tE Γ W (xCB g fa) σ H Q) : tCB r (tA Γ W fa) σ H Q := by
  obtain ⟨ρ, h, μ, he, hr, q⟩ := q
  refine ⟨ρ, h, μ, he, hr, Good.bind q fun a h1 x H1 μ1 _ e1 r1 d1 q1 => ?_⟩
  exact hg W σ H1 μ1 h1 x a Q r1 d1 q1
theorem fe_callB {x : Str} {id : String} {e : Expr} {es : List Expr} {p pos : Pos} {r : List V → Hp → VK → Prop} {g : List D → List MO → Res D} {fa : MA} (hc : CallR X (.builtin id) r) (hgo : OpC Γ r g) (hg : Gl X x) (hm : X.mg x = none) (hv : bootBuiltins x = some (.builtin id)) (ha : FA X Γ W (e :: es) fa)
    (hn : x ≠ "__name__" := by decide) (hdb : (x == ("__debug__" : Str)) = false := by decide)
    (he : starEach (e :: es) X.env = (false, eval e X.env) :: starEach es X.env := by rfl) (hpl : (backTo pos (starEach es X.env)).any (·.1) = false := by rfl) : FE X Γ W (.Call (.Name x p) (e :: es) [] pos) (xCB g fa) :=
  ⟨(pe_callB hc hg hm hv ha.ok hn hdb he hpl).imp fun _ _ _ q => cb_run hgo q⟩
theorem fe_callT {x : Str} {id : String} {e : Expr} {es : List Expr} {p pos : Pos} {r : List V → Hp → VK → Prop} {g : List D → List MO → Res D} {fa : MA} (hc : CallR X (.type id) r) (hgo : OpC Γ r g) (hg : Gl X x) (hm : X.mg x = none) (hv : bootBuiltins x = some (.type id)) (ha : FA X Γ W (e :: es) fa)
    (hn : x ≠ "__name__" := by decide) (hdb : (x == ("__debug__" : Str)) = false := by decide)
    (he : starEach (e :: es) X.env = (false, eval e X.env) :: starEach es X.env := by rfl) (hpl : (backTo pos (starEach es X.env)).any (·.1) = false := by rfl) : FE X Γ W (.Call (.Name x p) (e :: es) [] pos) (xCB g fa) :=
  ⟨(pe_callTy hc hg hm hv ha.ok hn hdb he hpl).imp fun _ _ _ q => cb_run hgo q⟩
theorem fe_callTz {x : Str} {id : String} {e : Expr} {es : List Expr} {p pos : Pos} {r : List V → Hp → VK → Prop} {g : List D → List MO → Res D} {fa : MA} (hc : CallR X (.type id) r) (hgo : OpC Γ (fun xs H Q => r xs H (fz Q)) g) (hg : Gl X x) (hm : X.mg x = none) (hv : bootBuiltins x = some (.type id)) (ha : FA X Γ W (e :: es) fa)
    (hn : x ≠ "__name__" := by decide) (hdb : (x == ("__debug__" : Str)) = false := by decide)
    (he : starEach (e :: es) X.env = (false, eval e X.env) :: starEach es X.env := by rfl) (hpl : (backTo pos (starEach es X.env)).any (·.1) = false := by rfl) : FE X Γ W (.Call (.Name x p) (e :: es) [] pos) (xCB g fa) :=
  ⟨(pe_callTy hc hg hm hv ha.ok hn hdb he hpl).fz.imp fun _ _ _ q => cb_run (r := fun xs H Q => r xs H (fz Q)) hgo q⟩
end
theorem dens1 {Γ : G} {μ : List Addr} {H : Hp} {xs : List V} {d : D} (k : Dens Γ μ H xs [d]) : ∃ v, xs = [v] ∧ Den Γ μ H v d := by
  obtain ⟨v, r, rfl, k1, k2⟩ := k
  rw [show r = [] from k2]
  exact ⟨v, rfl, k1⟩
theorem dens2 {Γ : G} {μ : List Addr} {H : Hp} {xs : List V} {d e : D} (k : Dens Γ μ H xs [d, e]) : ∃ v w, xs = [v, w] ∧ Den Γ μ H v d ∧ Den Γ μ H w e := by
  obtain ⟨v, r, rfl, k1, k2⟩ := k
  obtain ⟨w, rfl, k3⟩ := dens1 k2
  exact ⟨v, w, rfl, k1, k3⟩
/-- the intsD of a list -/
def intsD : List D → Option (List Int)
  | [] => some []
  | .int i :: ds => (intsD ds).map (i :: ·)
  | _ :: _ => none
def blsD : List D → Option (List Bool)
  | [] => some []
  | .bl i :: ds => (blsD ds).map (i :: ·)
  | _ :: _ => none
def strsD : List D → Option (List (List Nat))
  | [] => some []
  | .str i :: ds => (strsD ds).map (i :: ·)
  | _ :: _ => none
theorem ints_ok {Γ : G} {μ : List Addr} {H : Hp} : ∀ {ds : List D} {vs : List V} {ns : List Int}, Dens Γ μ H vs ds → intsD ds = some ns → vs = ns.map V.int
  | [], _, _, k, e => by cases e; exact k
  | d :: ds, _, ns, k, e => by
    obtain ⟨v, r, rfl, k1, k2⟩ := k
    cases d with
    | int i =>
      have e' : (intsD ds).map (i :: ·) = some ns := e
      cases q : intsD ds with
      | none => rw [q] at e'; cases e'
      | some ms =>
        rw [q] at e'; cases e'
        cases k1
        rw [ints_ok k2 q]; rfl
    | _ => cases e
theorem bls_ok {Γ : G} {μ : List Addr} {H : Hp} : ∀ {ds : List D} {vs : List V} {ns : List Bool}, Dens Γ μ H vs ds → blsD ds = some ns → vs = ns.map V.bl
  | [], _, _, k, e => by cases e; exact k
  | d :: ds, _, ns, k, e => by
    obtain ⟨v, r, rfl, k1, k2⟩ := k
    cases d with
    | bl i =>
      have e' : (blsD ds).map (i :: ·) = some ns := e
      cases q : blsD ds with
      | none => rw [q] at e'; cases e'
      | some ms =>
        rw [q] at e'; cases e'
        cases k1
        rw [bls_ok k2 q]; rfl
    | _ => cases e
theorem strs_ok {Γ : G} {μ : List Addr} {H : Hp} : ∀ {ds : List D} {vs : List V} {ns : List (List Nat)}, Dens Γ μ H vs ds → strsD ds = some ns → vs = (ns.map S).map V.str
  | [], _, _, k, e => by cases e; exact k
  | d :: ds, _, ns, k, e => by
    obtain ⟨v, r, rfl, k1, k2⟩ := k
    cases d with
    | str i =>
      have e' : (strsD ds).map (i :: ·) = some ns := e
      cases q : strsD ds with
      | none => rw [q] at e'; cases e'
      | some ms =>
        rw [q] at e'; cases e'
        cases k1
        rw [strs_ok k2 q]; rfl
    | _ => cases e
/-- the greatest, the least of some -/
def maxI : List Int → Int
  | [] => 0
  | [a] => a
  | a :: r => max a (maxI r)
def minI : List Int → Int
  | [] => 0
  | [a] => a
  | a :: r => min a (minI r)
theorem maxI_ok : ∀ {ns : List Int}, ns ≠ [] → maxI ns ∈ ns ∧ ∀ y ∈ ns, y ≤ maxI ns
  | [], h => absurd rfl h
  | [a], _ => by simp [maxI]
  | a :: b :: r, _ => by
    obtain ⟨h1, h2⟩ := maxI_ok (ns := b :: r) (List.cons_ne_nil _ _)
    have e : maxI (a :: b :: r) = max a (maxI (b :: r)) := rfl
    rw [e]
    refine ⟨?_, fun y hy => ?_⟩
    · by_cases c : a ≤ maxI (b :: r)
      · rw [Int.max_eq_right c]; exact List.mem_cons_of_mem _ h1
      · rw [Int.max_eq_left (by omega)]; exact List.mem_cons_self
    · rcases List.mem_cons.mp hy with rfl | hy
      · exact Int.le_max_left _ _
      · exact Int.le_trans (h2 y hy) (Int.le_max_right _ _)
theorem minI_ok : ∀ {ns : List Int}, ns ≠ [] → minI ns ∈ ns ∧ ∀ y ∈ ns, minI ns ≤ y
  | [], h => absurd rfl h
  | [a], _ => by simp [minI]
  | a :: b :: r, _ => by
    obtain ⟨h1, h2⟩ := minI_ok (ns := b :: r) (List.cons_ne_nil _ _)
    have e : minI (a :: b :: r) = min a (minI (b :: r)) := rfl
    rw [e]
    refine ⟨?_, fun y hy => ?_⟩
    · by_cases c : a ≤ minI (b :: r)
      · rw [Int.min_eq_left c]; exact List.mem_cons_self
      · rw [Int.min_eq_right (by omega)]; exact List.mem_cons_of_mem _ h1
    · rcases List.mem_cons.mp hy with rfl | hy
      · exact Int.min_le_left _ _
      · exact Int.le_trans (Int.min_le_right _ _) (h2 y hy)
def oLen : List D → List MO → Res D
  | [.str l], h => if l.length ≤ LINE then .ok (.int l.length) h else .stuck
  | [d], h => match getQ h d with
    | some ds => .ok (.int ds.length) h
    | none => .stuck
  | _, _ => .stuck
def oAbs : List D → List MO → Res D
  | [.int i], h => .ok (.int i.natAbs) h
  | _, _ => .stuck
def oInt : List D → List MO → Res D
  | [.int i], h => .ok (.int i) h
  | [.bl b], h => .ok (.int (if b then 1 else 0)) h
  | _, _ => .stuck
def oTuple : List D → List MO → Res D
  | [.tup ds], h => .ok (.tup ds) h
  | [d], h => match getL h d with
    | some ds => .ok (.tup ds) h
    | none => .stuck
  | _, _ => .stuck
def oList : List D → List MO → Res D
  | [d], h => match getQ h d with
    | some ds => .ok (.lst ds) h
    | none => .stuck
  | _, _ => .stuck
def oListN : List D → List MO → Res D
  | [d], h => match getQ h d with
    | some ds => .ok (.ref h.length) (h ++ [.lst ds])
    | none => .stuck
  | _, _ => .stuck
def oMax : List D → List MO → Res D
  | [.int i, .int j], h => .ok (.int (max i j)) h
  | [d], h => match (getL h d).bind intsD with
    | some (n :: ns) => .ok (.int (maxI (n :: ns))) h
    | _ => .stuck
  | _, _ => .stuck
def oMin : List D → List MO → Res D
  | [.int i, .int j], h => .ok (.int (min i j)) h
  | [d], h => match (getL h d).bind intsD with
    | some (n :: ns) => .ok (.int (minI (n :: ns))) h
    | _ => .stuck
  | _, _ => .stuck
def oSum : List D → List MO → Res D
  | [d], h => match (getL h d).bind intsD with
    | some ns => .ok (.int ns.sum) h
    | none => .stuck
  | _, _ => .stuck
def oAll : List D → List MO → Res D
  | [d], h => match (getL h d).bind blsD with
    | some ns => .ok (.bl (ns.all id)) h
    | none => .stuck
  | _, _ => .stuck
def oAny : List D → List MO → Res D
  | [d], h => match (getL h d).bind blsD with
    | some ns => .ok (.bl (ns.any id)) h
    | none => .stuck
  | _, _ => .stuck
def oStr : List D → List MO → Res D
  | [.int i], h => if i.natAbs.log2 < 1920 then .ok (.str (Str.ofString (toString i)).cps.toList) h else .stuck
  | _, _ => .stuck
section
variable {Γ : G}
theorem o_len {X : Cx} (hX : CxG X Γ) : OpC Γ (fun xs H Q => ∃ x n, xs = [x] ∧ LenV X.K x H n ∧ Q (.int n) H) oLen := by
  intro W σ H μ h xs ds Q r k q
  unfold oLen at q
  split at q
  · split at q
    · rename_i hl
      obtain ⟨v, rfl, k1⟩ := dens1 k
      cases k1
      refine ⟨_, _, rfl, ⟨by rw [S_len, line_eq]; exact hl, rfl⟩, ?_⟩
      rw [S_len]
      exact good_pure q r rfl
    · exact False.elim q
  · split at q
    · rename_i es e
      obtain ⟨v, rfl, k1⟩ := dens1 k
      obtain ⟨a, vs, rfl, sq, dv⟩ := getQ_ok r k1 e
      refine ⟨_, es.length, rfl, ?_, good_pure q r rfl⟩
      rw [hX.k]
      rcases sq with sq | sq
      · exact .inl ⟨vs, sq, dv.length.symm⟩
      · exact .inr ⟨vs, sq, dv.length.symm⟩
    · exact False.elim q
  · exact False.elim q
theorem o_abs : OpC Γ (fun xs H Q => ∃ i, xs = [.int i] ∧ Q (.int (if i < 0 then -i else i)) H) oAbs := by
  intro W σ H μ h xs ds Q r k q
  unfold oAbs at q
  split at q
  · rename_i i
    obtain ⟨v, rfl, k1⟩ := dens1 k
    cases k1
    refine ⟨i, rfl, good_pure q r ?_⟩
    have e : (if i < 0 then -i else i) = (i.natAbs : Int) := by split <;> omega
    rw [e]; rfl
  · exact False.elim q
theorem o_int : OpC Γ (fun xs H Q => (∃ i, xs = [.int i] ∧ Q (.int i) H) ∨ ∃ k, xs = [.bl k] ∧ Q (.int (if k then 1 else 0)) H) oInt := by
  intro W σ H μ h xs ds Q r k q
  unfold oInt at q
  split at q
  · obtain ⟨v, rfl, k1⟩ := dens1 k
    cases k1
    exact .inl ⟨_, rfl, good_pure q r rfl⟩
  · obtain ⟨v, rfl, k1⟩ := dens1 k
    cases k1
    exact .inr ⟨_, rfl, good_pure q r rfl⟩
  · exact False.elim q
theorem o_tuple {X : Cx} (hX : CxG X Γ) : OpC Γ (fun xs H Q => ∃ p ys, xs = [.ref p] ∧ ((SqL X.K H p ys ∧ ∀ l, H l = none → Q (.ref l) (upd H l (.tup ys))) ∨ (SqT X.K H p ys ∧ Q (.ref p) H))) oTuple := by
  rw [hX.k]
  intro W σ H μ h xs ds Q r k q
  unfold oTuple at q
  split at q
  · obtain ⟨v, rfl, k1⟩ := dens1 k
    obtain ⟨a, vs, rfl, tp, dv⟩ := k1
    exact ⟨a, vs, rfl, .inr ⟨tp.sq, good_pure q r ⟨a, vs, rfl, tp, dv⟩⟩⟩
  · split at q
    · rename_i es e
      obtain ⟨v, rfl, k1⟩ := dens1 k
      obtain ⟨a, vs, rfl, sq, dv⟩ := getL_ok r k1 e
      exact ⟨a, vs, rfl, .inl ⟨sq, good_tup q r dv⟩⟩
    · exact False.elim q
  · exact False.elim q
theorem o_list {X : Cx} (hX : CxG X Γ) : OpC Γ (fun xs H Q => ∃ p ys, xs = [.ref p] ∧ (SqL X.K H p ys ∨ SqT X.K H p ys) ∧ ∀ l, H l = none → fz Q (.ref l) (upd H l (.lst ys))) oList := by
  rw [hX.k]
  intro W σ H μ h xs ds Q r k q
  unfold oList at q
  split at q
  · split at q
    · rename_i es e
      obtain ⟨v, rfl, k1⟩ := dens1 k
      obtain ⟨a, vs, rfl, sq, dv⟩ := getQ_ok r k1 e
      exact ⟨a, vs, rfl, sq, good_lst q r dv⟩
    · exact False.elim q
  · exact False.elim q
theorem o_listN {X : Cx} (hX : CxG X Γ) : OpC Γ (fun xs H Q => ∃ p ys, xs = [.ref p] ∧ (SqL X.K H p ys ∨ SqT X.K H p ys) ∧ ∀ l, H l = none → Q (.ref l) (upd H l (.lst ys))) oListN := by
  rw [hX.k]
  intro W σ H μ h xs ds Q r k q
  unfold oListN at q
  split at q
  · split at q
    · rename_i es e
      obtain ⟨v, rfl, k1⟩ := dens1 k
      obtain ⟨a, vs, rfl, sq, dv⟩ := getQ_ok r k1 e
      exact ⟨a, vs, rfl, sq, good_new q r dv⟩
    · exact False.elim q
  · exact False.elim q
def rMaxA (K : PySem.W.Frag) : List V → Hp → VK → Prop := fun xs H Q => (∃ i j, xs = [.int i, .int j] ∧ Q (.int (if j > i then j else i)) H) ∨ rMax K xs H Q
def rMinA (K : PySem.W.Frag) : List V → Hp → VK → Prop := fun xs H Q => (∃ i j, xs = [.int i, .int j] ∧ Q (.int (if j < i then j else i)) H) ∨ rMin K xs H Q
theorem CallR.or' {X : Cx} {f : Value} {r r' : List V → Hp → VK → Prop} (h : CallR X f r) (h' : CallR X f r') : CallR X f (fun xs H Q => r xs H Q ∨ r' xs H Q) := by
  intro pins s σ H xs us Q I r q
  rcases q with q | q
  · exact h pins s σ H xs us Q I r q
  · exact h' pins s σ H xs us Q I r q
theorem c_max {X : Cx} (hX : CxG X Γ) (hc : X.calm = true) : CallR X (.builtin "max") (rMaxA Γ.K) := by
  rw [← hX.k]
  exact CallR.or' (call_max2 hc) (cr_max hc)
theorem c_min {X : Cx} (hX : CxG X Γ) (hc : X.calm = true) : CallR X (.builtin "min") (rMinA Γ.K) := by
  rw [← hX.k]
  exact CallR.or' (call_min2 hc) (cr_min hc)
theorem getI_ok {H : Hp} {μ : List Addr} {h : List MO} {d : D} {v : V} {ns : List Int} (r : Rel Γ H μ h) (k : Den Γ μ H v d) (e : (getL h d).bind intsD = some ns) : ∃ a, v = .ref a ∧ SqL Γ.K H a (ns.map V.int) := by
  cases q : getL h d with
  | none => rw [q] at e; cases e
  | some ds =>
    rw [q] at e
    obtain ⟨a, vs, rfl, sq, dv⟩ := getL_ok r k q
    rw [ints_ok dv e] at sq
    exact ⟨a, rfl, sq⟩
theorem getB_ok {H : Hp} {μ : List Addr} {h : List MO} {d : D} {v : V} {ns : List Bool} (r : Rel Γ H μ h) (k : Den Γ μ H v d) (e : (getL h d).bind blsD = some ns) : ∃ a, v = .ref a ∧ SqL Γ.K H a (ns.map V.bl) := by
  cases q : getL h d with
  | none => rw [q] at e; cases e
  | some ds =>
    rw [q] at e
    obtain ⟨a, vs, rfl, sq, dv⟩ := getL_ok r k q
    rw [bls_ok dv e] at sq
    exact ⟨a, rfl, sq⟩
theorem o_max : OpC Γ (rMaxA Γ.K) oMax := by
  intro W σ H μ h xs ds Q r k q
  unfold oMax at q
  split at q
  · rename_i i j
    obtain ⟨v, w, rfl, k1, k2⟩ := dens2 k
    cases k1; cases k2
    refine .inl ⟨i, j, rfl, good_pure q r ?_⟩
    have e : (if j > i then j else i) = max i j := by split <;> omega
    rw [e]; rfl
  · split at q
    · rename_i n ns e
      obtain ⟨v, rfl, k1⟩ := dens1 k
      obtain ⟨a, rfl, sq⟩ := getI_ok r k1 e
      refine .inr ⟨a, n :: ns, rfl, sq, Nat.succ_pos _, fun m h1 h2 => good_pure q r ?_⟩
      obtain ⟨h3, h4⟩ := maxI_ok (ns := n :: ns) (List.cons_ne_nil _ _)
      have e : m = maxI (n :: ns) := Int.le_antisymm (h4 m h1) (h2 _ h3)
      rw [e]; rfl
    · exact False.elim q
  · exact False.elim q
theorem o_min : OpC Γ (rMinA Γ.K) oMin := by
  intro W σ H μ h xs ds Q r k q
  unfold oMin at q
  split at q
  · rename_i i j
    obtain ⟨v, w, rfl, k1, k2⟩ := dens2 k
    cases k1; cases k2
    refine .inl ⟨i, j, rfl, good_pure q r ?_⟩
    have e : (if j < i then j else i) = min i j := by split <;> omega
    rw [e]; rfl
  · split at q
    · rename_i n ns e
      obtain ⟨v, rfl, k1⟩ := dens1 k
      obtain ⟨a, rfl, sq⟩ := getI_ok r k1 e
      refine .inr ⟨a, n :: ns, rfl, sq, Nat.succ_pos _, fun m h1 h2 => good_pure q r ?_⟩
      obtain ⟨h3, h4⟩ := minI_ok (ns := n :: ns) (List.cons_ne_nil _ _)
      have e : m = minI (n :: ns) := Int.le_antisymm (h2 _ h3) (h4 m h1)
      rw [e]; rfl
    · exact False.elim q
  · exact False.elim q
theorem o_sum {X : Cx} (hX : CxG X Γ) : OpC Γ (rSum X.K) oSum := by
  rw [hX.k]
  intro W σ H μ h xs ds Q r k q
  unfold oSum at q
  split at q
  · split at q
    · rename_i ns e
      obtain ⟨v, rfl, k1⟩ := dens1 k
      obtain ⟨a, rfl, sq⟩ := getI_ok r k1 e
      exact ⟨a, ns, rfl, sq, good_pure q r rfl⟩
    · exact False.elim q
  · exact False.elim q
theorem o_all {X : Cx} (hX : CxG X Γ) : OpC Γ (rAll X.K) oAll := by
  rw [hX.k]
  intro W σ H μ h xs ds Q r k q
  unfold oAll at q
  split at q
  · split at q
    · rename_i ns e
      obtain ⟨v, rfl, k1⟩ := dens1 k
      obtain ⟨a, rfl, sq⟩ := getB_ok r k1 e
      exact ⟨a, ns, rfl, sq, good_pure q r rfl⟩
    · exact False.elim q
  · exact False.elim q
theorem o_any {X : Cx} (hX : CxG X Γ) : OpC Γ (rAny X.K) oAny := by
  rw [hX.k]
  intro W σ H μ h xs ds Q r k q
  unfold oAny at q
  split at q
  · split at q
    · rename_i ns e
      obtain ⟨v, rfl, k1⟩ := dens1 k
      obtain ⟨a, rfl, sq⟩ := getB_ok r k1 e
      exact ⟨a, ns, rfl, sq, good_pure q r rfl⟩
    · exact False.elim q
  · exact False.elim q
theorem o_str : OpC Γ (fun xs H Q => ∃ i : Int, xs = [.int i] ∧ i.natAbs.log2 < 1920 ∧ Q (.str (toString i)) H) oStr := by
  intro W σ H μ h xs ds Q r k q
  unfold oStr at q
  split at q
  · split at q
    · rename_i i hl
      obtain ⟨v, rfl, k1⟩ := dens1 k
      cases k1
      refine ⟨i, rfl, hl, good_pure q r ?_⟩
      show V.str _ = V.str (S _)
      congr 1
    · exact False.elim q
  · exact False.elim q
end
/-! ### isinstance -/
def tyD : D → Option String
  | .non => some "NoneType"
  | .bl _ => some "bool"
  | .int _ => some "int"
  | .str _ => some "str"
  | .tup _ => some "tuple"
  | .lst _ => some "list"
  | .ref _ => some "list"
  | _ => none
theorem tyD_ok {Γ : G} {H : Hp} {μ : List Addr} {h : List MO} {d : D} {v : V} {n : String} (r : Rel Γ H μ h) (k : Den Γ μ H v d) (e : tyD d = some n) : TyX Γ.K H v (.type n) := by
  cases d with
  | non => cases e; cases k; exact .base .non
  | bl b => cases e; cases k; exact .base (.bl b)
  | int b => cases e; cases k; exact .base (.int b)
  | str b => cases e; cases k; exact .base (.str _)
  | tup ds =>
    cases e
    obtain ⟨a, vs, rfl, tp, dv⟩ := k
    rcases tp with ⟨_, q | ⟨o, q⟩⟩ | ⟨o, its, n, h1, h2, _⟩
    · exact .base (.tup q)
    · exact .fTuple q
    · exact .kTuple h1 h2
  | lst ds =>
    cases e
    obtain ⟨a, vs, rfl, tp, dv⟩ := k
    rcases tp with ⟨_, o, q⟩ | ⟨its, n, h1, _⟩
    · exact .base (.frz q)
    · exact .kList h1 rfl
  | ref i =>
    cases e
    obtain ⟨a, rfl, q⟩ := k
    obtain ⟨vs, q⟩ := r.mem (List.mem_of_getElem? q)
    exact .base (.lst q)
  | glo _ => cases e
  | clo _ _ => cases e
/-- whether a value is of one of some built-in types -/
def isiD : List String → D → Option Bool
  | [], _ => some false
  | n :: ns, d => match tyD d with
    | none => none
    | some t => match kitB t n with
      | none => none
      | some true => some true
      | some false => isiD ns d
def xIsi (ns : List String) (f : ME) : ME := fun ρ h => (f ρ h).bind fun d h1 => match isiD ns d with
  | some b => .ok (.bl b) h1
  | none => .stuck
theorem kitAny_of {K : PySem.W.Frag} {t : String} {d : D} (ht : tyD d = some t) : ∀ {ns : List String} {b : Bool}, isiD ns d = some b → ns ≠ [] → PySem.W.kitAny K (.type t) (ns.map Value.type) = some b
  | [], _, _, hne => absurd rfl hne
  | n :: ns, b, e, _ => by
    unfold isiD at e
    rw [ht] at e
    cases q : kitB t n with
    | none => simp only [q] at e; cases e
    | some c =>
      simp only [q] at e
      cases c with
      | true => cases e; exact kitAny_cons (b := true) (kit_ty q) (fun z => by cases z) fun _ => rfl
      | false =>
        have e' : isiD ns d = some b := e
        refine kitAny_cons (b := false) (kit_ty q) (fun _ => ?_) fun z => by cases z
        cases ns with
        | nil => cases e'; rfl
        | cons m ms => exact kitAny_of ht e' (List.cons_ne_nil _ _)
section
variable {X : Cx} {Γ : G} {W : WX}
theorem isi_ty {ns : List String} {d : D} {b : Bool} (e : isiD ns d = some b) (hne : ns ≠ []) : ∃ t, tyD d = some t := by
  cases q : tyD d with
  | some t => exact ⟨t, rfl⟩
  | none =>
    cases ns with
    | nil => exact absurd rfl hne
    | cons n ns => unfold isiD at e; rw [q] at e; cases e
/-- isinstance(e, T) -/
theorem fe_isi {e : Expr} {f : ME} {T : Str} {n : String} {p p2 pos : Pos} (hX : CxG X Γ) (hg : Gl X "isinstance") (hm : X.mg "isinstance" = none) (hgT : Gl X T) (hmT : X.mg T = none) (hT : bootBuiltins T = some (.type n)) (he : FE X Γ W e f)
    (hn : T ≠ "__name__" := by decide) (hdT : (T == ("__debug__" : Str)) = false := by decide)
    (hs : starEach [e, .Name T p2] X.env = (false, eval e X.env) :: starEach [.Name T p2] X.env := by rfl) (hs2 : starEach [.Name T p2] X.env = (false, eval (.Name T p2) X.env) :: starEach [] X.env := by rfl) (hpl : (backTo pos (starEach [.Name T p2] X.env)).any (·.1) = false := by rfl) :
    FE X Γ W (.Call (.Name "isinstance" p) [e, .Name T p2] [] pos) (xIsi [n] f) := by
  refine ⟨(pe_callB call_isi hg hm PyProof.Rows.boot_isinstance (pa_cons he.ok (pa_cons (pe_bltn (v := .ty n) hgT hmT hT rfl hn hdT) pa_nil hs2) hs) (by decide) (by decide) hs hpl).imp fun σ H Q q => ?_⟩
  obtain ⟨ρ, h, μ, he, hr, q⟩ := q
  refine ⟨ρ, h, μ, he, hr, Good.bind q fun a h1 x H1 μ1 _ e1 r1 d1 q1 => ?_⟩
  split at q1
  · rename_i b eb
    obtain ⟨t, ht⟩ := isi_ty eb (List.cons_ne_nil _ _)
    have eb' : kitB t n = some b := by
      unfold isiD at eb
      rw [ht] at eb
      cases q : kitB t n with
      | none => simp only [q] at eb; cases eb
      | some c =>
        simp only [q] at eb
        cases c with
        | true => cases eb; rfl
        | false => cases eb; rfl
    refine ⟨x, .ty n, .type t, .type n, b, rfl, .ty n, ?_, kit_ty eb', good_pure q1 r1 rfl⟩
    rw [hX.k]
    exact tyD_ok r1 d1 ht
  · exact False.elim q1
/-- isinstance(e, (T1, T2)) -/
theorem fe_isi2 {e : Expr} {f : ME} {T1 T2 : Str} {n1 n2 : String} {k} {p p1 p2 p3 pos : Pos} (hX : CxG X Γ) (hg : Gl X "isinstance") (hm : X.mg "isinstance" = none) (hgT : Gl X T1) (hmT : X.mg T1 = none) (hT : bootBuiltins T1 = some (.type n1)) (hgU : Gl X T2) (hmU : X.mg T2 = none) (hU : bootBuiltins T2 = some (.type n2)) (he : FE X Γ W e f)
    (hn : T1 ≠ "__name__" := by decide) (hdT : (T1 == ("__debug__" : Str)) = false := by decide) (hn2 : T2 ≠ "__name__" := by decide) (hdU : (T2 == ("__debug__" : Str)) = false := by decide)
    (hs : starEach [e, .Tuple [.Name T1 p1, .Name T2 p2] k p3] X.env = (false, eval e X.env) :: starEach [.Tuple [.Name T1 p1, .Name T2 p2] k p3] X.env := by rfl)
    (hpl : (backTo pos (starEach [.Tuple [.Name T1 p1, .Name T2 p2] k p3] X.env)).any (·.1) = false := by rfl)
    (hs2 : starEach [.Tuple [.Name T1 p1, .Name T2 p2] k p3] X.env = (false, eval (.Tuple [.Name T1 p1, .Name T2 p2] k p3) X.env) :: starEach [] X.env := by rfl)
    (hs3 : starEach [.Name T1 p1, .Name T2 p2] X.env = (false, eval (.Name T1 p1) X.env) :: starEach [.Name T2 p2] X.env := by rfl) (hs4 : starEach [.Name T2 p2] X.env = (false, eval (.Name T2 p2) X.env) :: starEach [] X.env := by rfl) :
    FE X Γ W (.Call (.Name "isinstance" p) [e, .Tuple [.Name T1 p1, .Name T2 p2] k p3] [] pos) (xIsi [n1, n2] f) := by
  refine ⟨(pe_callB call_isiT hg hm PyProof.Rows.boot_isinstance (pa_cons he.ok (pa_cons (pe_tup (pa_cons (pe_bltn (v := .ty n1) hgT hmT hT rfl hn hdT) (pa_cons (pe_bltn (v := .ty n2) hgU hmU hU rfl hn2 hdU) pa_nil hs4) hs3)) pa_nil hs2) hs) (by decide) (by decide) hs hpl).imp fun σ H Q q => ?_⟩
  obtain ⟨ρ, h, μ, he, hr, q⟩ := q
  refine ⟨ρ, h, μ, he, hr, Good.bind q fun a h1 x H1 μ1 _ e1 r1 d1 q1 => ?_⟩
  refine ⟨by rw [line_eq]; exact (by decide : 2 ≤ LINE), fun tp hp => ?_⟩
  split at q1
  · rename_i b eb
    obtain ⟨t, ht⟩ := isi_ty eb (List.cons_ne_nil _ _)
    refine ⟨x, tp, [.ty n1, .ty n2], .type t, [.type n1, .type n2], b, rfl, upd_same, .cons (.ty n1) (.cons (.ty n2) .nil), ?_, kitAny_of ht eb (List.cons_ne_nil _ _), ?_⟩
    · rw [hX.k]
      exact tyD_ok (r1.laid hp) (d1.mono (Ext.laid hp)) ht
    · exact q1 _ _ μ1 (Ext.laid hp) (r1.laid hp) rfl
  · exact False.elim q1
/-! ### sep.join(..) -/
def joinD (sep : List Nat) : List (List Nat) → List Nat
  | [] => []
  | [a] => a
  | a :: r => a ++ sep ++ joinD sep r
def oJoin (sep : List Nat) (d : D) (h : List MO) : Res D := match (getQ h d).bind strsD with
  | some ys => if (ys.map (·.length)).sum + ys.length * sep.length ≤ LINE then .ok (.str (joinD sep ys)) h else .stuck
  | none => .stuck
def xJoin (fo f : ME) : ME := fun ρ h => (fo ρ h).bind fun s h1 => match s with
  | .str sep => (f ρ h1).bind fun d h2 => oJoin sep d h2
  | _ => .stuck
end
end MP
end
section
set_option Elab.async false
set_option linter.all false
set_option maxRecDepth 100000
set_option maxHeartbeats 1000000
/-! M7: statements, targets, loops, comprehensions. -/
namespace MP
open PySem PySem.Spec PyProof.Rows L2

theorem join_ok (sep : List Nat) : ∀ ys : List (List Nat), Txt.join (S sep) (ys.map S) = S (joinD sep ys) := by
  have key : ∀ ys : List (List Nat), Str.join (S sep) (ys.map S) = S (joinD sep ys) := by
    intro ys
    induction ys with
    | nil => rfl
    | cons a r ih =>
      cases r with
      | nil => rfl
      | cons b r =>
        show S a ++ S sep ++ Str.join (S sep) ((b :: r).map S) = S (a ++ sep ++ joinD sep (b :: r))
        rw [ih, S_app, S_app]
  intro ys
  show Builtin.Str.glued (S sep) (ys.map S) = _
  rw [StrLaws.glued_eq_join, key]
section
variable {X : Cx} {Γ : G} {W : WX}
theorem fe_join {o e : Expr} {fo f : ME} {apos pos : Pos} (hX : CxG X Γ) (ho : FE X Γ W o fo) (he : FE X Γ W e f) (hs : starEach [e] X.env = [(false, eval e X.env)] := by rfl) (hbase : attributeBase o "join" X.env (eval o X.env) = eval o X.env := by rfl) (hline : (apos.endLine == pos.line) = true := by rfl) :
    FE X Γ W (.Call (.Attribute o "join" apos) [e] [] pos) (xJoin fo f) := by
  refine ⟨(pe_join ho.ok he.ok hs hbase hline).imp fun σ H Q q => ?_⟩
  obtain ⟨ρ, h, μ, he, hr, q⟩ := q
  refine ⟨ρ, h, μ, he, hr, Good.bind q fun a h1 x H1 μ1 z1 e1 r1 d1 q1 => ?_⟩
  split at q1
  · rename_i sep
    refine ⟨⟨_, d1⟩, ρ, h1, μ1, he.mono e1, r1, Good.bind q1 fun b h2 y H2 μ2 z2 e2 r2 d2 q2 => ?_⟩
    unfold oJoin at q2
    split at q2
    · rename_i ys ey
      split at q2
      · rename_i hl
        cases q3 : getQ h2 b with
        | none => rw [q3] at ey; cases ey
        | some ds =>
          rw [q3] at ey
          obtain ⟨p, vs, rfl, sq, dv⟩ := getQ_ok r2 d2 q3
          have ev := strs_ok dv ey
          subst ev
          refine ⟨S sep, p, ys.map S, d1, rfl, by rw [hX.k]; exact sq, ?_, ?_⟩
          · rw [List.map_map, List.length_map, S_len]
            have e : ys.map ((fun x : Str => x.length) ∘ S) = ys.map (·.length) := List.map_congr_left fun l _ => S_len l
            rw [e]
            exact hl
          · rw [join_ok]
            exact good_pure q2 r2 rfl
      · exact False.elim q2
    · exact False.elim q2
  · exact False.elim q1
end

/-! ### the ends of a statement -/
inductive RS where
  | nx (ρ : Rho) (h : List MO) | rt (d : D) (h : List MO) | bk (ρ : Rho) (h : List MO) | ct (ρ : Rho) (h : List MO) | err (e : Ex) (ρ : Rho) (h : List MO) | stuck
abbrev MS := Rho → List MO → RS
def GoodS (Γ : G) (W : WX) (H : Hp) (μ : List Addr) (N : Ends) : RS → Prop
  | .nx ρ h => ∀ σ' H' μ', Ext H μ H' μ' → EnvOk Γ μ' H' σ' ρ → Rel Γ H' μ' h → N.nx σ' H'
  | .rt d h => ∀ v H' μ', Ext H μ H' μ' → Rel Γ H' μ' h → Den Γ μ' H' v d → N.rt v H'
  | .bk ρ h => ∀ σ' H' μ', Ext H μ H' μ' → EnvOk Γ μ' H' σ' ρ → Rel Γ H' μ' h → N.bk σ' H'
  | .ct ρ h => ∀ σ' H' μ', Ext H μ H' μ' → EnvOk Γ μ' H' σ' ρ → Rel Γ H' μ' h → N.ct σ' H'
  | .err e ρ h => ∀ cls d σ' H' μ', Ext H μ H' μ' → EnvOk Γ μ' H' σ' ρ → Rel Γ H' μ' h → ExOk Γ H' μ' cls d e → W cls d σ' H'
  | .stuck => False
theorem GoodS.mono {Γ : G} {W : WX} {H H1 : Hp} {μ μ1 : List Addr} {N : Ends} (e : Ext H μ H1 μ1) : ∀ {r : RS}, GoodS Γ W H μ N r → GoodS Γ W H1 μ1 N r
  | .nx ρ h, g => fun σ' H' μ' e1 a b => g σ' H' μ' (e.trans e1) a b
  | .rt d h, g => fun v H' μ' e1 a b => g v H' μ' (e.trans e1) a b
  | .bk ρ h, g => fun σ' H' μ' e1 a b => g σ' H' μ' (e.trans e1) a b
  | .ct ρ h, g => fun σ' H' μ' e1 a b => g σ' H' μ' (e.trans e1) a b
  | .err ex ρ h, g => fun c d σ' H' μ' e1 a b => g c d σ' H' μ' (e.trans e1) a b
  | .stuck, g => g
theorem Good.mono {Γ : G} {W : WX} {σ : L2.St} {H H1 : Hp} {μ μ1 : List Addr} {α β : Type} {den : Hp → List Addr → β → α → Prop} {Q : β → Hp → Prop} (e : Ext H μ H1 μ1) : ∀ {r : Res α}, Good Γ W σ H μ den Q r → Good Γ W σ H1 μ1 den Q r
  | .ok a h, g => fun v H' μ' e1 a b => g v H' μ' (e.trans e1) a b
  | .err ex h, g => fun c d H' μ' e1 a b => g c d H' μ' (e.trans e1) a b
  | .stuck, g => g
/-- a statement goes on behind an expression -/
def Res.toS {α : Type} (r : Res α) (ρ : Rho) (k : α → List MO → RS) : RS := match r with
  | .ok a h => k a h
  | .err e h => .err e ρ h
  | .stuck => .stuck
theorem GoodS.bind {Γ : G} {W : WX} {σ : L2.St} {ρ : Rho} {H : Hp} {μ : List Addr} {N : Ends} {α β : Type} {den : Hp → List Addr → β → α → Prop} {Q : β → Hp → Prop} {r : Res α} {k : α → List MO → RS} (he : EnvOk Γ μ H σ ρ)
    (g : GoodS Γ W H μ N (r.toS ρ k)) (next : ∀ a h v H' μ', r = .ok a h → Ext H μ H' μ' → Rel Γ H' μ' h → den H' μ' v a → GoodS Γ W H' μ' N (k a h) → Q v H') : Good Γ W σ H μ den Q r := by
  cases r with
  | ok a h => exact fun v H' μ' e x d => next a h v H' μ' rfl e x d (GoodS.mono e (show GoodS Γ W H μ N (k a h) from g))
  | err ex h => exact fun c d H' μ' e x z => g c d σ H' μ' e (he.mono e) x z
  | stuck => exact g
def tS (Γ : G) (W : WX) (f : MS) : TS := fun N σ H => ∃ ρ h μ, EnvOk Γ μ H σ ρ ∧ Rel Γ H μ h ∧ GoodS Γ W H μ N (f ρ h)
structure FS (X : Cx) (Γ : G) (W : WX) (st : Stmt) (f : MS) : Prop where
  ok : PS X st (tS Γ W f)
structure FSs (X : Cx) (Γ : G) (W : WX) (st : List Stmt) (f : MS) : Prop where
  ok : PSs X st (tS Γ W f)
def sNil : MS := fun ρ h => .nx ρ h
def sSeq (a b : MS) : MS := fun ρ h => match a ρ h with
  | .nx ρ1 h1 => b ρ1 h1
  | r => r
def sBreak : MS := fun ρ h => .bk ρ h
def sCont : MS := fun ρ h => .ct ρ h
def sExpr (f : ME) : MS := fun ρ h => (f ρ h).toS ρ fun _ h1 => .nx ρ h1
def sRet (f : ME) : MS := fun ρ h => (f ρ h).toS ρ fun d h1 => .rt d h1
def sRetN : MS := fun _ h => .rt .non h
def sIf (c : MT) (a b : MS) : MS := fun ρ h => (c ρ h).toS ρ fun t h1 => if t then a ρ h1 else b ρ h1
def sSet (i : Nat) (f : ME) : MS := fun ρ h => (f ρ h).toS ρ fun d h1 => .nx (ρ.set i (some d)) h1
section
variable {X : Cx} {Γ : G} {W : WX}
theorem fss_nil : FSs X Γ W [] sNil := by
  refine ⟨pss_nil.imp fun N σ H q => ?_⟩
  obtain ⟨ρ, h, μ, he, hr, q⟩ := q
  exact q σ H μ (Ext.refl _ _) he hr
theorem fss_cons {st : Stmt} {r : List Stmt} {f g : MS} (h1 : FS X Γ W st f) (h2 : FSs X Γ W r g) : FSs X Γ W (st :: r) (sSeq f g) := by
  refine ⟨(pss_cons h1.ok h2.ok).imp fun N σ H q => ?_⟩
  obtain ⟨ρ, h, μ, he, hr, q⟩ := q
  refine ⟨ρ, h, μ, he, hr, ?_⟩
  unfold sSeq at q
  cases e : f ρ h with
  | nx ρ1 h1 =>
    rw [e] at q
    exact fun σ' H' μ' e1 he1 hr1 => ⟨ρ1, h1, μ', he1, hr1, GoodS.mono e1 q⟩
  | rt d h1 => rw [e] at q; exact q
  | bk d h1 => rw [e] at q; exact q
  | ct d h1 => rw [e] at q; exact q
  | err d h1 => rw [e] at q; exact q
  | stuck => rw [e] at q; exact q
theorem fss_one {st : Stmt} {f : MS} (h1 : FS X Γ W st f) : FSs X Γ W [st] f := ⟨pss_one h1.ok⟩
theorem fs_pass {pos : Pos} : FS X Γ W (.Pass pos) sNil := by
  refine ⟨ps_pass.imp fun N σ H q => ?_⟩
  obtain ⟨ρ, h, μ, he, hr, q⟩ := q
  exact q σ H μ (Ext.refl _ _) he hr
theorem fs_break {pos : Pos} : FS X Γ W (.Break pos) sBreak := by
  refine ⟨ps_break.imp fun N σ H q => ?_⟩
  obtain ⟨ρ, h, μ, he, hr, q⟩ := q
  exact q σ H μ (Ext.refl _ _) he hr
theorem fs_cont {pos : Pos} : FS X Γ W (.Continue pos) sCont := by
  refine ⟨ps_continue.imp fun N σ H q => ?_⟩
  obtain ⟨ρ, h, μ, he, hr, q⟩ := q
  exact q σ H μ (Ext.refl _ _) he hr
theorem fs_expr {e : Expr} {f : ME} {pos : Pos} (he : FE X Γ W e f) (hs : swapsWith e none pos.line X.env = pure false := by rfl) : FS X Γ W (.Expr e pos) (sExpr f) := by
  refine ⟨(ps_expr he.ok hs).imp fun N σ H q => ?_⟩
  obtain ⟨ρ, h, μ, he, hr, q⟩ := q
  exact ⟨ρ, h, μ, he, hr, GoodS.bind he q fun a h1 v H1 μ1 z1 e1 r1 d1 q1 => q1 σ H1 μ1 (Ext.refl _ _) (he.mono e1) r1⟩
theorem fs_ret {e : Expr} {f : ME} {pos : Pos} (he : FE X Γ W e f) : FS X Γ W (.Return (some e) pos) (sRet f) := by
  refine ⟨(ps_ret he.ok).imp fun N σ H q => ?_⟩
  obtain ⟨ρ, h, μ, he, hr, q⟩ := q
  exact ⟨ρ, h, μ, he, hr, GoodS.bind he q fun a h1 v H1 μ1 z1 e1 r1 d1 q1 => q1 v H1 μ1 (Ext.refl _ _) r1 d1⟩
theorem fs_retN {pos : Pos} : FS X Γ W (.Return none pos) sRetN := by
  refine ⟨ps_retN.imp fun N σ H q => ?_⟩
  obtain ⟨ρ, h, μ, he, hr, q⟩ := q
  exact q .non H μ (Ext.refl _ _) hr rfl
theorem fs_if {c : Expr} {a b : List Stmt} {fc : MT} {fa fb : MS} {pos : Pos} (hc : FT X Γ W c fc) (ha : FSs X Γ W a fa) (hb : FSs X Γ W b fb) : FS X Γ W (.If c a b pos) (sIf fc fa fb) := by
  refine ⟨(ps_if hc.ok ha.ok hb.ok).imp fun N σ H q => ?_⟩
  obtain ⟨ρ, h, μ, he, hr, q⟩ := q
  refine ⟨ρ, h, μ, he, hr, GoodS.bind he q fun a h1 v H1 μ1 z1 e1 r1 d1 q1 => ?_⟩
  cases (show v = a from d1)
  cases a with
  | true => exact ⟨ρ, h1, μ1, he.mono e1, r1, q1⟩
  | false => exact ⟨ρ, h1, μ1, he.mono e1, r1, q1⟩
theorem fs_set {i : Nat} {x : Str} {e : Expr} {f : ME} {pos pos' : Pos} (hN : X.N.Nodup) (hi : X.N[i]? = some x) (hx : Loc X.env.scope x) (he : FE X Γ W e f) (hs : swapsWith e (some (.Name x pos')) pos.line X.env = pure false := by rfl)
    (hf : X.fn x = true ∨ X.env.scope.names.lookup x = some .local := by first | exact .inl rfl | exact .inr rfl | assumption) : FS X Γ W (.Assign [.Name x pos'] e pos) (sSet i f) := by
  refine ⟨(ps_set hN hi hx he.ok hs hf).imp fun N σ H q => ?_⟩
  obtain ⟨ρ, h, μ, he, hr, q⟩ := q
  exact ⟨ρ, h, μ, he, hr, GoodS.bind he q fun a h1 v H1 μ1 z1 e1 r1 d1 q1 => q1 _ H1 μ1 (Ext.refl _ _) ((he.mono e1).set d1 i) r1⟩

/-! ### targets -/
/-- a name's slot, or a tuple of targets -/
inductive Pat where
  | nm (i : Nat) | tp (ps : List Pat)
mutual
def bindP : Pat → D → Rho → Option Rho
  | .nm i, d, ρ => some (ρ.set i (some d))
  | .tp ps, .tup ds, ρ => bindPs ps ds ρ
  | .tp _, _, _ => none
def bindPs : List Pat → List D → Rho → Option Rho
  | [], [], ρ => some ρ
  | p :: ps, d :: ds, ρ => match bindP p d ρ with
    | some ρ1 => bindPs ps ds ρ1
    | none => none
  | _, _, _ => none
end
mutual
def patS : Pat → List Nat
  | .nm i => [i]
  | .tp ps => patSs ps
def patSs : List Pat → List Nat
  | [] => []
  | p :: ps => patS p ++ patSs ps
end
/-- what is known behind the target's store -/
def PatEnd (Γ : G) (H : Hp) (μ : List Addr) (sl : List Nat) (σ σ' : L2.St) (ρ' : Rho) : Prop := EnvOk Γ μ H σ' ρ' ∧ ∀ vs : List Nat, (∀ i ∈ sl, i ∈ vs) → wipe σ' vs = wipe σ vs
structure FP (X : Cx) (Γ : G) (tg : Expr) (p : Pat) : Prop where
  ok : ∃ t, PG X tg t ∧ ∀ (v : V) (d : D) (σ : L2.St) (ρ ρ' : Rho) (H : Hp) (μ : List Addr) (Q : L2.St → Hp → Prop), Den Γ μ H v d → EnvOk Γ μ H σ ρ → bindP p d ρ = some ρ' → (∀ σ', PatEnd Γ H μ (patS p) σ σ' ρ' → Q σ' H) → t v σ H Q
structure FPs (X : Cx) (Γ : G) (tg : List Expr) (p : List Pat) : Prop where
  ok : p.length = tg.length ∧ ∃ t, PGs X tg t ∧ ∀ (vs : List V) (ds : List D) (σ : L2.St) (ρ ρ' : Rho) (H : Hp) (μ : List Addr) (Q : L2.St → Hp → Prop), Dens Γ μ H vs ds → EnvOk Γ μ H σ ρ → bindPs p ds ρ = some ρ' → (∀ σ', PatEnd Γ H μ (patSs p) σ σ' ρ' → Q σ' H) → t vs σ H Q
theorem wipe_set {σ : L2.St} {i : Nat} {x : Option V} : ∀ {vs : List Nat}, i ∈ vs → wipe (σ.set i x) vs = wipe σ vs
  | [], h => by cases h
  | v :: vs, h => by
    unfold wipe
    by_cases e : i ∈ vs
    · rw [wipe_set e]
    · have e2 : i = v := by
        rcases List.mem_cons.mp h with h | h
        · exact h
        · exact absurd h e
      subst e2
      have key : ∀ (us : List Nat), i ∉ us → wipe (σ.set i x) us = (wipe σ us).set i x := by
        intro us
        induction us with
        | nil => intro _; rfl
        | cons u us ih =>
          intro hn
          unfold wipe
          rw [ih fun z => hn (List.mem_cons_of_mem _ z), List.set_comm]
          exact fun z => hn (z ▸ List.mem_cons_self)
      rw [key vs e, List.set_set]
theorem fp_name {i : Nat} {x : Str} {pos : Pos} (hN : X.N.Nodup) (hi : X.N[i]? = some x) (hx : Loc X.env.scope x) (hf : X.fn x = true ∨ X.env.scope.names.lookup x = some .local := by first | exact .inl rfl | exact .inr rfl | assumption) : FP X Γ (.Name x pos) (.nm i) := by
  refine ⟨_, pg_name hN hi hx hf, fun v d σ ρ ρ' H μ Q k he e q => ?_⟩
  cases (show some (ρ.set i (some d)) = some ρ' from e)
  exact q _ ⟨he.set k i, fun vs h => wipe_set (h i List.mem_cons_self)⟩
theorem fps_nil : FPs X Γ [] [] := by
  refine ⟨rfl, _, pgs_nil, fun vs ds σ ρ ρ' H μ Q k he e q => ?_⟩
  cases ds with
  | nil =>
    cases (show some ρ = some ρ' from e)
    exact ⟨k, q _ ⟨he, fun _ _ => rfl⟩⟩
  | cons d ds => cases e
theorem fps_cons {e : Expr} {es : List Expr} {p : Pat} {ps : List Pat} (h1 : FP X Γ e p) (h2 : FPs X Γ es ps) (hs : (assignEach (e :: es) X.env).map (·.2) = assign e X.env :: (assignEach es X.env).map (·.2) := by rfl) : FPs X Γ (e :: es) (p :: ps) := by
  obtain ⟨t, pg, h1⟩ := h1.ok
  obtain ⟨hl, u, pgs, h2⟩ := h2.ok
  refine ⟨by rw [List.length_cons, List.length_cons, hl], _, pgs_cons pg pgs hs, fun vs ds σ ρ ρ' H μ Q k he e q => ?_⟩
  cases ds with
  | nil => cases e
  | cons d ds =>
    obtain ⟨v, r, rfl, k1, k2⟩ := k
    have e' : (match bindP p d ρ with | some ρ1 => bindPs ps ds ρ1 | none => none) = some ρ' := e
    cases b : bindP p d ρ with
    | none => rw [b] at e'; cases e'
    | some ρ1 =>
      rw [b] at e'
      refine ⟨v, r, rfl, h1 v d σ ρ ρ1 H μ _ k1 he b fun σ1 ⟨he1, w1⟩ => ?_⟩
      refine h2 r ds σ1 ρ1 ρ' H μ Q k2 he1 e' fun σ2 ⟨he2, w2⟩ => q σ2 ⟨he2, fun vs hv => ?_⟩
      rw [w2 vs fun i hi => hv i (List.mem_append_right _ hi), w1 vs fun i hi => hv i (List.mem_append_left _ hi)]
theorem fp_tup {es : List Expr} {k : Nat} {ps : List Pat} {pos : Pos} (hX : CxG X Γ) (hc : X.calm = true) (h : FPs X Γ es ps)
    (hn : (assignEach es X.env).length = es.length := by rfl) (hst : (assignEach es X.env).findIdx? (·.1) = none := by rfl) : FP X Γ (.Tuple es k pos) (.tp ps) := by
  obtain ⟨hl, t, pgs, h⟩ := h.ok
  refine ⟨_, pg_tup hc pgs hn hst, fun v d σ ρ ρ' H μ Q k he e q => ?_⟩
  cases d with
  | tup ds =>
    obtain ⟨a, vs, rfl, tp, dv⟩ := k
    have e' : bindPs ps ds ρ = some ρ' := e
    have hlen : ∀ (ps : List Pat) (ds : List D) (ρ ρ' : Rho), bindPs ps ds ρ = some ρ' → ps.length = ds.length := by
      intro ps
      induction ps with
      | nil => intro ds ρ ρ' e; cases ds with
        | nil => rfl
        | cons d ds => cases e
      | cons p ps ih => intro ds ρ ρ' e; cases ds with
        | nil => cases e
        | cons d ds =>
          have e' : (match bindP p d ρ with | some ρ1 => bindPs ps ds ρ1 | none => none) = some ρ' := e
          cases b : bindP p d ρ with
          | none => rw [b] at e'; cases e'
          | some ρ1 => rw [b] at e'; rw [List.length_cons, List.length_cons, ih ds ρ1 ρ' e']
    refine ⟨a, vs, rfl, by rw [hX.k]; exact tp.sq, ?_, h vs ds σ ρ ρ' H μ Q dv he e' q⟩
    rw [dv.length, ← hlen ps ds ρ ρ' e', hl]
  | _ => cases e
/-- target = e -/
def sAsg (p : Pat) (f : ME) : MS := fun ρ h => (f ρ h).toS ρ fun d h1 => match bindP p d ρ with
  | some ρ1 => .nx ρ1 h1
  | none => .stuck
theorem fs_asg {tg e : Expr} {f : ME} {p : Pat} {pos : Pos} (he : FE X Γ W e f) (hp : FP X Γ tg p) (hs : swapsWithSole [tg] e pos.line X.env = pure false := by rfl) (hw : swappedStores [tg] e X.env = pure none := by rfl)
    (h1 : (assignEach [tg] X.env).map (·.2) = [assign tg X.env] := by rfl) : FS X Γ W (.Assign [tg] e pos) (sAsg p f) := by
  obtain ⟨t, pg, hp⟩ := hp.ok
  refine ⟨(ps_asg he.ok pg hs hw h1).imp fun N σ H q => ?_⟩
  obtain ⟨ρ, h, μ, he, hr, q⟩ := q
  refine ⟨ρ, h, μ, he, hr, GoodS.bind he q fun a h1 v H1 μ1 z1 e1 r1 d1 q1 => ?_⟩
  split at q1
  · rename_i ρ1 b
    exact hp v a σ ρ ρ1 H1 μ1 _ d1 (he.mono e1) b fun σ' hx => q1 σ' H1 μ1 (Ext.refl _ _) hx.1 r1
  · exact False.elim q1
/-- a, b = x, y -/
def sPar (i j : Nat) (f : MA) : MS := fun ρ h => (f ρ h).toS ρ fun ds h1 => match ds with
  | [a, b] => .nx ((ρ.set i (some a)).set j (some b)) h1
  | _ => .stuck
def sPar3 (i j l : Nat) (f : MA) : MS := fun ρ h => (f ρ h).toS ρ fun ds h1 => match ds with
  | [a, b, c] => .nx (((ρ.set i (some a)).set j (some b)).set l (some c)) h1
  | _ => .stuck
theorem fs_par {i j : Nat} {x y : Str} {a b : Expr} {f : MA} {px py pt pos : Pos} {kt k2 pt2} (hc : X.calm = true) (hN : X.N.Nodup) (hi : X.N[i]? = some x) (hj : X.N[j]? = some y) (hij : i ≠ j)
    (hx : X.env.scope.names.lookup x = some .local) (hy : X.env.scope.names.lookup y = some .local) (ha : FA X Γ W [a, b] f)
    (hw : swappedStores [.Tuple [.Name x px, .Name y py] kt pt] (.Tuple [a, b] k2 pt2) X.env = pure (some [x, y]))
    (hs : swapsWithSole [.Tuple [.Name x px, .Name y py] kt pt] (.Tuple [a, b] k2 pt2) pos.line X.env = pure false := by rfl) :
    FS X Γ W (.Assign [.Tuple [.Name x px, .Name y py] kt pt] (.Tuple [a, b] k2 pt2) pos) (sPar i j f) := by
  refine ⟨(ps_par hc hN hi hj hij hx hy ha.ok hw hs).imp fun N σ H q => ?_⟩
  obtain ⟨ρ, h, μ, he, hr, q⟩ := q
  refine ⟨ρ, h, μ, he, hr, GoodS.bind he q fun a h1 v H1 μ1 z1 e1 r1 d1 q1 => ?_⟩
  split at q1
  · obtain ⟨v, w', rfl, k1, k2⟩ := dens2 d1
    exact ⟨v, w', rfl, q1 _ H1 μ1 (Ext.refl _ _) (((he.mono e1).set k1 i).set k2 j) r1⟩
  · exact False.elim q1
theorem fs_par3 {i j l : Nat} {x y z : Str} {a b c : Expr} {f : MA} {px py pz pt pos : Pos} {kt k2 pt2} (hc : X.calm = true) (hN : X.N.Nodup) (hi : X.N[i]? = some x) (hj : X.N[j]? = some y) (hl : X.N[l]? = some z) (hij : i ≠ j) (hil : i ≠ l) (hjl : j ≠ l)
    (hx : X.env.scope.names.lookup x = some .local) (hy : X.env.scope.names.lookup y = some .local) (hz : X.env.scope.names.lookup z = some .local) (ha : FA X Γ W [a, b, c] f)
    (hw : swappedStores [.Tuple [.Name x px, .Name y py, .Name z pz] kt pt] (.Tuple [a, b, c] k2 pt2) X.env = pure (some [x, y, z]))
    (hs : swapsWithSole [.Tuple [.Name x px, .Name y py, .Name z pz] kt pt] (.Tuple [a, b, c] k2 pt2) pos.line X.env = pure false := by rfl) :
    FS X Γ W (.Assign [.Tuple [.Name x px, .Name y py, .Name z pz] kt pt] (.Tuple [a, b, c] k2 pt2) pos) (sPar3 i j l f) := by
  refine ⟨(ps_par3 hc hN hi hj hl hij hil hjl hx hy hz ha.ok hw hs).imp fun N σ H q => ?_⟩
  obtain ⟨ρ, h, μ, he, hr, q⟩ := q
  refine ⟨ρ, h, μ, he, hr, GoodS.bind he q fun a h1 v H1 μ1 z1 e1 r1 d1 q1 => ?_⟩
  split at q1
  · obtain ⟨v, r, rfl, k1, k2⟩ := d1
    obtain ⟨w1, w2, rfl, k2, k3⟩ := dens2 k2
    exact ⟨v, w1, w2, rfl, q1 _ H1 μ1 (Ext.refl _ _) ((((he.mono e1).set k1 i).set k2 j).set k3 l) r1⟩
  · exact False.elim q1
/-- x op= e -/
def sAug (i : Nat) (g : D → D → List MO → Res D) (f : ME) : MS := fun ρ h => match ρ[i]? with
  | some (some d) => (f ρ h).toS ρ fun e h1 => (g d e h1).toS ρ fun z h2 => .nx (ρ.set i (some z)) h2
  | _ => .stuck
def rAugI (K : PySem.W.Frag) : R2 := fun x y H Q => rI0 (fun i j => .int (i + j)) x y H Q ∨ (∃ i j, x = .str i ∧ y = .str j ∧ i.length + j.length ≤ sizeLine ∧ Q (.str (i ++ j)) H)
theorem fs_aug {i : Nat} {x : Str} {e : Expr} {f : ME} {op : Operator} {r : R2} {g : D → D → List MO → Res D} {pos pos' : Pos} (hN : X.N.Nodup) (hi : X.N[i]? = some x) (hx : Loc X.env.scope x) (he : FE X Γ W e f) (ho : OpR X (inplaceOp op) r) (hg : Op2 Γ r g)
    (hf : X.fn x = true ∨ X.env.scope.names.lookup x = some .local := by first | exact .inl rfl | exact .inr rfl | assumption) : FS X Γ W (.AugAssign (.Name x pos') op e pos) (sAug i g f) := by
  refine ⟨(ps_aug (ti := r) hN hi hx he.ok ho hf).imp fun N σ H q => ?_⟩
  obtain ⟨ρ, h, μ, he, hr, q⟩ := q
  unfold sAug at q
  split at q
  · rename_i d ed
    obtain ⟨v, a, b⟩ := he.get ed
    refine ⟨v, a, ρ, h, μ, he, hr, GoodS.bind he q fun b1 h1 y H1 μ1 z1 e1 r1 d1 q1 => ?_⟩
    refine hg W σ H1 μ1 h1 v y d b1 _ r1 (b.mono e1) d1 (GoodS.bind (he.mono e1) q1 fun z h2 zv H2 μ2 z2 e2 r2 d2 q2 => ?_)
    exact q2 _ H2 μ2 (Ext.refl _ _) (((he.mono e1).mono e2).set d2 i) r2
  · exact False.elim q
/-- l[i] = e, l a list of the mini heap -/
def sSub (f fo fi : ME) : MS := fun ρ h => (f ρ h).toS ρ fun d h1 => (fo ρ h1).toS ρ fun o h2 => (fi ρ h2).toS ρ fun i h3 => match o, i with
  | .ref a, .int k => match hl h3 a with
    | some ds => match ixN ds.length k with
      | some j => .nx ρ (h3.set a (.lst (ds.set j d)))
      | none => .stuck
    | none => .stuck
  | _, _ => .stuck
theorem fs_sub {e o i : Expr} {f fo fi : ME} {spos pos : Pos} (he : FE X Γ W e f) (ho : FE X Γ W o fo) (hi : FE X Γ W i fi)
    (ha : ∀ v, assign (.Subscript o i spos) X.env v = (do
      let ov ← holding [v] (eval o X.env)
      let iv ← holding [v, ov] (eval i X.env)
      standAt spos
      holding [v, ov, iv] (setItem ov iv v)
      release [v, ov, iv] []) := by intro _; rfl) (hs : swapsWithSole [.Subscript o i spos] e pos.line X.env = pure false := by rfl) (hw : swappedStores [.Subscript o i spos] e X.env = pure none := by rfl)
    (h1 : (assignEach [.Subscript o i spos] X.env).map (·.2) = [assign (.Subscript o i spos) X.env] := by rfl) : FS X Γ W (.Assign [.Subscript o i spos] e pos) (sSub f fo fi) := by
  refine ⟨(ps_asg he.ok (pg_sub ho.ok hi.ok set_list ha) hs hw h1).imp fun N σ H q => ?_⟩
  obtain ⟨ρ, h, μ, he, hr, q⟩ := q
  refine ⟨ρ, h, μ, he, hr, GoodS.bind he q fun d h1 v H1 μ1 z1 e1 r1 d1 q1 => ?_⟩
  refine ⟨ρ, h1, μ1, he.mono e1, r1, GoodS.bind (he.mono e1) q1 fun o h2 ov H2 μ2 z2 e2 r2 d2 q2 => ?_⟩
  refine ⟨ρ, h2, μ2, (he.mono e1).mono e2, r2, GoodS.bind ((he.mono e1).mono e2) q2 fun i h3 iv H3 μ3 z3 e3 r3 d3 q3 => ?_⟩
  split at q3
  · split at q3
    · rename_i a k _ ds eh
      split at q3
      · rename_i j ej
        obtain ⟨p, rfl, hp⟩ := d2.mono e3
        cases d3
        obtain ⟨vs, w1, w2⟩ := r3.ob a p _ hp (hl_iff.mp eh)
        refine ⟨p, vs, k, j, rfl, rfl, w1, by rw [w2.length]; exact ej, ?_⟩
        have dv : Den Γ μ3 H3 v d := (d1.mono e2).mono e3
        exact q3 σ _ μ3 (ext_write (List.mem_of_getElem? hp)) ((((he.mono e1).mono e2).mono e3).mono (ext_write (List.mem_of_getElem? hp))) (rel_write r3 hp (Dens.set dv j w2))
      · exact False.elim q3
    · exact False.elim q3
  · exact False.elim q3
end
end MP
end
section
set_option Elab.async false
set_option linter.all false
set_option maxRecDepth 100000
set_option maxHeartbeats 1000000
/-! M8: while, for, comprehensions. -/
namespace MP
open PySem PySem.Spec PyProof.Rows L2

/-! ### while -/
def loopW (c : MT) (b : MS) : Nat → MS
  | 0 => fun _ _ => .stuck
  | n + 1 => fun ρ h => (c ρ h).toS ρ fun t h1 => if t then (match b ρ h1 with
      | .nx ρ2 h2 => loopW c b n ρ2 h2
      | .ct ρ2 h2 => loopW c b n ρ2 h2
      | .bk ρ2 h2 => .nx ρ2 h2
      | r => r) else .nx ρ h1
section
variable {X : Cx} {Γ : G} {W : WX}
theorem fs_while {c : Expr} {body : List Stmt} {fc : MT} {fb : MS} {n : Nat} {pos : Pos} (hp : PassesOwn (model X.prog X.w) X.A X.env X.xe) (hc : FT X Γ W c fc) (hb : FSs X Γ W body fb) : FS X Γ W (.While c body [] pos) (loopW fc fb n) := by
  refine ⟨(ps_while hp hc.ok hb.ok).imp fun N σ H q => ?_⟩
  obtain ⟨ρ, h, μ, he, hr, q⟩ := q
  refine ⟨fun m σ H => ∃ ρ h μ, EnvOk Γ μ H σ ρ ∧ Rel Γ H μ h ∧ GoodS Γ W H μ N (loopW fc fb m ρ h), ⟨n, ρ, h, μ, he, hr, q⟩, ?_⟩
  rintro m σ H ⟨ρ, h, μ, he, hr, q⟩
  cases m with
  | zero => exact False.elim q
  | succ m =>
    refine ⟨ρ, h, μ, he, hr, GoodS.bind he q fun a h1 v H1 μ1 _ e1 r1 d1 q1 => ?_⟩
    cases (show v = a from d1)
    cases a with
    | false => exact q1 σ H1 μ1 (Ext.refl _ _) (he.mono e1) r1
    | true =>
      rw [if_pos rfl] at q1 ⊢
      refine ⟨fun σ' H' => ∃ ρ h μ, EnvOk Γ μ H' σ' ρ ∧ Rel Γ H' μ h ∧ GoodS Γ W H' μ N (loopW fc fb m ρ h), fun σ' H' z => ⟨m, Nat.lt_succ_self m, z⟩, ρ, h1, μ1, he.mono e1, r1, ?_⟩
      cases eb : fb ρ h1 with
      | nx ρ2 h2 => rw [eb] at q1; exact fun σ' H' μ' e2 he2 hr2 => ⟨ρ2, h2, μ', he2, hr2, GoodS.mono e2 q1⟩
      | ct ρ2 h2 => rw [eb] at q1; exact fun σ' H' μ' e2 he2 hr2 => ⟨ρ2, h2, μ', he2, hr2, GoodS.mono e2 q1⟩
      | bk ρ2 h2 => rw [eb] at q1; exact q1
      | rt d h2 => rw [eb] at q1; exact q1
      | err ex ρ2 h2 => rw [eb] at q1; exact q1
      | stuck => rw [eb] at q1; exact q1
end

/-! ### what is walked -/
structure IterD where
  items : List D
  ck : Option (Nat × List D)
def ckOk (it : IterD) (h : List MO) : Bool := match it.ck with
  | none => true
  | some (i, l) => decide (hl h i = some l)
/-- the iterator J gives the items -/
def Yields (Γ : G) (H1 : Hp) (μ1 : List Addr) (J : It) (it : IterD) : Prop := ∀ (H : Hp) (μ : List Addr) (h : List MO), Ext H1 μ1 H μ → Rel Γ H μ h → ckOk it h = true →
  (∀ (i : Nat) (d : D), it.items[i]? = some d → J.go i H ∧ ∀ x H', J.yld i H x H' → Ext H μ H' μ ∧ Rel Γ H' μ h ∧ Den Γ μ H' x d) ∧ ∀ i : Nat, it.items.length ≤ i → J.stop i H
abbrev MI := Rho → List MO → Res IterD
abbrev denI (Γ : G) : Hp → List Addr → It → IterD → Prop := fun H μ J it => Yields Γ H μ J it
def tI (Γ : G) (W : WX) (f : MI) : TI := fun σ H R => ∃ ρ h μ, EnvOk Γ μ H σ ρ ∧ Rel Γ H μ h ∧ Good Γ W σ H μ (denI Γ) (fun J H1 => R J H1) (f ρ h)
structure FI (X : Cx) (Γ : G) (W : WX) (tg iter : Expr) (f : MI) : Prop where
  ok : PI X tg iter (tI Γ W f)
theorem PIimp {X : Cx} {tg iter : Expr} {t t' : TI} (h : PI X tg iter t) (i : ∀ σ H R, t' σ H R → t σ H R) : PI X tg iter t' := ⟨fun pins s σ H R I q => h.run pins s σ H R I (i _ _ _ q)⟩

/-! ### for -/
def loopF (p : Pat) (b : MS) (it : IterD) : List D → MS
  | [] => fun ρ h => if ckOk it h then .nx ρ h else .stuck
  | d :: ds => fun ρ h => if ckOk it h then match bindP p d ρ with
      | some ρ1 => (match b ρ1 h with
        | .nx ρ2 h2 => loopF p b it ds ρ2 h2
        | .ct ρ2 h2 => loopF p b it ds ρ2 h2
        | .bk ρ2 h2 => .nx ρ2 h2
        | r => r)
      | none => .stuck
    else .stuck
def sFor (fi : MI) (p : Pat) (b : MS) : MS := fun ρ h => (fi ρ h).toS ρ fun it h1 => loopF p b it it.items ρ h1
section
variable {X : Cx} {Γ : G} {W : WX}
theorem fs_for {tg iter : Expr} {body : List Stmt} {fi : MI} {p : Pat} {fb : MS} {pos : Pos} (hp : PassesOwn (model X.prog X.w) X.A X.env X.xe) (hc : X.calm = true) (hi : FI X Γ W tg iter fi) (hg : FP X Γ tg p) (hb : FSs X Γ W body fb)
    (hs : ∀ x, foldedSetIterable iter X.env x = pure x := by intro _; rfl) : FS X Γ W (.For tg iter body [] pos) (sFor fi p fb) := by
  obtain ⟨t, pg, hg⟩ := hg.ok
  refine ⟨(ps_for hp hc hi.ok pg hb.ok hs).imp fun N σ H q => ?_⟩
  obtain ⟨ρ, h, μ, he, hr, q⟩ := q
  refine ⟨ρ, h, μ, he, hr, GoodS.bind he q fun it h1 J H1 μ1 _ e1 r1 y1 q1 => ?_⟩
  refine ⟨fun i m σ H => ∃ ρ h μ, Ext H1 μ1 H μ ∧ EnvOk Γ μ H σ ρ ∧ Rel Γ H μ h ∧ m = it.items.length - i ∧ i ≤ it.items.length ∧ GoodS Γ W H μ N (loopF p fb it (it.items.drop i) ρ h),
    ⟨_, ρ, h1, μ1, Ext.refl _ _, he.mono e1, r1, rfl, Nat.zero_le _, q1⟩, ?_⟩
  rintro i m σ H ⟨ρ, h, μ, ex, he, hr, rfl, hi, q⟩
  by_cases hlt : i < it.items.length
  · have ed : it.items.drop i = it.items[i] :: it.items.drop (i + 1) := List.drop_eq_getElem_cons hlt
    rw [ed] at q
    unfold loopF at q
    split at q
    · rename_i ck
      split at q
      · rename_i ρ1 bp
        obtain ⟨y, _⟩ := y1 H μ h ex hr ck
        obtain ⟨go, yl⟩ := y i _ (List.getElem?_eq_getElem hlt)
        refine .inr ⟨go, fun σ' H' => ∃ ρ h μ, Ext H1 μ1 H' μ ∧ EnvOk Γ μ H' σ' ρ ∧ Rel Γ H' μ h ∧ GoodS Γ W H' μ N (loopF p fb it (it.items.drop (i + 1)) ρ h), fun σ' H' ⟨ρ', h', μ', a, b, c, d⟩ => ⟨it.items.length - (i + 1), by omega, ρ', h', μ', a, b, c, rfl, hlt, d⟩, fun x H' yx => ?_⟩
        obtain ⟨e2, r2, d2⟩ := yl x H' yx
        refine hg x _ σ ρ ρ1 H' μ _ d2 (he.mono e2) bp fun σ2 ⟨he2, _⟩ => ⟨ρ1, h, μ, he2, r2, ?_⟩
        have ex2 := ex.trans e2
        cases eb : fb ρ1 h with
        | nx ρ2 h2 => rw [eb] at q; exact fun σ' H3 μ' e3 he3 hr3 => ⟨ρ2, h2, μ', ex2.trans e3, he3, hr3, GoodS.mono (e2.trans e3) q⟩
        | ct ρ2 h2 => rw [eb] at q; exact fun σ' H3 μ' e3 he3 hr3 => ⟨ρ2, h2, μ', ex2.trans e3, he3, hr3, GoodS.mono (e2.trans e3) q⟩
        | bk ρ2 h2 => rw [eb] at q; exact fun σ' H3 μ' e3 he3 hr3 => q σ' H3 μ' (e2.trans e3) he3 hr3
        | rt d h2 => rw [eb] at q; exact fun v H3 μ' e3 he3 hr3 => q v H3 μ' (e2.trans e3) he3 hr3
        | err exn ρ2 h2 => rw [eb] at q; exact fun c d σ' H3 μ' e3 he3 hr3 => q c d σ' H3 μ' (e2.trans e3) he3 hr3
        | stuck => rw [eb] at q; exact False.elim q
      · exact False.elim q
    · exact False.elim q
  · have e : i = it.items.length := by omega
    subst e
    rw [List.drop_length] at q
    unfold loopF at q
    split at q
    · rename_i ck
      obtain ⟨_, y⟩ := y1 H μ h ex hr ck
      exact .inl ⟨y _ (Nat.le_refl _), q σ H μ (Ext.refl _ _) he hr⟩
    · exact False.elim q
end

/-! ### comprehensions -/
def wipeD (ρ : Rho) : List Nat → Rho
  | [] => ρ
  | v :: vs => (wipeD ρ vs).set v none
theorem wipe_env {Γ : G} {μ : List Addr} {H : Hp} {σ : L2.St} {ρ : Rho} (he : EnvOk Γ μ H σ ρ) : ∀ vs : List Nat, EnvOk Γ μ H (wipe σ vs) (wipeD ρ vs)
  | [] => he
  | v :: vs => (wipe_env he vs).wipe v
/-- the turns of a comprehension: an error within is not carried -/
def loopC (p : Pat) (ft : MT) (fe : ME) (it : IterD) (ρ0 : Rho) : List D → List D → List MO → Res (List D)
  | [], acc, h => if ckOk it h then .ok acc h else .stuck
  | d :: ds, acc, h => if ckOk it h then match bindP p d ρ0 with
      | some ρ1 => (match ft ρ1 h with
        | .ok true h1 => (match fe ρ1 h1 with
          | .ok y h2 => if acc.length < LINE then loopC p ft fe it ρ0 ds (acc ++ [y]) h2 else .stuck
          | _ => .stuck)
        | .ok false h1 => loopC p ft fe it ρ0 ds acc h1
        | _ => .stuck)
      | none => .stuck
    else .stuck
def xLcA (fi : MI) (p : Pat) (ft : MT) (fe : ME) (own : List Nat) : Rho → List MO → Res (List D) := fun ρ h => (fi ρ h).bind fun it h1 => loopC p ft fe it (wipeD ρ own) it.items [] h1
def xLc (fi : MI) (p : Pat) (ft : MT) (fe : ME) (own : List Nat) : ME := fun ρ h => (xLcA fi p ft fe own ρ h).bind fun ds h1 => .ok (.lst ds) h1
def xLcN (fi : MI) (p : Pat) (ft : MT) (fe : ME) (own : List Nat) : ME := fun ρ h => (xLcA fi p ft fe own ρ h).bind fun ds h1 => .ok (.ref h1.length) (h1 ++ [.lst ds])
abbrev W0 : WX := fun _ _ _ _ => False
def xYes : MT := fun _ h => .ok true h
/-- the tests of a clause -/
structure FTs (X : Cx) (Γ : G) (W : WX) (es : List Expr) (f : MT) : Prop where
  ok : PTs X es (tT Γ W f)
section
variable {X : Cx} {Γ : G} {W : WX}
theorem ft_nil : FTs X Γ W [] xYes := ⟨⟨fun pins s σ H Q I q => pts_nil.run pins s σ H Q I (by
  obtain ⟨ρ, h, μ, he, hr, q⟩ := q
  exact q true H μ (Ext.refl _ _) hr rfl)⟩⟩
theorem ft_one {c : Expr} {f : MT} (h : FT X Γ W c f) : FTs X Γ W [c] f := ⟨pts_one h.ok⟩
abbrev blkX (X : Cx) (scope : Scope) (s : Shared) (H : Hp) (C : Addr) (cl : List (Str × Addr)) (fp : List Addr) : Cx := X.blk s H scope (compEnvC scope cl C X.env) fp
/-- what the loop leaves -/
theorem lc_run {fi : MI} {p : Pat} {ft : MT} {fe : ME} {own : List Nat} {t : TG} (hpo : ∀ i ∈ patS p, i ∈ own)
    (hg : ∀ (v : V) (d : D) (σ : L2.St) (ρ ρ' : Rho) (H : Hp) (μ : List Addr) (Q : L2.St → Hp → Prop), Den Γ μ H v d → EnvOk Γ μ H σ ρ → bindP p d ρ = some ρ' → (∀ σ', PatEnd Γ H μ (patS p) σ σ' ρ' → Q σ' H) → t v σ H Q)
    {σ : L2.St} {H : Hp} {Q : VK} {ρ : Rho} {h : List MO} {μ : List Addr} (he : EnvOk Γ μ H σ ρ) (hr : Rel Γ H μ h) {α : Type} {k : List D → List MO → Res α} {den : Hp → List Addr → V → α → Prop} {Qg : V → Hp → Prop}
    (q : Good Γ W σ H μ den Qg ((xLcA fi p ft fe own ρ h).bind k))
    (fin : ∀ ds h1 Hb μb H1 μ1 vs p, Ext H μ Hb μb → Ext Hb μb H1 μ1 → Rel Γ H1 μ1 h1 → Dens Γ μ1 H1 vs ds → Hb p = none → p ∉ μ1 → H1 p = some (.lst vs) → Good Γ W σ Hb μb den Qg (k ds h1) → Q (.ref p) H1) :
    tLc (tI Γ W fi) t (tT Γ W0 ft) (tE Γ W0 fe) own σ H Q := by
  have q' : Good Γ W σ H μ den Qg ((fi ρ h).bind fun it h1 => (loopC p ft fe it (wipeD ρ own) it.items [] h1).bind k) := by
    rw [← Res.bind_assoc]; exact q
  refine ⟨ρ, h, μ, he, hr, Good.bind q' fun it h1 J H1 μ1 _ e1 r1 y1 q1 => ?_⟩
  intro L hL
  have pL : L ∉ μ1 := r1.fresh hL
  refine ⟨fun i m H' => ∃ h μ' acc vs, Ext H1 μ1 H' μ' ∧ Rel Γ H' μ' h ∧ L ∉ μ' ∧ H' L = some (.lst vs) ∧ Dens Γ μ' H' vs acc ∧ m = it.items.length - i ∧ i ≤ it.items.length ∧ Good Γ W σ H1 μ1 den Qg ((loopC p ft fe it (wipeD ρ own) (it.items.drop i) acc h).bind k),
    ⟨_, h1, μ1, [], [], Ext.laid hL, r1.laid hL, pL, upd_same, rfl, rfl, Nat.zero_le _, q1⟩, ?_⟩
  rintro i m H' ⟨h, μ', acc, vs, ex, hr', nL, eL, dv, rfl, hi, q⟩
  have heW : EnvOk Γ μ' H' (wipe σ own) (wipeD ρ own) := wipe_env ((he.mono e1).mono ex) own
  by_cases hlt : i < it.items.length
  · have ed : it.items.drop i = it.items[i] :: it.items.drop (i + 1) := List.drop_eq_getElem_cons hlt
    rw [ed] at q
    unfold loopC at q
    split at q
    · rename_i ck
      split at q
      · rename_i ρ1 bp
        obtain ⟨y, _⟩ := y1 H' μ' h ex hr' ck
        obtain ⟨go, yl⟩ := y i _ (List.getElem?_eq_getElem hlt)
        refine .inr ⟨go, fun H'' => ∃ h μ' acc vs, Ext H1 μ1 H'' μ' ∧ Rel Γ H'' μ' h ∧ L ∉ μ' ∧ H'' L = some (.lst vs) ∧ Dens Γ μ' H'' vs acc ∧ Good Γ W σ H1 μ1 den Qg ((loopC p ft fe it (wipeD ρ own) (it.items.drop (i + 1)) acc h).bind k),
          fun H'' ⟨h2, μ2, acc2, vs2, a, b, c, d, e, f⟩ => ⟨it.items.length - (i + 1), by omega, h2, μ2, acc2, vs2, a, b, c, d, e, rfl, hlt, f⟩, fun x H2 yx => ?_⟩
        obtain ⟨e2, r2, d2⟩ := yl x H2 yx
        refine hg x _ (wipe σ own) (wipeD ρ own) ρ1 H2 μ' _ d2 (heW.mono e2) bp fun σ2 ⟨he2, w2⟩ => ⟨?_, ?_⟩
        · rw [w2 own hpo]
          have ww : ∀ (vs us : List Nat) (σ : L2.St), (∀ i ∈ us, i ∈ vs) → wipe (wipe σ vs) us = wipe σ vs := by
            intro vs us
            induction us with
            | nil => intro σ _; rfl
            | cons u us ih =>
              intro σ hu
              show (wipe (wipe σ vs) us).set u none = wipe σ vs
              rw [ih σ fun i hi => hu i (List.mem_cons_of_mem _ hi)]
              have hm : u ∈ vs := hu u List.mem_cons_self
              have key : ∀ (vs : List Nat), u ∈ vs → (wipe σ vs).set u none = wipe σ vs := by
                intro vs
                induction vs with
                | nil => intro h; cases h
                | cons v vs ih2 =>
                  intro h
                  show ((wipe σ vs).set v none).set u none = (wipe σ vs).set v none
                  by_cases hv : u = v
                  · subst hv
                    rw [List.set_set]
                  · rw [List.set_comm _ _ (Ne.symm hv), ih2 (by rcases List.mem_cons.mp h with h | h; exact absurd h hv; exact h)]
              exact key vs hm
          exact ww own own σ fun _ h => h
        · have ex2 := ex.trans e2
          have eL2 : H2 L = some (.lst vs) := e2.keep _ _ eL nL fun ps z => nomatch z
          refine ⟨ρ1, h, μ', he2, r2, ?_⟩
          cases et : ft ρ1 h with
          | ok b h2 =>
            rw [et] at q
            intro b' H3 μ3 e3 r3 hb
            cases (show b' = b from hb)
            have ex3 := ex2.trans e3
            have eL3 : H3 L = some (.lst vs) := e3.keep _ _ eL2 nL fun ps z => nomatch z
            have nL3 : L ∉ μ3 := e3.out eL2 nL
            cases b with
            | false =>
              rw [if_neg Bool.false_ne_true]
              exact ⟨h2, μ3, acc, vs, ex3, r3, nL3, eL3, (dv.mono e2).mono e3, q⟩
            | true =>
              rw [if_pos rfl]
              refine ⟨ρ1, h2, μ3, he2.mono e3, r3, ?_⟩
              have q : Good Γ W σ H1 μ1 den Qg ((match fe ρ1 h2 with
                | .ok y h2 => if acc.length < LINE then loopC p ft fe it (wipeD ρ own) (it.items.drop (i + 1)) (acc ++ [y]) h2 else .stuck
                | _ => .stuck).bind k) := q
              cases ee : fe ρ1 h2 with
              | ok y h4 =>
                rw [ee] at q
                simp only at q
                split at q
                · rename_i hl
                  intro yv H4 μ4 e4 r4 dy
                  have eL4 : H4 L = some (.lst vs) := e4.keep _ _ eL3 nL3 fun ps z => nomatch z
                  have nL4 : L ∉ μ4 := e4.out eL3 nL3
                  have dv4 : Dens Γ μ4 H4 vs acc := ((dv.mono e2).mono e3).mono e4
                  have el : Ext H1 μ1 (upd H4 L (.lst (vs ++ [yv]))) μ4 := by
                    have e0 := ex3.trans e4
                    exact ⟨e0.pre, fun a u ea na t => by rw [upd_ne (ne_of_none ea hL)]; exact e0.keep a u ea na t, fun a ps ea na => by rw [upd_ne (ne_of_none ea hL)]; exact e0.keepT a ps ea na, e0.new⟩
                  have dn : Dens Γ μ4 (upd H4 L (.lst (vs ++ [yv]))) (vs ++ [yv]) (acc ++ [y]) := (dv4.append (Dens.one dy)).mono0 (Ext0.off eL4 nL4)
                  refine ⟨vs, eL4, by rw [line_eq, dv4.length]; exact hl, h4, μ4, acc ++ [y], vs ++ [yv], el, r4.off eL4 nL4, nL4, upd_same, dn, q⟩
                · exact False.elim q
              | err ex2 h4 => rw [ee] at q; exact False.elim q
              | stuck => rw [ee] at q; exact False.elim q
          | err ex2 h4 => rw [et] at q; exact False.elim q
          | stuck => rw [et] at q; exact False.elim q
      · exact False.elim q
    · exact False.elim q
  · have e : i = it.items.length := by omega
    subst e
    rw [List.drop_length] at q
    unfold loopC at q
    split at q
    · rename_i ck
      obtain ⟨_, y⟩ := y1 H' μ' h ex hr' ck
      refine .inl ⟨y _ (Nat.le_refl _), ?_⟩
      exact fin acc h H1 μ1 H' μ' vs L e1 ex hr' dv hL nL eL q
    · exact False.elim q
end
end MP
end
section
set_option Elab.async false
set_option linter.all false
set_option maxRecDepth 100000
set_option maxHeartbeats 1000000
/-! M9: comprehensions as expressions, what they walk. -/
namespace L2
open PySem PySem.Spec PyProof.Rows
def Ends.fz (D : Ends) : Ends := { D with nx := fun σ H => D.nx σ H ∨ ∃ p xs, H p = some (.lst xs) ∧ ∀ o, D.nx σ (upd H p (.frz o (.lst xs))) }
theorem PS.fz {X : Cx} {e : Stmt} {t : TS} (h : PS X e t) : PS X e fun D σ H => t D.fz σ H := ⟨fun pins s σ H D I q => wpAny_mono (h.run pins s σ H _ I q) (fun f s' z => by
  cases f with
  | next =>
    obtain ⟨σ', H', I', q⟩ := z
    rcases q with q | ⟨p, xs, e, q⟩
    · exact ⟨σ', H', I', q⟩
    · obtain ⟨o, I2⟩ := I'.frz e
      exact ⟨_, _, I2, q o⟩
  | _ => exact z) fun _ _ x => x⟩
theorem PG.imp {X : Cx} {e : Expr} {t t' : TG} (h : PG X e t) (i : ∀ v σ H Q, t' v σ H Q → t v σ H Q) : PG X e t' := ⟨fun pins s σ H v u Q I r q => h.run pins s σ H v u Q I r (i _ _ _ _ q)⟩
end L2
namespace MP
open PySem PySem.Spec PyProof.Rows L2
def tP (Γ : G) (p : Pat) : TG := fun v σ H Q => ∃ d ρ ρ' μ, Den Γ μ H v d ∧ EnvOk Γ μ H σ ρ ∧ bindP p d ρ = some ρ' ∧ ∀ σ', PatEnd Γ H μ (patS p) σ σ' ρ' → Q σ' H
theorem FP.pg {X : Cx} {Γ : G} {tg : Expr} {p : Pat} (h : FP X Γ tg p) : PG X tg (tP Γ p) := by
  obtain ⟨t, pg, q⟩ := h.ok
  exact pg.imp fun v σ H Q ⟨d, ρ, ρ', μ, a, b, c, k⟩ => q v d σ ρ ρ' H μ Q a b c k
section
variable {X : Cx} {Γ : G} {W : WX}
theorem lc_t {fi : MI} {p : Pat} {ft : MT} {fe : ME} {own : List Nat} (hpo : ∀ i ∈ patS p, i ∈ own) {σ : L2.St} {H : Hp} {Q : VK} {ρ : Rho} {h : List MO} {μ : List Addr} (he : EnvOk Γ μ H σ ρ) (hr : Rel Γ H μ h)
    {α : Type} {k : List D → List MO → Res α} {den : Hp → List Addr → V → α → Prop} {Qg : V → Hp → Prop} (q : Good Γ W σ H μ den Qg ((xLcA fi p ft fe own ρ h).bind k))
    (fin : ∀ ds h1 Hb μb H1 μ1 vs p, Ext H μ Hb μb → Ext Hb μb H1 μ1 → Rel Γ H1 μ1 h1 → Dens Γ μ1 H1 vs ds → Hb p = none → p ∉ μ1 → H1 p = some (.lst vs) → Good Γ W σ Hb μb den Qg (k ds h1) → Q (.ref p) H1) :
    tLc (tI Γ W fi) (tP Γ p) (tT Γ W0 ft) (tE Γ W0 fe) own σ H Q :=
  lc_run hpo (fun v d σ ρ ρ' H μ Q a b c k => ⟨d, ρ, ρ', μ, a, b, c, k⟩) he hr q fin
/-- the list is known from now on -/
theorem lc_frz {σ : L2.St} {H : Hp} {μ : List Addr} {Q : VK} {ds : List D} {h1 : List MO} {H1 : Hp} {μ1 : List Addr} {vs : List V} {p : Addr} (e : Ext H μ H1 μ1) (r : Rel Γ H1 μ1 h1) (d : Dens Γ μ1 H1 vs ds) (hp : H p = none) (hm : p ∉ μ1) (hl : H1 p = some (.lst vs))
    (q : ∀ v H' μ', Ext H μ H' μ' → Rel Γ H' μ' h1 → Den Γ μ' H' v (.lst ds) → Q v H') (o : Obj) : Q (.ref p) (upd H1 p (.frz o (.lst vs))) := by
  refine q _ _ μ1 ?_ (r.off hl hm) ⟨p, vs, rfl, .inl ⟨hm, o, upd_same⟩, d.mono0 (Ext0.off hl hm)⟩
  exact ⟨e.pre, fun a u ea na t => by rw [upd_ne (ne_of_none ea hp)]; exact e.keep a u ea na t, fun a ps ea na => by rw [upd_ne (ne_of_none ea hp)]; exact e.keepT a ps ea na, e.new⟩
/-- the list comes to the mini heap -/
theorem lc_new {H : Hp} {μ : List Addr} {Q : VK} {ds : List D} {h1 : List MO} {H1 : Hp} {μ1 : List Addr} {vs : List V} {p : Addr} (e : Ext H μ H1 μ1) (r : Rel Γ H1 μ1 h1) (d : Dens Γ μ1 H1 vs ds) (hp : H p = none) (hm : p ∉ μ1) (hl : H1 p = some (.lst vs))
    (q : ∀ v H' μ', Ext H μ H' μ' → Rel Γ H' μ' (h1 ++ [.lst ds]) → Den Γ μ' H' v (.ref h1.length) → Q v H') : Q (.ref p) H1 := by
  have e0 : Ext0 H1 μ1 H1 (μ1 ++ [p]) := ⟨List.prefix_append _ _, fun a u ea _ _ _ => ea, fun a ps ea _ => ⟨ps, ea⟩, fun a m => by
    rcases List.mem_append.mp m with m | m
    · exact .inl m
    · rw [List.mem_singleton.mp m]; exact .inr (.inr ⟨vs, hl⟩)⟩
  refine q _ _ (μ1 ++ [p]) ?_ ?_ ⟨p, rfl, by rw [← r.len, List.getElem?_append_right (Nat.le_refl _), Nat.sub_self]; rfl⟩
  · exact ⟨e.pre.trans (List.prefix_append _ _), e.keep, e.keepT, fun a m => by
      rcases List.mem_append.mp m with m | m
      · exact e.new a m
      · rw [List.mem_singleton.mp m]; exact .inr hp⟩
  · exact {
      len := by rw [List.length_append, List.length_append, r.len]; rfl
      nd := List.nodup_append.mpr ⟨r.nd, by simp, fun a m b m2 z => by
        rw [List.mem_singleton.mp m2] at z
        rw [z] at m
        exact hm m⟩
      ob := fun i a o h1 h2 => by
        by_cases hi : i < μ1.length
        · rw [List.getElem?_append_left hi] at h1
          rw [List.getElem?_append_left (by rw [← r.len]; exact hi)] at h2
          have x := r.ob i a o h1 h2
          cases o with
          | lst es => obtain ⟨us, q, z⟩ := x; exact ⟨us, q, z.mono0 e0⟩
          | dead => exact x
        · have hi2 : i = μ1.length := by
            have := (List.getElem?_eq_some_iff.mp h1).1
            rw [List.length_append] at this
            simp at this
            omega
          subst hi2
          rw [List.getElem?_append_right (Nat.le_refl _), Nat.sub_self] at h1
          rw [r.len, List.getElem?_append_right (Nat.le_refl _), Nat.sub_self] at h2
          cases h1; cases h2
          exact ⟨vs, hl, d.mono0 e0⟩
      tabs := r.tabs
      j := Γ.Jm r.j e0 }
section
variable {elt tg iter : Expr} {ifs : List Expr} {scope : Scope} {own : List (Str × Nat)} {pos : Pos} {fi : MI} {p : Pat} {ft : MT} {fe : ME}
theorem fe_lc (hc : X.calm = true) (hN : X.N.Nodup) (hi : FI X Γ W tg iter fi) (ok : BlkOk X.N X.env.scope scope own) (hpo : ∀ i ∈ patS p, i ∈ own.map (·.2))
    (hg : ∀ s H C cl fp, FP (blkX X scope s H C cl fp) Γ tg p) (ht : ∀ s H C cl fp, FTs (blkX X scope s H C cl fp) Γ W0 ifs ft)
    (he : ∀ s H C cl fp, FE (blkX X scope s H C cl fp) Γ W0 elt fe) (hs : ∀ x, foldedSetIterable iter X.env x = pure x := by intro _; rfl) : FE X Γ W (.ListComp elt [⟨tg, iter, ifs, 0⟩] scope pos) (xLc fi p ft fe (own.map (·.2))) := by
  refine ⟨(pe_lc hc hN hi.ok ok (fun s H C cl fp => (hg s H C cl fp).pg) (fun s H C cl fp => (ht s H C cl fp).ok) (fun s H C cl fp => (he s H C cl fp).ok) hs).fz.imp fun σ H Q q => ?_⟩
  obtain ⟨ρ, h, μ, he, hr, q⟩ := q
  exact lc_t hpo he hr q fun ds h1 Hb μb H1 μ1 vs p eb e r d hp hm hl q => .inr ⟨p, vs, rfl, hl, fun o => lc_frz (σ := σ) e r d hp hm hl q o⟩
theorem fe_lcN (hc : X.calm = true) (hN : X.N.Nodup) (hi : FI X Γ W tg iter fi) (ok : BlkOk X.N X.env.scope scope own) (hpo : ∀ i ∈ patS p, i ∈ own.map (·.2))
    (hg : ∀ s H C cl fp, FP (blkX X scope s H C cl fp) Γ tg p) (ht : ∀ s H C cl fp, FTs (blkX X scope s H C cl fp) Γ W0 ifs ft)
    (he : ∀ s H C cl fp, FE (blkX X scope s H C cl fp) Γ W0 elt fe) (hs : ∀ x, foldedSetIterable iter X.env x = pure x := by intro _; rfl) : FE X Γ W (.ListComp elt [⟨tg, iter, ifs, 0⟩] scope pos) (xLcN fi p ft fe (own.map (·.2))) := by
  refine ⟨(pe_lc hc hN hi.ok ok (fun s H C cl fp => (hg s H C cl fp).pg) (fun s H C cl fp => (ht s H C cl fp).ok) (fun s H C cl fp => (he s H C cl fp).ok) hs).imp fun σ H Q q => ?_⟩
  obtain ⟨ρ, h, μ, he, hr, q⟩ := q
  exact lc_t hpo he hr q fun ds h1 Hb μb H1 μ1 vs p eb e r d hp hm hl q => lc_new e r d hp hm hl q
theorem fs_setLc {i : Nat} {y : Str} {py spos : Pos} (hc : X.calm = true) (hN : X.N.Nodup) (hy : X.N[i]? = some y) (hyl : X.env.scope.names.lookup y = some .local)
    (hsw : swapsWith (.ListComp elt [⟨tg, iter, ifs, 0⟩] scope pos) (some (.Name y py)) spos.line X.env = pure true) (hi : FI X Γ W tg iter fi) (ok : BlkOk X.N X.env.scope scope own) (hpo : ∀ i ∈ patS p, i ∈ own.map (·.2))
    (hg : ∀ s H C cl fp, FP (blkX X scope s H C cl fp) Γ tg p) (ht : ∀ s H C cl fp, FTs (blkX X scope s H C cl fp) Γ W0 ifs ft)
    (he : ∀ s H C cl fp, FE (blkX X scope s H C cl fp) Γ W0 elt fe) (hs : ∀ x, foldedSetIterable iter X.env x = pure x := by intro _; rfl) : FS X Γ W (.Assign [.Name y py] (.ListComp elt [⟨tg, iter, ifs, 0⟩] scope pos) spos) (sSet i (xLc fi p ft fe (own.map (·.2)))) := by
  refine ⟨(ps_setLc hc hN hy hyl hsw hi.ok ok (fun s H C cl fp => (hg s H C cl fp).pg) (fun s H C cl fp => (ht s H C cl fp).ok) (fun s H C cl fp => (he s H C cl fp).ok) hs).fz.imp fun N σ H q => ?_⟩
  obtain ⟨ρ, h, μ, he, hr, q⟩ := q
  have g : Good Γ W σ H μ (denE Γ) (fun x H1 => N.nx (σ.set i (some x)) H1) (xLc fi p ft fe (own.map (·.2)) ρ h) := GoodS.bind he q fun a h1 v H1 μ1 z1 e1 r1 d1 q1 => q1 _ H1 μ1 (Ext.refl _ _) ((he.mono e1).set d1 i) r1
  exact lc_t hpo he hr g fun ds h1 Hb μb H1 μ1 vs p eb e r d hp hm hl q => .inr ⟨p, vs, hl, fun o => lc_frz (σ := σ) (Q := fun x H1 => N.nx (σ.set i (some x)) H1) e r d hp hm hl q o⟩
theorem fs_setLcN {i : Nat} {y : Str} {py spos : Pos} (hc : X.calm = true) (hN : X.N.Nodup) (hy : X.N[i]? = some y) (hyl : X.env.scope.names.lookup y = some .local)
    (hsw : swapsWith (.ListComp elt [⟨tg, iter, ifs, 0⟩] scope pos) (some (.Name y py)) spos.line X.env = pure true) (hi : FI X Γ W tg iter fi) (ok : BlkOk X.N X.env.scope scope own) (hpo : ∀ i ∈ patS p, i ∈ own.map (·.2))
    (hg : ∀ s H C cl fp, FP (blkX X scope s H C cl fp) Γ tg p) (ht : ∀ s H C cl fp, FTs (blkX X scope s H C cl fp) Γ W0 ifs ft)
    (he : ∀ s H C cl fp, FE (blkX X scope s H C cl fp) Γ W0 elt fe) (hs : ∀ x, foldedSetIterable iter X.env x = pure x := by intro _; rfl) : FS X Γ W (.Assign [.Name y py] (.ListComp elt [⟨tg, iter, ifs, 0⟩] scope pos) spos) (sSet i (xLcN fi p ft fe (own.map (·.2)))) := by
  refine ⟨(ps_setLc hc hN hy hyl hsw hi.ok ok (fun s H C cl fp => (hg s H C cl fp).pg) (fun s H C cl fp => (ht s H C cl fp).ok) (fun s H C cl fp => (he s H C cl fp).ok) hs).imp fun N σ H q => ?_⟩
  obtain ⟨ρ, h, μ, he, hr, q⟩ := q
  have g : Good Γ W σ H μ (denE Γ) (fun x H1 => N.nx (σ.set i (some x)) H1) (xLcN fi p ft fe (own.map (·.2)) ρ h) := GoodS.bind he q fun a h1 v H1 μ1 z1 e1 r1 d1 q1 => q1 _ H1 μ1 (Ext.refl _ _) ((he.mono e1).set d1 i) r1
  exact lc_t hpo he hr g fun ds h1 Hb μb H1 μ1 vs p eb e r d hp hm hl q => lc_new (Q := fun x H1 => N.nx (σ.set i (some x)) H1) e r d hp hm hl q
end
end
end MP
end
section
set_option Elab.async false
set_option linter.all false
set_option maxRecDepth 100000
set_option maxHeartbeats 1000000
/-! M10: what is walked. -/
namespace MP
open PySem PySem.Spec PyProof.Rows L2

/-- a list, a tuple or a text -/
def iSq (K : PySem.W.Frag) (te : TE) : TI := fun σ H R => te σ H fun x H1 => (∃ a, x = .ref a ∧ (∃ xs, SqL K H1 a xs) ∧ R (Itl K a) H1) ∨ (∃ a, x = .ref a ∧ (∃ xs, SqT K H1 a xs) ∧ R (Itt K a) H1) ∨ ∃ z, x = .str z ∧ R (Its z) H1
theorem pi_sq {X : Cx} {tg e : Expr} {te : TE} (he : PE X e te) : PI X tg e (iSq X.K te) := by
  refine ⟨fun pins s σ H R I h => ?_⟩
  refine thn (he.run pins s σ H _ I h) fun v s1 ⟨x, H1, I1, r1, q1⟩ => ?_
  rcases q1 with ⟨a, e, ⟨xs, hq⟩, q⟩ | ⟨a, e, ⟨xs, hq⟩, q⟩ | ⟨z, e, q⟩
  · subst e
    cases r1
    obtain ⟨its, rv, p, hz⟩ := I1.list hq
    exact wpAny_pyIter_list p.isList (pi_one (tk := s1.toks) I1 _ (turn_list a _) ⟨_, Heap.get?_push_size _ rfl, rfl, rfl⟩ q)
  · subst e
    cases r1
    obtain ⟨its, rv, p, hz⟩ := I1.tuple hq
    exact wpAny_pyIter_tuple (show s1.heap.IsTuple a its.toArray from p) (pi_one (tk := s1.toks) I1 _ (turn_tuple a _) ⟨_, Heap.get?_push_size _ rfl, rfl, rfl⟩ q)
  · subst e
    obtain ⟨t, rfl⟩ := r1
    cases ha : z.cps.all (· < 128)
    · exact wpAny_pyIter_wide ha (pi_one (tk := s1.toks) I1 _ (turn_str _ z t "str_iterator" (.inr rfl)) ⟨_, Heap.get?_push_size _ rfl, rfl, rfl⟩ q)
    · exact wpAny_pyIter_ascii ha (pi_one (tk := s1.toks) I1 _ (turn_str _ z t "str_ascii_iterator" (.inl rfl)) ⟨_, Heap.get?_push_size _ rfl, rfl, rfl⟩ q)

/-- what a value gives when it is walked -/
def itemsD (h : List MO) : D → Option IterD
  | .lst ds => some ⟨ds, none⟩
  | .tup ds => some ⟨ds, none⟩
  | .str l => some ⟨l.map fun c => .str [c], none⟩
  | .ref i => (hl h i).map fun ds => ⟨ds, some (i, ds)⟩
  | _ => none
def xIt (f : ME) : MI := fun ρ h => (f ρ h).bind fun d h1 => match itemsD h1 d with
  | some it => .ok it h1
  | none => .stuck
section
variable {X : Cx} {Γ : G} {W : WX}
theorem fi_it {tg e : Expr} {f : ME} (hX : CxG X Γ) (he : FE X Γ W e f) : FI X Γ W tg e (xIt f) := by
  refine ⟨PIimp (pi_sq he.ok) fun σ H R q => ?_⟩
  obtain ⟨ρ, h, μ, he, hr, q⟩ := q
  refine ⟨ρ, h, μ, he, hr, Good.bind q fun d h1 v H1 μ1 _ e1 r1 d1 q1 => ?_⟩
  rw [hX.k]
  split at q1
  · rename_i it ei
    cases d with
    | lst ds =>
      cases ei
      obtain ⟨a, vs, rfl, tp, dv⟩ := d1
      refine .inl ⟨a, rfl, ⟨vs, tp.sq⟩, q1 _ _ _ (Ext.refl _ _) r1 ?_⟩
      intro H μ h e r c
      have sq := (tp.mono0 e.to0).sq
      have dv := dv.mono e
      refine ⟨fun i d ed => ?_, fun i hi => ⟨vs, sq, by rw [dv.length]; exact hi⟩⟩
      obtain ⟨v, ev, dvv⟩ := dv.get ed
      refine ⟨⟨vs, v, sq, ev⟩, fun x H' y => ?_⟩
      obtain ⟨rfl, y⟩ := y
      refine ⟨Ext.refl _ _, r, ?_⟩
      have := y vs sq
      rw [ev] at this; cases this
      exact dvv
    | tup ds =>
      cases ei
      obtain ⟨a, vs, rfl, tp, dv⟩ := d1
      refine .inr (.inl ⟨a, rfl, ⟨vs, tp.sq⟩, q1 _ _ _ (Ext.refl _ _) r1 ?_⟩)
      intro H μ h e r c
      have sq := (tp.mono0 e.to0).sq
      have dv := dv.mono e
      refine ⟨fun i d ed => ?_, fun i hi => ⟨vs, sq, by rw [dv.length]; exact hi⟩⟩
      obtain ⟨v, ev, dvv⟩ := dv.get ed
      refine ⟨⟨vs, v, sq, ev⟩, fun x H' y => ?_⟩
      obtain ⟨rfl, y⟩ := y
      refine ⟨Ext.refl _ _, r, ?_⟩
      have := y vs sq
      rw [ev] at this; cases this
      exact dvv
    | str l =>
      cases ei
      cases (show v = _ from d1)
      refine .inr (.inr ⟨S l, rfl, q1 _ _ _ (Ext.refl _ _) r1 ?_⟩)
      intro H μ h e r c
      have hs : (S l).cps.size = l.length := by simp
      refine ⟨fun i d ed => ?_, fun i hi => ?_⟩
      · have hi : i < l.length := by
          have := (List.getElem?_eq_some_iff.mp ed).1
          simpa using this
        refine ⟨by show i < (S l).cps.size; rw [hs]; exact hi, fun x H' y => ?_⟩
        obtain ⟨rfl, c, ec, rfl⟩ := y
        refine ⟨Ext.refl _ _, r, ?_⟩
        have e1 : l[i]? = some c := by simpa using ec
        have e2 : (l.map fun c => D.str [c])[i]? = some d := ed
        rw [List.getElem?_map, e1] at e2
        cases e2
        rfl
      · show (S l).cps.size ≤ i
        rw [hs]
        simpa using hi
    | ref j =>
      have ei' : (hl h1 j).map (fun ds => (⟨ds, some (j, ds)⟩ : IterD)) = some it := ei
      cases q2 : hl h1 j with
      | none => rw [q2] at ei'; cases ei'
      | some ds =>
        rw [q2] at ei'
        cases ei'
        obtain ⟨a, rfl, hm⟩ := d1
        obtain ⟨vs, q3, q4⟩ := r1.ob j a _ hm (hl_iff.mp q2)
        refine .inl ⟨a, rfl, ⟨vs, SqL.of q3⟩, q1 _ _ _ (Ext.refl _ _) r1 ?_⟩
        intro H μ h e r c
        have c' : hl h j = some ds := of_decide_eq_true c
        obtain ⟨t, rfl⟩ := e.pre
        have hm' : (μ1 ++ t)[j]? = some a := by
          rw [List.getElem?_append_left (List.getElem?_eq_some_iff.mp hm).1]; exact hm
        obtain ⟨vs, q5, dv⟩ := r.ob j a _ hm' (hl_iff.mp c')
        have sq : SqL Γ.K H a vs := SqL.of q5
        refine ⟨fun i d ed => ?_, fun i hi => ⟨vs, sq, by rw [dv.length]; exact hi⟩⟩
        obtain ⟨v, ev, dvv⟩ := dv.get ed
        refine ⟨⟨vs, v, sq, ev⟩, fun x H' y => ?_⟩
        obtain ⟨rfl, y⟩ := y
        refine ⟨Ext.refl _ _, r, ?_⟩
        have := y vs sq
        rw [ev] at this; cases this
        exact dvv
    | _ => cases ei
  · exact False.elim q1

/-! ### ranges -/
abbrev big62 (i : Int) : Prop := -4611686018427387904 ≤ i ∧ i < 4611686018427387904
def rangeD (lo : Int) (n : Nat) : List D := (List.range n).map fun (i : Nat) => .int (lo + (i : Int))
def rangeC (lo c : Int) (n : Nat) : List D := (List.range n).map fun (i : Nat) => .int (lo + (i : Int) * c)
def xRange1 (f : MA) : MI := fun ρ h => (f ρ h).bind fun ds h1 => match ds with
  | [.int j] => if big62 j then .ok ⟨rangeD 0 j.toNat, none⟩ h1 else .stuck
  | _ => .stuck
def xRange2 (f : MA) : MI := fun ρ h => (f ρ h).bind fun ds h1 => match ds with
  | [.int i, .int j] => if big62 i ∧ big62 j then .ok ⟨rangeD i (j - i).toNat, none⟩ h1 else .stuck
  | _ => .stuck
/-- how many items range(i, j, c) has -/
def rgN (i j c : Int) : Nat := if 0 < c then (if i < j then ((j - i - 1) / c + 1).toNat else 0) else (if j < i then ((i - j - 1) / (-c) + 1).toNat else 0)
def xRange3 (f : MA) : MI := fun ρ h => (f ρ h).bind fun ds h1 => match ds with
  | [.int i, .int j, .int c] => if decide (c ≠ 0) && decide (c.natAbs < 1073741824) && Builtin.Range.small i j c && decide (Builtin.Range.rangeSize i j c = rgN i j c) then .ok ⟨rangeC i c (rgN i j c), none⟩ h1 else .stuck
  | _ => .stuck
theorem yields_r {H1 : Hp} {μ1 : List Addr} {lo : Int} {n : Nat} : Yields Γ H1 μ1 (Itr lo n) ⟨rangeD lo n, none⟩ := by
  intro H μ h e r c
  refine ⟨fun i d ed => ?_, fun i hi => ?_⟩
  · have hi : i < n := by
      have := (List.getElem?_eq_some_iff.mp ed).1
      simpa [rangeD] using this
    refine ⟨hi, fun x H' y => ?_⟩
    obtain ⟨rfl, rfl⟩ := y
    refine ⟨Ext.refl _ _, r, ?_⟩
    have e2 : ((List.range n).map fun (i : Nat) => D.int (lo + (i : Int)))[i]? = some d := ed
    rw [List.getElem?_map, List.getElem?_range hi] at e2
    cases e2
    rfl
  · show n ≤ i
    simpa [rangeD] using hi
theorem yields_c {H1 : Hp} {μ1 : List Addr} {lo c : Int} {n : Nat} : Yields Γ H1 μ1 (Itc lo c n) ⟨rangeC lo c n, none⟩ := by
  intro H μ h e r ck
  refine ⟨fun i d ed => ?_, fun i hi => ?_⟩
  · have hi : i < n := by
      have := (List.getElem?_eq_some_iff.mp ed).1
      simpa [rangeC] using this
    refine ⟨hi, fun x H' y => ?_⟩
    obtain ⟨rfl, rfl⟩ := y
    refine ⟨Ext.refl _ _, r, ?_⟩
    have e2 : ((List.range n).map fun (i : Nat) => D.int (lo + (i : Int) * c))[i]? = some d := ed
    rw [List.getElem?_map, List.getElem?_range hi] at e2
    cases e2
    rfl
  · show n ≤ i
    simpa [rangeC] using hi
theorem fi_range1 {tg a : Expr} {f : MA} {p pos : Pos} (hg : Gl X "range") (hm : X.mg "range" = none) (ha : FA X Γ W [a] f) (hs : starEach [a] X.env = [(false, eval a X.env)] := by rfl) : FI X Γ W tg (.Call (.Name "range" p) [a] [] pos) (xRange1 f) := by
  refine ⟨PIimp (pi_range1 hg hm ha.ok hs) fun σ H R q => ?_⟩
  obtain ⟨ρ, h, μ, he, hr, q⟩ := q
  refine ⟨ρ, h, μ, he, hr, Good.bind q fun ds h1 vs H1 μ1 z1 e1 r1 d1 q1 => ?_⟩
  split at q1
  · split at q1
    · rename_i hb
      obtain ⟨v, rfl, k1⟩ := dens1 d1
      cases k1
      exact ⟨_, rfl, hb.1, hb.2, q1 _ _ _ (Ext.refl _ _) r1 yields_r⟩
    · exact False.elim q1
  · exact False.elim q1
theorem fi_range2 {tg a b : Expr} {f : MA} {p pos : Pos} (hg : Gl X "range") (hm : X.mg "range" = none) (ha : FA X Γ W [a, b] f) (hs : starEach [a, b] X.env = [(false, eval a X.env), (false, eval b X.env)] := by rfl) (hs2 : starEach [b] X.env = [(false, eval b X.env)] := by rfl) : FI X Γ W tg (.Call (.Name "range" p) [a, b] [] pos) (xRange2 f) := by
  refine ⟨PIimp (pi_range2 hg hm ha.ok hs hs2) fun σ H R q => ?_⟩
  obtain ⟨ρ, h, μ, he, hr, q⟩ := q
  refine ⟨ρ, h, μ, he, hr, Good.bind q fun ds h1 vs H1 μ1 z1 e1 r1 d1 q1 => ?_⟩
  split at q1
  · split at q1
    · rename_i hb
      obtain ⟨v, w, rfl, k1, k2⟩ := dens2 d1
      cases k1; cases k2
      exact ⟨_, _, rfl, ⟨hb.1.1, hb.1.2, hb.2.1, hb.2.2⟩, q1 _ _ _ (Ext.refl _ _) r1 yields_r⟩
    · exact False.elim q1
  · exact False.elim q1
theorem fi_range3 {tg a b c : Expr} {f : MA} {p pos : Pos} (hg : Gl X "range") (hm : X.mg "range" = none) (ha : FA X Γ W [a, b, c] f)
    (hs : starEach [a, b, c] X.env = (false, eval a X.env) :: starEach [b, c] X.env := by rfl) (hpl : (backTo pos (starEach [b, c] X.env)).any (·.1) = false := by rfl) : FI X Γ W tg (.Call (.Name "range" p) [a, b, c] [] pos) (xRange3 f) := by
  refine ⟨PIimp (pi_range3 hg hm ha.ok hs hpl) fun σ H R q => ?_⟩
  obtain ⟨ρ, h, μ, he, hr, q⟩ := q
  refine ⟨ρ, h, μ, he, hr, Good.bind q fun ds h1 vs H1 μ1 z1 e1 r1 d1 q1 => ?_⟩
  split at q1
  · split at q1
    · rename_i hb
      simp only [Bool.and_eq_true, decide_eq_true_eq] at hb
      obtain ⟨⟨⟨b1, b2⟩, b3⟩, b4⟩ := hb
      obtain ⟨v, r, rfl, k1, k2⟩ := d1
      obtain ⟨w, w2, rfl, k2, k3⟩ := dens2 k2
      cases k1; cases k2; cases k3
      exact ⟨_, _, _, _, rfl, ⟨b1, b2, b3, b4⟩, q1 _ _ _ (Ext.refl _ _) r1 yields_c⟩
    · exact False.elim q1
  · exact False.elim q1

/-! ### enumerate -/
def enumD (n : Nat) : List D → List D
  | [] => []
  | d :: ds => .tup [.int (n : Int), d] :: enumD (n + 1) ds
theorem enumD_get : ∀ (ds : List D) (n i : Nat), (enumD n ds)[i]? = ds[i]?.map fun d => .tup [.int ((n + i : Nat) : Int), d]
  | [], n, i => by simp [enumD]
  | d :: ds, n, 0 => by simp [enumD]
  | d :: ds, n, i + 1 => by
    have : n + 1 + i = n + (i + 1) := by omega
    simp [enumD, enumD_get ds (n + 1) i, this]
theorem enumD_len : ∀ (ds : List D) (n : Nat), (enumD n ds).length = ds.length
  | [], n => rfl
  | d :: ds, n => by simp [enumD, enumD_len ds]
/-- enumerate(list) -/
def xEnum (f : MA) : MI := fun ρ h => (f ρ h).bind fun ds h1 => match ds with
  | [.lst es] => .ok ⟨enumD 0 es, none⟩ h1
  | [.ref i] => match hl h1 i with
    | some es => .ok ⟨enumD 0 es, some (i, es)⟩ h1
    | none => .stuck
  | _ => .stuck
theorem fi_enum {e : Expr} {f : MA} {p pos tpos : Pos} {elts : List Expr} {kk : Nat} (hX : CxG X Γ) (hg : Gl X "enumerate") (hm : X.mg "enumerate" = none) (ha : FA X Γ W [e] f) (hs : starEach [e] X.env = [(false, eval e X.env)] := by rfl) :
    FI X Γ W (.Tuple elts kk tpos) (.Call (.Name "enumerate" p) [e] [] pos) (xEnum f) := by
  refine ⟨PIimp (pi_enum hg hm ha.ok hs) fun σ H R q => ?_⟩
  obtain ⟨ρ, h, μ, he, hr, q⟩ := q
  refine ⟨ρ, h, μ, he, hr, Good.bind q fun ds h1 vs H1 μ1 z1 e1 r1 d1 q1 => ?_⟩
  rw [hX.k]
  split at q1
  · rename_i es
    obtain ⟨v, rfl, k1⟩ := dens1 d1
    obtain ⟨a, vs, rfl, tp, dv⟩ := k1
    refine ⟨a, vs, rfl, tp.sq, q1 _ _ _ (Ext.refl _ _) r1 ?_⟩
    intro H μ h e r c
    have sq := (tp.mono0 e.to0).sq
    have dv := dv.mono e
    refine ⟨fun i d ed => ?_, fun i hi => ⟨vs, sq, by rw [dv.length]; rw [enumD_len] at hi; exact hi⟩⟩
    have ed' : (enumD 0 es)[i]? = some d := ed
    rw [enumD_get] at ed'
    cases eg : es[i]? with
    | none => rw [eg] at ed'; cases ed'
    | some d0 =>
      rw [eg] at ed'
      cases ed'
      obtain ⟨v, ev, dvv⟩ := dv.get eg
      refine ⟨⟨vs, v, sq, ev⟩, fun x H' y => ?_⟩
      obtain ⟨T, z, rfl, hT, rfl, y⟩ := y
      have := y vs sq
      rw [ev] at this; cases this
      refine ⟨Ext.laid hT, r.laid hT, T, _, rfl, .inl ⟨r.fresh hT, .inl upd_same⟩, _, _, rfl, ?_, _, _, rfl, dvv.mono (Ext.laid hT), rfl⟩
      show V.int _ = V.int _
      rw [Nat.zero_add]
  · rename_i j
    split at q1
    · rename_i es eh
      obtain ⟨v, rfl, k1⟩ := dens1 d1
      obtain ⟨a, rfl, hm⟩ := k1
      obtain ⟨vs0, q3, q4⟩ := r1.ob j a _ hm (hl_iff.mp eh)
      refine ⟨a, vs0, rfl, SqL.of q3, q1 _ _ _ (Ext.refl _ _) r1 ?_⟩
      intro H μ h e r c
      have c' : hl h j = some es := of_decide_eq_true c
      obtain ⟨t, rfl⟩ := e.pre
      have hm' : (μ1 ++ t)[j]? = some a := by
        rw [List.getElem?_append_left (List.getElem?_eq_some_iff.mp hm).1]; exact hm
      obtain ⟨vs, q5, dv⟩ := r.ob j a _ hm' (hl_iff.mp c')
      have sq : SqL Γ.K H a vs := SqL.of q5
      refine ⟨fun i d ed => ?_, fun i hi => ⟨vs, sq, by rw [dv.length]; rw [enumD_len] at hi; exact hi⟩⟩
      have ed' : (enumD 0 es)[i]? = some d := ed
      rw [enumD_get] at ed'
      cases eg : es[i]? with
      | none => rw [eg] at ed'; cases ed'
      | some d0 =>
        rw [eg] at ed'
        cases ed'
        obtain ⟨v, ev, dvv⟩ := dv.get eg
        refine ⟨⟨vs, v, sq, ev⟩, fun x H' y => ?_⟩
        obtain ⟨T, z, rfl, hT, rfl, y⟩ := y
        have := y vs sq
        rw [ev] at this; cases this
        refine ⟨Ext.laid hT, r.laid hT, T, _, rfl, .inl ⟨r.fresh hT, .inl upd_same⟩, _, _, rfl, ?_, _, _, rfl, dvv.mono (Ext.laid hT), rfl⟩
        show V.int _ = V.int _
        rw [Nat.zero_add]
    · exact False.elim q1
  · exact False.elim q1

/-! ### zip -/
def zipD : List D → List D → List D
  | d :: ds, e :: es => .tup [d, e] :: zipD ds es
  | _, _ => []
theorem zipD_get : ∀ (ds es : List D) (i : Nat) (d : D), (zipD ds es)[i]? = some d → ∃ a b, ds[i]? = some a ∧ es[i]? = some b ∧ d = .tup [a, b]
  | [], _, i, d, h => by simp [zipD] at h
  | a :: ds, [], i, d, h => by simp [zipD] at h
  | a :: ds, b :: es, 0, d, h => by
    simp [zipD] at h
    exact ⟨a, b, rfl, rfl, h.symm⟩
  | a :: ds, b :: es, i + 1, d, h => by
    obtain ⟨x, y, h1, h2, h3⟩ := zipD_get ds es i d (by simpa [zipD] using h)
    exact ⟨x, y, by simpa using h1, by simpa using h2, h3⟩
theorem zipD_len : ∀ (ds es : List D), (zipD ds es).length = min ds.length es.length
  | [], _ => by simp [zipD]
  | a :: ds, [] => by simp [zipD]
  | a :: ds, b :: es => by simp [zipD, zipD_len ds es]
def xZip (f : MA) : MI := fun ρ h => (f ρ h).bind fun ds h1 => match ds with
  | [.lst a, .lst b] => .ok ⟨zipD a b, none⟩ h1
  | [.tup a, .tup b] => .ok ⟨zipD a b, none⟩ h1
  | _ => .stuck
theorem fi_zip {e e2 : Expr} {f : MA} {p pos tpos : Pos} {elts : List Expr} {kk : Nat} (hX : CxG X Γ) (hg : Gl X "zip") (hm : X.mg "zip" = none) (ha : FA X Γ W [e, e2] f)
    (hs : starEach [e, e2] X.env = (false, eval e X.env) :: starEach [e2] X.env := by rfl) (hpl : (backTo pos (starEach [e2] X.env)).any (·.1) = false := by rfl) :
    FI X Γ W (.Tuple elts kk tpos) (.Call (.Name "zip" p) [e, e2] [] pos) (xZip f) := by
  refine ⟨PIimp (RZ.pi_zipA hg hm ha.ok hs hpl) fun σ H R q => ?_⟩
  obtain ⟨ρ, h, μ, he, hr, q⟩ := q
  refine ⟨ρ, h, μ, he, hr, Good.bind q fun ds h1 vs H1 μ1 z1 e1 r1 d1 q1 => ?_⟩
  rw [hX.k]
  have core : ∀ {vs us : List V} {ds es : List D} {μ : List Addr} {H : Hp} {h : List MO}, Dens Γ μ H vs ds → Dens Γ μ H us es → Rel Γ H μ h → ∀ (i : Nat) (d : D), (zipD ds es)[i]? = some d →
      (∃ x y : V, vs[i]? = some x ∧ us[i]? = some y) ∧ ∀ x H', (∃ T x' y', x = .ref T ∧ H T = none ∧ H' = upd H T (.tup [x', y']) ∧ vs[i]? = some x' ∧ us[i]? = some y') → Ext H μ H' μ ∧ Rel Γ H' μ h ∧ Den Γ μ H' x d := by
    intro vs us ds es μ H h dv du r i d ed
    obtain ⟨p, q, e1, e2, rfl⟩ := zipD_get ds es i d ed
    obtain ⟨v, ev, k1⟩ := dv.get e1
    obtain ⟨w, ew, k2⟩ := du.get e2
    refine ⟨⟨v, w, ev, ew⟩, fun x H' ⟨T, x', y', ex, hT, eH, f1, f2⟩ => ?_⟩
    subst ex eH
    rw [ev] at f1; cases f1
    rw [ew] at f2; cases f2
    exact ⟨Ext.laid hT, r.laid hT, T, _, rfl, .inl ⟨r.fresh hT, .inl upd_same⟩, _, _, rfl, k1.mono (Ext.laid hT), _, _, rfl, k2.mono (Ext.laid hT), rfl⟩
  split at q1
  · rename_i a b
    obtain ⟨v, w, rfl, k1, k2⟩ := dens2 d1
    obtain ⟨p1, vs, rfl, tp1, dv⟩ := k1
    obtain ⟨p2, us, rfl, tp2, du⟩ := k2
    refine ⟨p1, p2, vs, us, rfl, .inl ⟨tp1.sq, tp2.sq, q1 _ _ _ (Ext.refl _ _) r1 ?_⟩⟩
    intro H μ h e r c
    have sq1 := (tp1.mono0 e.to0).sq
    have sq2 := (tp2.mono0 e.to0).sq
    have dv := dv.mono e
    have du := du.mono e
    refine ⟨fun i d ed => ?_, fun i hi => ⟨vs, us, sq1, sq2, ?_⟩⟩
    · obtain ⟨⟨x, y, ex, ey⟩, k⟩ := core dv du r i d ed
      exact ⟨⟨vs, us, x, y, sq1, sq2, ex, ey⟩, fun x H' ⟨T, x', y', ex, hT, eH, f1, f2⟩ => k x H' ⟨T, x', y', ex, hT, eH, f1 vs sq1, f2 us sq2⟩⟩
    · rw [zipD_len] at hi
      rw [dv.length, du.length]
      omega
  · rename_i a b
    obtain ⟨v, w, rfl, k1, k2⟩ := dens2 d1
    obtain ⟨p1, vs, rfl, tp1, dv⟩ := k1
    obtain ⟨p2, us, rfl, tp2, du⟩ := k2
    refine ⟨p1, p2, vs, us, rfl, .inr ⟨tp1.sq, tp2.sq, q1 _ _ _ (Ext.refl _ _) r1 ?_⟩⟩
    intro H μ h e r c
    have sq1 := (tp1.mono0 e.to0).sq
    have sq2 := (tp2.mono0 e.to0).sq
    have dv := dv.mono e
    have du := du.mono e
    refine ⟨fun i d ed => ?_, fun i hi => ⟨vs, us, sq1, sq2, ?_⟩⟩
    · obtain ⟨⟨x, y, ex, ey⟩, k⟩ := core dv du r i d ed
      exact ⟨⟨vs, us, x, y, sq1, sq2, ex, ey⟩, fun x H' ⟨T, x', y', ex, hT, eH, f1, f2⟩ => k x H' ⟨T, x', y', ex, hT, eH, f1 vs sq1, f2 us sq2⟩⟩
    · rw [zipD_len] at hi
      rw [dv.length, du.length]
      omega
  · exact False.elim q1
end
end MP
end
section
set_option Elab.async false
set_option linter.all false
set_option maxRecDepth 100000
set_option maxHeartbeats 1000000
/-! M11: defs, calls. -/
namespace L2
open PySem PySem.Spec PyProof.Rows
/-- what is wanted, some lists known from now on -/
inductive Fz (Q : VK) (v : V) : Hp → Prop
  | ok {H : Hp} : Q v H → Fz Q v H
  | frz {H : Hp} (p : Addr) (xs : List V) : H p = some (.lst xs) → (∀ o, Fz Q v (upd H p (.frz o (.lst xs)))) → Fz Q v H
theorem HOk.frz {P : Program} {w : World} {H : Hp} {h : Heap} {p : Addr} {xs : List V} {o : Obj} (k : HOk P w H h) (e : H p = some (.lst xs)) (g : h.get? p = some o) : HOk P w (upd H p (.frz o (.lst xs))) h := fun b u q => by
  by_cases hb : b = p
  · subst hb
    rw [upd_same] at q; cases q
    exact ⟨g, k b _ e⟩
  · rw [upd_ne hb] at q
    exact (k b u q).stay (fun c v _ k => k) (fun c k => by rw [upd_ne (ne_of k e (by intro z; cases z))]; exact k) fun c ys k => by rw [upd_ne (ne_of k e (by intro z; cases z))]; exact k
theorem Un.frz {fs ex : List Addr} {H H' : Hp} {h h' : Heap} {p : Addr} {xs : List V} {o : Obj} (u : Un fs ex H H' h h') (e : H' p = some (.lst xs)) : Un fs ex H (upd H' p (.frz o (.lst xs))) h h' where
  keep := u.keep
  slot := u.slot
  free := fun b ob q n hx => by
    have z := u.free b ob q n hx
    rw [upd_ne (fun y => by rw [y, e] at z; cases z)]; exact z
  there := u.there
  tups := fun b ys q => by
    have k := u.tups b ys q
    rw [upd_ne (ne_of k e (by intro z; cases z))]; exact k
  frzs := fun b o u' q => by
    have k := u.frzs b o u' q
    rw [upd_ne (ne_of k e (by intro z; cases z))]; exact k
  tbls := fun b ps q => by
    obtain ⟨more, k⟩ := u.tbls b ps q
    exact ⟨more, by rw [upd_ne (ne_of k e (by intro z; cases z))]; exact k⟩
theorem CE.fz {outer : List Env} {P : Program} {w : World} {H : Hp} {s s' : Shared} {Q : VK} {u : Value} (c : CE outer P w H s (Fz Q) u s') : CE outer P w H s Q u s' := by
  obtain ⟨v, H', os, bare, un, hok, r, q⟩ := c
  induction q with
  | ok q => exact ⟨v, _, os, bare, un, hok, r, q⟩
  | frz p xs e q ih =>
    obtain ⟨z, its, n, rr, g⟩ := hok p _ e
    exact ih _ (un.frz e) (hok.frz e g)
theorem FnOk.fz {P : Program} {w : World} {K : PySem.W.Frag} {mg : Str → Option Value} {base : Heap} {CX : CXT} {k : Nat} {f : Addr} {fd : FuncData} {ps : List Str} {sp : Sp} (F : FnOk P w K mg base CX k f fd ps sp) :
    FnOk P w K mg base CX k f fd ps fun vs H Q E => sp vs H (Fz Q) E :=
  ⟨fun vs H Q E q => F.len vs H _ E q, fun A outer s H args us vs Q E hr he hb hv hs => codeAny_mono (F.run A outer s H args us vs _ E hr he hb hv hs) fun r s' q => by
    cases r with
    | error e => exact q
    | ok fl => cases fl with
      | ret u => exact CE.fz q
      | _ => exact q⟩
end L2
namespace MP
open PySem PySem.Spec PyProof.Rows L2

/-! ### a def by its mirror -/
abbrev MF := List D → List MO → Res D
def runF (n : Nat) (b : MS) : MF := fun ds h => match b (ds.map some ++ List.replicate (n - ds.length) none) h with
  | .nx _ h1 => .ok .non h1
  | .rt d h1 => .ok d h1
  | .err e _ h1 => .err e h1
  | _ => .stuck
abbrev wE (E : XK) : WX := fun c d _ H => E c d H
def spF (Γ : G) (n : Nat) (f : MF) : Sp := fun vs H Q E => vs.length = n ∧ ∃ ds h μ, Dens Γ μ H vs ds ∧ Rel Γ H μ h ∧ Good Γ (wE E) [] H μ (denE Γ) Q (f ds h)
theorem env_start {Γ : G} {μ : List Addr} {H : Hp} {N : List Str} : ∀ {vs : List V} {ds : List D}, Dens Γ μ H vs ds → EnvOk Γ μ H (L2.start N vs) (ds.map some ++ List.replicate (N.length - ds.length) none) := by
  intro vs ds k
  have hl := k.length
  unfold L2.start
  rw [hl]
  generalize N.length - ds.length = m
  induction ds generalizing vs with
  | nil =>
    rw [show vs = [] from k]
    show EnvOk Γ μ H (List.replicate m none) (List.replicate m none)
    induction m with
    | zero => trivial
    | succ m ih => exact ⟨trivial, ih⟩
  | cons d ds ih =>
    obtain ⟨v, r, rfl, k1, k2⟩ := k
    exact ⟨⟨v, rfl, k1⟩, ih k2 k2.length⟩
theorem fn_mir {Γ : G} {CX : CXT} {P : Program} {w : World} {K : PySem.W.Frag} {mg : Str → Option Value} {base : Heap} {k : Nat} {f : Addr} {name qual : Str} {params : Arguments} {body : List Stmt} {scope : Scope} {dV kV doc pm cdv ct oc : Value} {an od : Option Addr}
    {osl : Array (Option Value)} {N ps : List Str} {b : MS} (lk : K.lookup f = some ⟨oc, od, .func (PySem.W.fnOf name qual params body scope dV kV doc pm an cdv ct), osl⟩) (hcd : PySem.W.codeIn K cdv qual = true) (S : FnScope N ps scope)
    (hbody : ∀ (A : Around) (outer : List Env) (s : Shared) (H : Hp) (E : XK), Room k (A.deeper (envOfC qual scope s.heap.objs.size f cdv)) → FSs (cxOf CX P w K mg base N qual scope f cdv A outer s H E) Γ (wE E) body b) :
    FnOk P w K mg base CX (k + 1) f (PySem.W.fnOf name qual params body scope dV kV doc pm an cdv ct) ps (spF Γ ps.length (runF N.length b)) := by
  refine fn_of lk hcd S (fun vs H Q E h => h.1) fun A outer s H vs Q E hr h => ⟨_, (hbody A outer s H E hr).ok, ?_⟩
  obtain ⟨hl, ds, h, μ, dv, r, q⟩ := h
  refine ⟨_, h, μ, env_start dv, r, ?_⟩
  unfold runF at q
  cases eb : b (ds.map some ++ List.replicate (N.length - ds.length) none) h with
  | nx ρ h1 => rw [eb] at q; exact fun σ' H' μ' e1 he1 hr1 => q .non H' μ' e1 hr1 rfl
  | rt d h1 => rw [eb] at q; exact q
  | err e ρ h1 => rw [eb] at q; exact fun c d σ' H' μ' e1 he1 hr1 x => q c d H' μ' e1 hr1 x
  | bk _ _ => rw [eb] at q; exact False.elim q
  | ct _ _ => rw [eb] at q; exact False.elim q
  | stuck => rw [eb] at q; exact False.elim q

/-! ### values below a mark; lists made known -/
mutual
def belowD (n : Nat) : D → Bool
  | .ref i => decide (i < n)
  | .tup ds => belowDs n ds
  | .lst ds => belowDs n ds
  | .clo _ cs => belowDs n cs
  | _ => true
def belowDs (n : Nat) : List D → Bool
  | [] => true
  | d :: ds => belowD n d && belowDs n ds
end
/-- the lists at as are known in H2 -/
structure FrzOf (as : List Addr) (H H2 : Hp) : Prop where
  off : ∀ b, b ∉ as → H2 b = H b
  on : ∀ b ∈ as, ∃ o xs, H b = some (.lst xs) ∧ H2 b = some (.frz o (.lst xs))
theorem fz_all {Q : VK} {v : V} : ∀ (as : List Addr) {H : Hp}, as.Nodup → (∀ a ∈ as, ∃ xs, H a = some (.lst xs)) → (∀ H2, FrzOf as H H2 → Q v H2) → Fz Q v H
  | [], H, _, _, q => .ok (q H ⟨fun _ _ => rfl, fun _ h => nomatch h⟩)
  | a :: as, H, nd, h, q => by
    obtain ⟨xs, e⟩ := h a List.mem_cons_self
    have na := (List.nodup_cons.mp nd).1
    refine .frz a xs e fun o => fz_all as (List.nodup_cons.mp nd).2 (fun b hb => ?_) fun H2 f => q H2 ⟨fun b hb => ?_, fun b hb => ?_⟩
    · obtain ⟨ys, e2⟩ := h b (List.mem_cons_of_mem _ hb)
      exact ⟨ys, by rw [upd_ne (fun (z : b = a) => na (z ▸ hb))]; exact e2⟩
    · rw [f.off b fun z => hb (List.mem_cons_of_mem _ z), upd_ne fun (z : b = a) => hb (z ▸ List.mem_cons_self)]
    · by_cases z : b = a
      · subst z
        refine ⟨o, xs, e, ?_⟩
        rw [f.off b na, upd_same]
      · rcases List.mem_cons.mp hb with hb | hb
        · exact absurd hb z
        · obtain ⟨o2, ys, e1, e2⟩ := f.on b hb
          rw [upd_ne z] at e1
          exact ⟨o2, ys, e1, e2⟩
section
variable {Γ : G} {μ : List Addr} {n : Nat}
/-- beneath the mark nothing is lost when the later lists become known -/
theorem frz_ext {as : List Addr} {H H2 : Hp} (f : FrzOf as H H2) : Ext0 H μ H2 μ where
  pre := List.prefix_refl _
  keep0 := fun a u h _ _ l => by
    by_cases m : a ∈ as
    · obtain ⟨o, xs, e, _⟩ := f.on a m
      rw [e] at h; cases h; exact absurd rfl (l xs)
    · rw [f.off a m]; exact h
  keepT := fun a ps h _ => by
    by_cases m : a ∈ as
    · obtain ⟨o, xs, e, _⟩ := f.on a m
      rw [e] at h; cases h
    · exact ⟨ps, by rw [f.off a m]; exact h⟩
  new := fun a m => .inl m
mutual
theorem Den.take (hn : n ≤ μ.length) : ∀ {d : D} {H : Hp} {v : V}, Den Γ μ H v d → belowD n d = true → Den Γ (μ.take n) H v d
  | .non, _, _, h, _ => h
  | .bl _, _, _, h, _ => h
  | .int _, _, _, h, _ => h
  | .str _, _, _, h, _ => h
  | .tup ds, _, _, h, b => by
    obtain ⟨a, vs, e1, q, r⟩ := h
    refine ⟨a, vs, e1, ?_, Dens.takeN hn r b⟩
    rcases q with ⟨q1, q2⟩ | q
    · exact .inl ⟨fun z => q1 (List.mem_of_mem_take z), q2⟩
    · exact .inr q
  | .lst ds, _, _, h, b => by
    obtain ⟨a, vs, e1, q, r⟩ := h
    refine ⟨a, vs, e1, ?_, Dens.takeN hn r b⟩
    rcases q with ⟨q1, q2⟩ | q
    · exact .inl ⟨fun z => q1 (List.mem_of_mem_take z), q2⟩
    · exact .inr q
  | .ref i, _, _, h, b => by
    obtain ⟨a, e1, q⟩ := h
    have hi : i < n := of_decide_eq_true b
    exact ⟨a, e1, by rw [List.getElem?_take_of_lt hi]; exact q⟩
  | .glo _, _, _, h, _ => h
  | .clo k cs, _, _, h, b => by
    obtain ⟨f, cells, vs, e1, q, r⟩ := h
    refine ⟨f, cells, vs, e1, ?_, Dens.takeN hn r b⟩
    obtain ⟨I, clos, pm, ctv, c', h1, h2, h3, h4, h5, h6, h7⟩ := q.obj
    exact ⟨⟨I, clos, pm, ctv, c', h1, h2, h3, h4, h5, h6, fun z => h7 (List.mem_of_mem_take z)⟩, ⟨fun z => q.fm.1 (List.mem_of_mem_take z), q.fm.2⟩, q.nd, fun c hc z => q.cm c hc (List.mem_of_mem_take z), q.len, q.val⟩
theorem Dens.takeN (hn : n ≤ μ.length) : ∀ {ds : List D} {H : Hp} {vs : List V}, Dens Γ μ H vs ds → belowDs n ds = true → Dens Γ (μ.take n) H vs ds
  | [], _, _, h, _ => h
  | d :: ds, _, _, h, b => by
    obtain ⟨v, r, e1, q, t⟩ := h
    have b' : (belowD n d && belowDs n ds) = true := b
    rw [Bool.and_eq_true] at b'
    exact ⟨v, r, e1, Den.take hn q b'.1, Dens.takeN hn t b'.2⟩
end
/-- a value with the later lists put in -/
def deF (n : Nat) (h : List MO) : Nat → D → Option D
  | 0, _ => none
  | k + 1, d => match d with
    | .ref i => if i < n then some (.ref i) else match hl h i with
      | some ds => (ds.mapM (deF n h k)).map .lst
      | none => none
    | .tup ds => (ds.mapM (deF n h k)).map .tup
    | .lst ds => (ds.mapM (deF n h k)).map .lst
    | d => if belowD n d then some d else none
def deD (n : Nat) (h : List MO) (d : D) : Option D := if belowD n d then some d else deF n h 9 d
theorem deF_ok {H H2 : Hp} {h : List MO} (r : Rel Γ H μ h) (hn : n ≤ μ.length) (f : FrzOf (μ.drop n) H H2) : ∀ (k : Nat) (d d2 : D) (v : V), Den Γ μ H v d → deF n h k d = some d2 → Den Γ (μ.take n) H2 v d2
  | 0, _, _, _, _, e => by unfold deF at e; cases e
  | k + 1, d, d2, v, q, e => by
    have lists : ∀ (ds es : List D) (vs : List V), Dens Γ μ H vs ds → ds.mapM (deF n h k) = some es → Dens Γ (μ.take n) H2 vs es := by
      intro ds
      induction ds with
      | nil => intro es vs q e; simp at e; subst e; exact q
      | cons d ds ih =>
        intro es vs q e
        obtain ⟨v, t, rfl, q1, q2⟩ := q
        rw [List.mapM_cons] at e
        cases e1 : deF n h k d with
        | none => rw [e1] at e; cases e
        | some x =>
          rw [e1] at e
          cases e2 : ds.mapM (deF n h k) with
          | none => simp [e2] at e
          | some xs =>
            simp [e2] at e
            subst e
            exact ⟨v, t, rfl, deF_ok r hn f k d x v q1 e1, ih xs t q2 e2⟩
    have ext : Ext0 H (μ.take n) H2 (μ.take n) := frz_ext f
    have low : ∀ d, Den Γ μ H v d → (if belowD n d then some d else none) = some d2 → Den Γ (μ.take n) H2 v d2 := fun d q e => by
      split at e
      · rename_i b
        cases e
        exact (q.take hn b).mono0 ext
      · cases e
    unfold deF at e
    cases d with
    | ref i =>
      obtain ⟨a, rfl, hm⟩ := q
      simp only at e
      split at e
      · rename_i hi
        cases e
        exact ⟨a, rfl, by rw [List.getElem?_take_of_lt hi]; exact hm⟩
      · rename_i hi
        split at e
        · rename_i ds eh
          cases em : ds.mapM (deF n h k) with
          | none => rw [em] at e; cases e
          | some es =>
            rw [em] at e; cases e
            obtain ⟨vs, q1, q2⟩ := r.ob i a _ hm (hl_iff.mp eh)
            have md : a ∈ μ.drop n := by
              refine List.mem_of_getElem? (i := i - n) ?_
              rw [List.getElem?_drop]
              have : n + (i - n) = i := by omega
              rw [this]; exact hm
            obtain ⟨o, xs, e1, e2⟩ := f.on a md
            rw [q1] at e1; cases e1
            refine ⟨a, vs, rfl, .inl ⟨fun z => ?_, o, e2⟩, lists ds es vs q2 em⟩
            have nd := r.nd
            rw [← List.take_append_drop n μ] at nd
            exact (List.nodup_append.mp nd).2.2 a z a md rfl
        · cases e
    | tup ds =>
      obtain ⟨a, vs, rfl, tp, dv⟩ := q
      cases em : ds.mapM (deF n h k) with
      | none => simp [em] at e
      | some es =>
        simp [em] at e
        subst e
        refine ⟨a, vs, rfl, ?_, lists ds es vs dv em⟩
        have tp2 : TupM Γ H (μ.take n) a vs := by
          rcases tp with ⟨q1, q2⟩ | q
          · exact .inl ⟨fun z => q1 (List.mem_of_mem_take z), q2⟩
          · exact .inr q
        exact tp2.mono0 ext
    | lst ds =>
      obtain ⟨a, vs, rfl, tp, dv⟩ := q
      cases em : ds.mapM (deF n h k) with
      | none => simp [em] at e
      | some es =>
        simp [em] at e
        subst e
        refine ⟨a, vs, rfl, ?_, lists ds es vs dv em⟩
        have tp2 : LstM Γ H (μ.take n) a vs := by
          rcases tp with ⟨q1, q2⟩ | q
          · exact .inl ⟨fun z => q1 (List.mem_of_mem_take z), q2⟩
          · exact .inr q
        exact tp2.mono0 ext
    | non => exact low _ q e
    | bl _ => exact low _ q e
    | int _ => exact low _ q e
    | str _ => exact low _ q e
    | glo _ => exact low _ q e
    | clo _ _ => exact low _ q e
theorem deD_ok {H H2 : Hp} {h : List MO} (r : Rel Γ H μ h) (hn : n ≤ μ.length) (f : FrzOf (μ.drop n) H H2) {d d2 : D} {v : V} (q : Den Γ μ H v d) (e : deD n h d = some d2) : Den Γ (μ.take n) H2 v d2 := by
  unfold deD at e
  split at e
  · rename_i b
    cases e
    exact (q.take hn b).mono0 (frz_ext f)
  · exact deF_ok r hn f 9 d d2 v q e
end
/-! ### what a call leaves is cut off -/
def belowM (n : Nat) : MO → Bool
  | .lst ds => belowDs n ds
  | .dead => true
theorem below_get {n : Nat} : ∀ {h : List MO} {i : Nat} {o : MO}, h.all (belowM n) = true → h[i]? = some o → belowM n o = true := fun {h i o} a e => List.all_eq_true.mp a o (List.mem_of_getElem? e)
section
variable {Γ : G} {H H' : Hp} {μ μ' : List Addr} {h h' : List MO}
theorem cut_pre (r : Rel Γ H μ h) (e : Ext H μ H' μ') : μ'.take h.length = μ := by
  obtain ⟨t, rfl⟩ := e.pre
  rw [← r.len, List.take_left]
theorem cut_ext (e : Ext H μ H' μ') : Ext H μ H' μ := ⟨List.prefix_refl _, e.keep, e.keepT, fun _ m => .inl m⟩
theorem cut_rel (r : Rel Γ H μ h) (e : Ext H μ H' μ') (r' : Rel Γ H' μ' h') (b : (h'.take h.length).all (belowM h.length) = true) : Rel Γ H' μ (h'.take h.length) := by
  have ep := cut_pre r e
  have hn : h.length ≤ μ'.length := by rw [← r.len]; exact e.pre.length_le
  exact {
    len := by rw [List.length_take, ← r'.len, r.len]; omega
    nd := r.nd
    ob := fun i a o h1 h2 => by
      rw [← ep] at h1
      have hi : i < h.length := by
        have := (List.getElem?_eq_some_iff.mp h1).1
        rw [List.length_take] at this
        omega
      rw [List.getElem?_take_of_lt hi] at h1
      have x := r'.ob i a o h1 (by rw [List.getElem?_take_of_lt hi] at h2; exact h2)
      have bo := below_get b h2
      cases o with
      | lst ds =>
        obtain ⟨vs, q, z⟩ := x
        refine ⟨vs, q, ?_⟩
        rw [← ep]
        exact z.takeN hn bo
      | dead => exact x
    tabs := r'.tabs
    j := Γ.Jm r.j (cut_ext e).to0 }
theorem cut_new (r : Rel Γ H μ h) (e : Ext H μ H' μ') (r' : Rel Γ H' μ' h') : ∀ a ∈ μ'.drop h.length, H a = none ∧ a ∉ μ := fun a m => by
  have ep := cut_pre r e
  have nd := r'.nd
  rw [← List.take_append_drop h.length μ', ep] at nd
  have na : a ∉ μ := fun z => (List.nodup_append.mp nd).2.2 a z a m rfl
  exact ⟨(e.new a (List.mem_of_mem_drop m)).resolve_left na, na⟩
theorem frz_rel {as : List Addr} {H2 : Hp} (r : Rel Γ H μ h) (f : FrzOf as H H2) (na : ∀ a ∈ as, a ∉ μ) : Rel Γ H2 μ h where
  len := r.len
  nd := r.nd
  ob := fun i a o h1 h2 => by
    have x := r.ob i a o h1 h2
    have m : a ∉ as := fun z => na a z (List.mem_of_getElem? h1)
    cases o with
    | lst ds => obtain ⟨vs, q, z⟩ := x; exact ⟨vs, by rw [f.off a m]; exact q, z.mono0 (frz_ext f)⟩
    | dead => obtain ⟨vs, q⟩ := x; exact ⟨vs, by rw [f.off a m]; exact q⟩
  tabs := fun q hq => by
    obtain ⟨ps, h1, h2, h3⟩ := r.tabs q hq
    have nn : ∀ b o, H b = some o → (∀ vs, o ≠ .lst vs) → b ∉ as := fun b o e t z => by
      obtain ⟨o', xs, e1, _⟩ := f.on b z
      rw [e] at e1; cases e1; exact t xs rfl
    refine ⟨ps, by rw [f.off _ (nn _ _ h1 fun vs z => nomatch z)]; exact h1, h2, fun pos cv hc => ?_⟩
    obtain ⟨c, e1, e2⟩ := h3 pos cv hc
    exact ⟨c, e1, by rw [f.off _ (nn _ _ e2 fun vs z => nomatch z)]; exact e2⟩
  j := Γ.Jm r.j (frz_ext f)
theorem frz_ext1 {as : List Addr} {H2 : Hp} (e : Ext H μ H' μ) (f : FrzOf as H' H2) (na : ∀ a ∈ as, H a = none) : Ext H μ H2 μ where
  pre := List.prefix_refl _
  keep := fun a u h1 n t => by
    rw [f.off a fun z => by rw [na a z] at h1; cases h1]; exact e.keep a u h1 n t
  keepT := fun a ps h1 n => by
    rw [f.off a fun z => by rw [na a z] at h1; cases h1]; exact e.keepT a ps h1 n
  new := fun a m => .inl m
end
/-- the callee's own lists fall away -/
def cutF (f : MF) : MF := fun ds h => match f ds h with
  | .ok d h1 => match deD h.length h1 d with
    | some d2 => if (h1.take h.length).all (belowM h.length) then .ok d2 (h1.take h.length) else .stuck
    | none => .stuck
  | .err e h1 => if (h1.take h.length).all (belowM h.length) && belowDs h.length (e.fs.map (·.2)) then .err e (h1.take h.length) else .stuck
  | .stuck => .stuck
/-- on a heap of its own -/
def pureF (f : MF) : MF := fun ds h => if belowDs 0 ds then match f ds [] with
  | .ok d h1 => match deD 0 h1 d with
    | some d2 => .ok d2 h
    | none => .stuck
  | .err e h1 => if belowDs 0 (e.fs.map (·.2)) then .err e h else .stuck
  | .stuck => .stuck
  else .stuck
theorem spF_cut {Γ : G} {n : Nat} {f : MF} {vs : List V} {H : Hp} {Q : VK} {E : XK} (q : spF Γ n (cutF f) vs H Q E) : spF Γ n f vs H (Fz Q) E := by
  obtain ⟨hl, ds, h, μ, dv, r, q⟩ := q
  refine ⟨hl, ds, h, μ, dv, r, ?_⟩
  unfold cutF at q
  cases ef : f ds h with
  | ok d h1 =>
    rw [ef] at q
    simp only at q
    split at q
    · rename_i d2 e2
      split at q
      · rename_i hb
        intro v H' μ' e r' dd
        have nw := cut_new r e r'
        have ep := cut_pre r e
        have hn : h.length ≤ μ'.length := by rw [← r.len]; exact e.pre.length_le
        refine fz_all (μ'.drop h.length) (r'.nd.sublist (List.drop_sublist _ _)) (fun a m => r'.mem (List.mem_of_mem_drop m)) fun H2 f2 => ?_
        refine q v H2 μ (frz_ext1 (cut_ext e) f2 fun a m => (nw a m).1) (frz_rel (cut_rel r e r' hb) f2 fun a m => (nw a m).2) ?_
        have := deD_ok r' hn f2 dd e2
        rw [ep] at this
        exact this
      · exact False.elim q
    · exact False.elim q
  | err ex h1 =>
    rw [ef] at q
    simp only at q
    split at q
    · rename_i hb
      rw [Bool.and_eq_true] at hb
      intro cls dd H' μ' e r' x
      have ep := cut_pre r e
      have hn : h.length ≤ μ'.length := by rw [← r.len]; exact e.pre.length_le
      refine q cls dd H' μ (cut_ext e) (cut_rel r e r' hb.1) ?_
      obtain ⟨C, dx, us, e1, e2, e3, e4, e5⟩ := x
      have := e5.takeN hn hb.2
      rw [ep] at this
      exact ⟨C, dx, us, e1, e2, e3, e4, this⟩
    · exact False.elim q
  | stuck => rw [ef] at q; exact False.elim q
theorem up {Γ : G} {H : Hp} {μ : List Addr} {h : List MO} (r : Rel Γ H μ h) : Ext0 H [] H μ := ⟨List.nil_prefix, fun _ _ h _ _ _ => h, fun _ ps h _ => ⟨ps, h⟩, fun a m => .inr (.inr (r.mem m))⟩
theorem spF_pure {Γ : G} {n : Nat} {f : MF} {vs : List V} {H : Hp} {Q : VK} {E : XK} (q : spF Γ n (pureF f) vs H Q E) : spF Γ n f vs H (Fz Q) E := by
  obtain ⟨hl, ds, h, μ, dv, r, q⟩ := q
  unfold pureF at q
  split at q
  · rename_i hb
    have dv0 : Dens Γ [] H vs ds := by
      have := dv.takeN (n := 0) (Nat.zero_le _) hb
      exact this
    have r0 : Rel Γ H [] [] := ⟨rfl, List.nodup_nil, fun i a o h1 _ => by simp at h1, r.tabs, Γ.Jd r.j fun _ m => nomatch m⟩
    have back : ∀ {H'' : Hp}, Ext H [] H'' [] → LamX.Tabs Γ.T H'' → Rel Γ H'' μ h ∧ Ext H μ H'' μ := fun {H''} e t => by
      have e' : Ext H μ H'' μ := ⟨List.prefix_refl _, (fun a u h1 _ t => e.keep a u h1 (fun m => nomatch m) t), (fun a ps h1 _ => e.keepT a ps h1 (fun m => nomatch m)), (fun _ m => .inl m)⟩
      exact ⟨r.grow e' (fun a m => by
        obtain ⟨vs, q⟩ := r.mem m
        rw [q]
        exact e.keep a _ q (fun m => nomatch m) fun ps z => nomatch z) t, e'⟩
    refine ⟨hl, ds, [], [], dv0, r0, ?_⟩
    cases ef : f ds [] with
    | ok d h1 =>
      rw [ef] at q
      simp only at q
      split at q
      · rename_i d2 e2
        intro v H' μ' e r' dd
        have nw := cut_new r0 e r'
        refine fz_all μ' r'.nd (fun a m => r'.mem m) fun H2 f2 => ?_
        have eH : Ext H [] H2 [] := frz_ext1 (cut_ext e) f2 fun a m => (nw a m).1
        have r2 : Rel Γ H2 [] [] := frz_rel (cut_rel r0 e r' (by rfl)) f2 fun a m z => nomatch z
        obtain ⟨rr, ee⟩ := back eH r2.tabs
        refine q v H2 μ ee rr ?_
        have k := deD_ok (n := 0) r' (Nat.zero_le _) f2 dd e2
        exact k.mono0 (up rr)
      · exact False.elim q
    | err ex h1 =>
      rw [ef] at q
      simp only at q
      split at q
      · rename_i hb2
        intro cls dd H' μ' e r' x
        obtain ⟨rr, ee⟩ := back (cut_ext e) r'.tabs
        refine q cls dd H' μ ee rr ?_
        obtain ⟨C, dx, us, e1, e2, e3, e4, e5⟩ := x
        have k := e5.takeN (n := 0) (Nat.zero_le _) hb2
        exact ⟨C, dx, us, e1, e2, e3, e4, Dens.mono0 (μ := []) k (up rr)⟩
      · exact False.elim q
    | stuck => rw [ef] at q; exact False.elim q
  · exact False.elim q
end MP
end
section
set_option Elab.async false
set_option linter.all false
set_option maxRecDepth 100000
set_option maxHeartbeats 1000000
/-! M12: calls of defs. -/
namespace MP
open PySem PySem.Spec PyProof.Rows L2

/-- a list of arguments has m values -/
def LenA (f : MA) (m : Nat) : Prop := ∀ ρ h ds h1, f ρ h = .ok ds h1 → ds.length = m
theorem len_nil : LenA aNil 0 := fun ρ h ds h1 e => by cases e; rfl
theorem len_cons {f : ME} {g : MA} {m : Nat} (k : LenA g m) : LenA (aCons f g) (m + 1) := fun ρ h ds h1 e => by
  unfold aCons Res.bind at e
  cases ef : f ρ h with
  | ok d h2 =>
    rw [ef] at e
    simp only at e
    cases eg : g ρ h2 with
    | ok es h3 =>
      rw [eg] at e
      cases e
      rw [List.length_cons, k _ _ _ _ eg]
    | err _ _ => rw [eg] at e; cases e
    | stuck => rw [eg] at e; cases e
  | err _ _ => rw [ef] at e; cases e
  | stuck => rw [ef] at e; cases e
/-- keywords' values -/
structure FK (X : Cx) (Γ : G) (W : WX) (kws : List Keyword) (f : MA) : Prop where
  ok : PK X kws (tA Γ W f)
def xCall (g : MF) (dds : List D) (fa : MA) : ME := fun ρ h => (fa ρ h).bind fun ds h1 => g (ds ++ dds) h1
/-- where a parameter's value comes from -/
inductive Src where
  | pos (i : Nat) | kw (i : Nat) | df (d : D)
def Src.pick (ds es : List D) : Src → D
  | .pos i => ds.getD i .non
  | .kw i => es.getD i .non
  | .df d => d
def xCallK (g : MF) (src : List Src) (fa fk : MA) : ME := fun ρ h => (fa ρ h).bind fun ds h1 => (fk ρ h1).bind fun es h2 => g (src.map (Src.pick ds es)) h2
theorem takes0 {X : Cx} : Takes X W0 := fun _ _ ⟨_, _, _, _, _, _, _, _, _, _, _, _, _, _, _, _, w⟩ => False.elim w
section
variable {X : Cx} {Γ : G} {W : WX} {k n : Nat} {f : Addr} {fd : FuncData} {ps ks : List Str} {sp : Sp} {x : Str} {p pos : Pos} {e : Expr} {es : List Expr} {kws : List Keyword} {fa fk : MA} {dvs : List V} {ds : List Value} {dds : List D} {fm : MF}
theorem fk_nil : FK X Γ W [] aNil := ⟨⟨fun pos pins s σ H Q I q => pk_nil.run pos pins s σ H Q I (by
  obtain ⟨ρ, h, μ, he, hr, q⟩ := q
  exact q [] H μ (Ext.refl _ _) hr rfl)⟩⟩
theorem fk_cons {nm : Option Str} {kpos : Pos} {fe : ME} (he : FE X Γ W e fe) (hk : FK X Γ W kws fk) : FK X Γ W (⟨nm, e, kpos⟩ :: kws) (aCons fe fk) := ⟨⟨fun pos pins s σ H Q I q => (pk_cons he.ok hk.ok).run pos pins s σ H Q I (by
  obtain ⟨ρ, h, μ, he, hr, q⟩ := q
  refine ⟨ρ, h, μ, he, hr, Good.bind q fun a h1 v H1 μ1 z1 e1 r1 d1 q1 => ?_⟩
  refine ⟨ρ, h1, μ1, he.mono e1, r1, Good.bind q1 fun b h2 w H2 μ2 z2 e2 r2 d2 q2 => ?_⟩
  exact q2 _ _ _ (Ext.refl _ _) r2 ⟨v, w, rfl, d1.mono e2, d2⟩)⟩⟩
/-- the callee runs -/
theorem run_fnW {pins : List (Addr × Obj)} {σ : L2.St} {H : Hp} {s : Shared} {Q : VK} {us : List Value} {vs : List V} {args : Args} (F : FnOk X.prog X.w X.K X.mg X.base (CX X.prog X.w) k f fd ps sp) (hr : Room k X.A) (tk : Takes X W)
    (I : Inv X pins σ H s) (hb : BindsTo s fd args (ps.zip us)) (r : Vals vs us) (h : sp vs H Q fun c d H' => W c d σ H') : wpAny (model X.prog X.w) X.A (call (.ref f) args.pos args.kw) (EP X pins σ Q) X.xe s := by
  refine wpAny_call (codeAny_mono (F.run X.A X.stack s H args us vs Q _ hr I.env0 hb r h) fun r s' hq => ?_)
  cases r with
  | error e => exact tk e s' (XE.of_call I (fun _ _ _ h => h) hq)
  | ok fl =>
    cases fl with
    | ret u => exact I.after hq
    | next => exact False.elim hq
    | brk => exact False.elim hq
    | cont => exact False.elim hq
theorem fe_call (F : FnOk X.prog X.w X.K X.mg X.base (CX X.prog X.w) k f fd ps (spF Γ ps.length fm)) (hr : Room k X.A) (tk : Takes X W) (hg : Gl X x) (hm : X.mg x = some (.ref f)) (hk : PySem.W.keepIn X.K (.ref f) = true) (hb : Binds X.K fd ps ds) (hd : Vals dvs ds) (hdd : ∀ μ H, Dens Γ μ H dvs dds)
    (ha : FA X Γ W (e :: es) fa) {m : Nat} (hl : LenA fa m) (hn : m + dds.length = ps.length) (hdb : (x == ("__debug__" : Str)) = false := by decide) (he : starEach (e :: es) X.env = (false, eval e X.env) :: starEach es X.env := by rfl) (hpl : (backTo pos (starEach es X.env)).any (·.1) = false := by rfl) :
    FE X Γ W (.Call (.Name x p) (e :: es) [] pos) (xCall fm dds fa) := by
  refine ⟨⟨fun pins s σ H Q I q => ?_⟩⟩
  obtain ⟨ρ, h, μ, heq, hrr, q⟩ := q
  refine wpAny_Call_Name_kw (ld_glob I hg hm ?_ hdb)
  have tq : tA Γ W fa σ H fun vs H1 => vs.length = m ∧ spF Γ ps.length fm (vs ++ dvs) H1 Q fun c d H' => W c d σ H' := by
    refine ⟨ρ, h, μ, heq, hrr, Good.bind q fun a h1 v H1 μ1 z1 e1 r1 d1 q1 => ?_⟩
    have l := hl _ _ _ _ z1
    have l2 := d1.length
    have l3 := (hdd μ1 H1).length
    exact ⟨l2.trans l, by rw [List.length_append]; omega, a ++ dds, h1, μ1, d1.append (hdd μ1 H1), r1, q1⟩
  refine PySem.W.callWith_K (h₀ := X.base) I.ok.mod.kin hk (thn (ha.ok.run pos pins s σ H _ I tq) fun us s1 ⟨vs, H1, I1, r, l, q⟩ => ⟨I1.kIn, ?_⟩) he hpl
  have r2 : Vals (vs ++ dvs) (us ++ ds) := r.append hd
  exact run_fnW (args := ⟨us, []⟩) F hr tk I1 (hb s1 us I1.kIn (by rw [← r2.length]; exact q.1)) r2 q
theorem fe_call0 (F : FnOk X.prog X.w X.K X.mg X.base (CX X.prog X.w) k f fd ps (spF Γ ps.length fm)) (hr : Room k X.A) (tk : Takes X W) (hg : Gl X x) (hm : X.mg x = some (.ref f)) (hk : PySem.W.keepIn X.K (.ref f) = true) (hb : Binds X.K fd ps ds) (hd : Vals dvs ds) (hdd : ∀ μ H, Dens Γ μ H dvs dds)
    (hn : dds.length = ps.length) (hdb : (x == ("__debug__" : Str)) = false := by decide) :
    FE X Γ W (.Call (.Name x p) [] [] pos) (xCall fm dds aNil) := by
  refine ⟨⟨fun pins s σ H Q I q => ?_⟩⟩
  obtain ⟨ρ, h, μ, heq, hrr, q⟩ := q
  refine wpAny_Call_Name_kw (ld_glob I hg hm ?_ hdb)
  have q' : spF Γ ps.length fm ([] ++ dvs) H Q fun c d H' => W c d σ H' := ⟨by rw [List.nil_append, (hdd μ H).length]; exact hn, [] ++ dds, h, μ, Dens.append (vs := []) (ds := []) rfl (hdd μ H), hrr, q⟩
  have r2 : Vals ([] ++ dvs) ([] ++ ds) := hd
  exact PySem.W.callWith_K0 I.kIn hk (run_fnW (args := ⟨[], []⟩) F hr tk I (hb s [] I.kIn (by rw [← r2.length]; exact q'.1)) r2 q')
/-- what a call with keywords binds: n positional values us, the keywords' values ws -/
structure KB (Γ : G) (K : PySem.W.Frag) (fd : FuncData) (ps : List Str) (n : Nat) (ks : List Str) (src : List Src) where
  g : List Value → List Value → List Value
  gV : List V → List V → List V
  to : ∀ (s : Shared) (us ws : List Value), K.In s.heap → us.length = n → ws.length = ks.length → BindsTo s fd ⟨us, ks.zip ws⟩ (ps.zip (g us ws))
  rel : ∀ {vs : List V} {us : List Value} {zs : List V} {ws : List Value}, Vals vs us → Vals zs ws → vs.length = n → zs.length = ks.length → Vals (gV vs zs) (g us ws)
  den : ∀ {μ H vs zs ds es}, Dens Γ μ H vs ds → Dens Γ μ H zs es → vs.length = n → zs.length = ks.length → Dens Γ μ H (gV vs zs) (src.map (Src.pick ds es))
theorem fe_callK0 {src : List Src} (F : FnOk X.prog X.w X.K X.mg X.base (CX X.prog X.w) k f fd ps (spF Γ ps.length fm)) (hr : Room k X.A) (tk : Takes X W) (hg : Gl X x) (hm : X.mg x = some (.ref f)) (hk : PySem.W.keepIn X.K (.ref f) = true) (hb : KB Γ X.K fd ps 0 ks src)
    (hkw : FK X Γ W kws fk) (hl : LenA fk ks.length) (hn : src.length = ps.length) (hall : (backToKw pos (keywordEach kws X.env)).all (·.1.isSome) = true := by rfl) (hks : (backToKw pos (keywordEach kws X.env)).filterMap (·.1) = ks := by rfl)
    (hdb : (x == ("__debug__" : Str)) = false := by decide) (hpl : ((backTo pos (starEach [] X.env)).any (·.1) || (backToKw pos (keywordEach kws X.env)).any (·.1.isNone)) = false := by rfl) :
    FE X Γ W (.Call (.Name x p) [] kws pos) (xCallK fm src aNil fk) := by
  refine ⟨⟨fun pins s σ H Q I q => ?_⟩⟩
  obtain ⟨ρ, h, μ, heq, hrr, q⟩ := q
  refine wpAny_Call_Name_kw (ld_glob I hg hm ?_ hdb)
  have tq : tA Γ W fk σ H fun zs H1 => zs.length = ks.length ∧ spF Γ ps.length fm (hb.gV [] zs) H1 Q fun c d H' => W c d σ H' := by
    refine ⟨ρ, h, μ, heq, hrr, Good.bind q fun a h1 v H1 μ1 z1 e1 r1 d1 q1 => ?_⟩
    have l := hl _ _ _ _ z1
    have l2 := d1.length
    have dd := hb.den (show Dens Γ μ1 H1 [] [] from rfl) d1 rfl (l2.trans l)
    exact ⟨l2.trans l, by rw [dd.length, List.length_map]; exact hn, _, h1, μ1, dd, r1, q1⟩
  refine PySem.W.callWith_KW0 (h₀ := X.base) I.ok.mod.kin hk hall ?_ hpl
  refine thn (hkw.ok.run pos pins s σ H _ I tq) fun ws s1 ⟨zs, H1, I1, rz, l, q⟩ => ⟨I1.kIn, ?_⟩
  rw [hks]
  exact run_fnW (args := ⟨[], ks.zip ws⟩) F hr tk I1 (hb.to s1 [] ws I1.kIn rfl (rz.length.symm.trans l)) (hb.rel .nil rz rfl l) q
theorem fe_callK {src : List Src} (F : FnOk X.prog X.w X.K X.mg X.base (CX X.prog X.w) k f fd ps (spF Γ ps.length fm)) (hr : Room k X.A) (tk : Takes X W) (hg : Gl X x) (hm : X.mg x = some (.ref f)) (hk : PySem.W.keepIn X.K (.ref f) = true) (hb : KB Γ X.K fd ps n ks src)
    (ha : FA X Γ W (e :: es) fa) (hkw : FK X Γ W kws fk) (hla : LenA fa n) (hl : LenA fk ks.length) (hn : src.length = ps.length) (hall : (backToKw pos (keywordEach kws X.env)).all (·.1.isSome) = true := by rfl) (hks : (backToKw pos (keywordEach kws X.env)).filterMap (·.1) = ks := by rfl)
    (hdb : (x == ("__debug__" : Str)) = false := by decide) (he : starEach (e :: es) X.env = (false, eval e X.env) :: starEach es X.env := by rfl)
    (hpl : ((backTo pos (starEach (e :: es) X.env)).any (·.1) || (backToKw pos (keywordEach kws X.env)).any (·.1.isNone)) = false := by rfl) :
    FE X Γ W (.Call (.Name x p) (e :: es) kws pos) (xCallK fm src fa fk) := by
  refine ⟨⟨fun pins s σ H Q I q => ?_⟩⟩
  obtain ⟨ρ, h, μ, heq, hrr, q⟩ := q
  refine wpAny_Call_Name_kw (ld_glob I hg hm ?_ hdb)
  have tq : tA Γ W fa σ H fun vs H1 => vs.length = n ∧ tA Γ W fk σ H1 fun zs H2 => zs.length = ks.length ∧ spF Γ ps.length fm (hb.gV vs zs) H2 Q fun c d H' => W c d σ H' := by
    refine ⟨ρ, h, μ, heq, hrr, Good.bind q fun a h1 v H1 μ1 z1 e1 r1 d1 q1 => ?_⟩
    have l := hla _ _ _ _ z1
    have l2 := d1.length
    refine ⟨l2.trans l, ρ, h1, μ1, heq.mono e1, r1, Good.bind q1 fun b h2 w H2 μ2 z2 e2 r2 d2 q2 => ?_⟩
    have l3 := hl _ _ _ _ z2
    have l4 := d2.length
    have dd := hb.den (d1.mono e2) d2 (l2.trans l) (l4.trans l3)
    exact ⟨l4.trans l3, by rw [dd.length, List.length_map]; exact hn, _, h2, μ2, dd, r2, q2⟩
  refine PySem.W.callWith_KW (h₀ := X.base) I.ok.mod.kin hk hall (thn (ha.ok.run pos pins s σ H _ I tq) fun us s1 ⟨vs, H1, I1, r, la, q⟩ => ?_) hpl he
  refine thn (hkw.ok.run pos pins s1 σ H1 _ I1 q) fun ws s2 ⟨zs, H2, I2, rz, l, q2⟩ => ⟨I2.kIn, ?_⟩
  rw [hks]
  exact run_fnW (args := ⟨us, ks.zip ws⟩) F hr tk I2 (hb.to s2 us ws I2.kIn (r.length.symm.trans la) (rz.length.symm.trans l)) (hb.rel r rz la l) q2
end
end MP
end
section
set_option Elab.async false
set_option linter.all false
set_option maxRecDepth 100000
set_option maxHeartbeats 4000000
/-! M13: exceptions of the package are made. -/
namespace MX
open PySem PySem.Spec PyProof.Rows PySem.HandSPX
abbrev eTail : List Value := [.type "Exception", .type "BaseException", .type "object"]
def refsE : List Value → Bool
  | .ref _ :: r => refsE r
  | l => l == eTail
theorem refsE_cases : ∀ l : List Value, refsE l = true → (∃ c r, l = .ref c :: r ∧ refsE r = true) ∨ l = eTail
  | [], e => .inr (beq_iff_eq.mp e)
  | .ref c :: r, e => .inl ⟨c, r, rfl, e⟩
  | .none :: _, e => .inr (beq_iff_eq.mp e)
  | .ellipsis :: _, e => .inr (beq_iff_eq.mp e)
  | .notImplemented :: _, e => .inr (beq_iff_eq.mp e)
  | .bool _ :: _, e => .inr (beq_iff_eq.mp e)
  | .int _ _ :: _, e => .inr (beq_iff_eq.mp e)
  | .float _ _ :: _, e => .inr (beq_iff_eq.mp e)
  | .str _ _ :: _, e => .inr (beq_iff_eq.mp e)
  | .bytes _ _ :: _, e => .inr (beq_iff_eq.mp e)
  | .type _ :: _, e => .inr (beq_iff_eq.mp e)
  | .builtin _ :: _, e => .inr (beq_iff_eq.mp e)
theorem refsE_pass (self : Value) : ∀ l : List Value, refsE l = true → refuseLoop self "__setattr__" l = pure () := by
  intro l
  induction l with
  | nil => intro e; exact absurd e (by decide)
  | cons a r ih =>
    intro e
    rcases refsE_cases (a :: r) e with ⟨c, r', q, h⟩ | q
    · obtain ⟨rfl, rfl⟩ := List.cons.inj q
      rw [refuseLoop_ref]; exact ih h
    · rw [q]; exact F.store_Exception.passes self
theorem refsE_contains (X : String) : ∀ l : List Value, refsE l = true → l.contains (.type X) = eTail.contains (.type X) := by
  intro l
  induction l with
  | nil => intro e; exact absurd e (by decide)
  | cons a r ih =>
    intro e
    rcases refsE_cases (a :: r) e with ⟨c, r', q, h⟩ | q
    · obtain ⟨rfl, rfl⟩ := List.cons.inj q
      rw [List.contains_cons, ih h]; rfl
    · rw [q]
theorem refsE_ne {l : List Value} (e : refsE l = true) : l.isEmpty = false := by
  cases l with
  | nil => exact absurd e (by decide)
  | cons _ _ => rfl
section
open Builtin Builtin.ObjectAttr
variable {prog : Program} {w : World} {A : Around} {E : Value → Shared → Prop} {R : Result → Shared → Prop} {hp : Heap} {g : Array GenState} {d : Drawn} {t : Nat} {os : OsState}
theorem osa_any {K : W.Frag} {name : Str} {tk : Tok} {v : Value} {x C : Addr} {ox : Obj} {od : Option Obj} {cd : ClassData}
    (X : K.In hp) (I : W.InstAt hp x ox C od) (hcd : W.clsIn K C = some cd) (hm : refsE cd.mro = true) (ha : W.findIn K (.ref C) name = some none)
    (hq : wpAny (model prog w) A.in1 (storeInOwnDict (.ref x) (.ref C) (.str name tk) name v false)
      (fun fin s' => match fin with | .done f => R (.ok f) s' | .again c' => c'.quiet = true ∧ codeAny (model prog w) A c' R s') (fun e s' => R (.error e) s') ⟨hp, g, d, t, os⟩) :
    codeAny (model prog w) A (.call (.builtin "object.__setattr__") ⟨[.ref x, .str name tk, v], []⟩) R ⟨hp, g, d, t, os⟩ := by
  have SF := F.store_object
  have ne := refsE_ne hm
  have hob : cd.mro.contains (.type "object") = true := (refsE_contains "object" _ hm).trans (by decide +kernel)
  have sub : W.Looks (model prog w) hp (isInstance (.ref x) (.type "object")) true := I.type.andThen (W.looks_mroIn X (by unfold W.mroIn; rw [hcd, Option.bind_some, if_neg (by rw [ne]; decide), hob]))
  refine codeAny_call_builtin SF.slot.plain SF.entry (@W.check_slot (model prog w) _ _ ⟨hp, g, d, t, os⟩ "object.__setattr__" "object" "__setattr__" (.ref x) [.str name tk, v] [] _ SF.kind SF.split sub (SF.args (.ref x) (.str name tk) v) ?_)
  have hmr : W.Looks (model prog w) hp (mroOf (.ref C)) cd.mro := (W.looks_clsIn X hcd).andThen .now
  have L3 : W.Looks (model prog w) hp (storeTaker? none) none := .now
  rw [W.osa_eq, refuse_eq]
  refine wpAny_bind (wpAny_bind (I.type.at (wpAny_bind (hmr.at ?_))))
  rw [refsE_pass _ _ hm]
  refine wpAny_pure (wpAny_bind (I.type.at (wpAny_bind ((W.looks_findIn X ha).at (wpAny_bind (L3.at ?_))))))
  exact hq
theorem osa_new {K : W.Frag} {name : Str} {tk : Tok} {v : Value} {x C : Addr} {fv : Array Value} {cd : ClassData}
    (X : K.In hp) (hx : hp.get? x = some { cls := .ref C, data := .fields fv }) (hcd : W.clsIn K C = some cd) (hm : refsE cd.mro = true) (hh : cd.hasDict = true) (ha : W.findIn K (.ref C) name = some none)
    (hq : ∀ h' tk' dx, (∀ b o, b ≠ x → hp.get? b = some o → h'.get? b = some o) → hp.objs.size ≤ dx → dx ≠ x → h'.get? x = some { cls := .ref C, dict := some dx, data := .fields fv } →
      h'.Ns1 dx (fun y => if y = name then some v else none) → R (.ok (.ret .none)) ⟨h', g, d, tk', os⟩) :
    codeAny (model prog w) A (.call (.builtin "object.__setattr__") ⟨[.ref x, .str name tk, v], []⟩) R ⟨hp, g, d, t, os⟩ := by
  have I : W.InstAt hp x { cls := .ref C, data := .fields fv } C none := ⟨hx, rfl, rfl, trivial⟩
  have hxs : x ≠ hp.objs.size := Nat.ne_of_lt (Heap.lt_size hx)
  refine osa_any X I hcd hm ha ?_
  have hcls : W.Looks (model prog w) hp (classData C) cd := W.looks_clsIn X hcd
  obtain ⟨nm, bs, mro, ns, qn, hd, sn, sb, ab, col, del⟩ := cd
  dsimp only at hh
  subst hh
  unfold storeInOwnDict ownDictForStores
  repeat (first | with_reducible refine HandSPX.store_in_new ?_ ?_ | with_reducible refine wpAny_loadPart_at hx ?_ | with_reducible refine hcls.at ?_ | wp_step)
  · exact ⟨_, #[], _, (Heap.get?_update_ne _ _ _ _ hxs.symm).trans (Heap.get?_push_at rfl rfl), rfl, fun e he => absurd he (by simp), fun _ => rfl⟩
  · intro h' tk' hn' hs
    have hx₁ : (hp.push { cls := .type "dict", data := .dict #[] }).get? x = some { cls := .ref C, data := .fields fv } := Heap.get?_push_of_some _ hx
    refine hq h' tk' hp.objs.size (fun b o hb ho => ?_) (Nat.le_refl _) hxs.symm ?_ hn'
    · exact (hs.2 b (Nat.ne_of_lt (Heap.lt_size ho))).trans ((Heap.get?_update_ne _ _ _ _ hb).trans (Heap.get?_push_of_some _ ho))
    · exact (hs.2 x hxs).trans (Heap.get?_update_self _ hx₁ rfl)
theorem osa_old {K : W.Frag} {name : Str} {tk : Tok} {v : Value} {x C dx : Addr} {fv : Array Value} {cd : ClassData} {m0 : Str → Option Value} {nl : List Str}
    (X : K.In hp) (hx : hp.get? x = some { cls := .ref C, dict := some dx, data := .fields fv }) (hns : hp.Ns1 dx m0) (hw : Within m0 nl) (hz : nl.length ≤ 1000) (hcd : W.clsIn K C = some cd) (hm : refsE cd.mro = true) (hh : cd.hasDict = true)
    (ha : W.findIn K (.ref C) name = some none)
    (hq : ∀ h' tk', (∀ b o, b ≠ dx → hp.get? b = some o → h'.get? b = some o) → h'.Ns1 dx (fun y => if y = name then some v else m0 y) → R (.ok (.ret .none)) ⟨h', g, d, tk', os⟩) :
    codeAny (model prog w) A (.call (.builtin "object.__setattr__") ⟨[.ref x, .str name tk, v], []⟩) R ⟨hp, g, d, t, os⟩ := by
  obtain ⟨oD, esD, epD, hoD, hdD, _⟩ := hns.count hw
  have I : W.InstAt hp x { cls := .ref C, dict := some dx, data := .fields fv } C (some oD) := ⟨hx, rfl, rfl, hoD⟩
  refine osa_any X I hcd hm ha ?_
  have hcls : W.Looks (model prog w) hp (classData C) cd := W.looks_clsIn X hcd
  obtain ⟨nm, bs, mro, ns, qn, hd, sn, sb, ab, col, del⟩ := cd
  dsimp only at hh
  subst hh
  unfold storeInOwnDict ownDictForStores
  repeat (first | with_reducible refine ESX.store_in_old hns hw hz ?_ | with_reducible refine wpAny_loadPart_at hx ?_ | with_reducible refine hcls.at ?_ | wp_step)
  intro h' tk' hn' hs
  exact hq h' tk' (fun b o hb ho => (hs.2 b hb).trans ho) hn'
end

/-- what the written part says of an exception's class and its __init__ -/
structure XiC (prog : Program) (K : W.Frag) (C fI : Addr) (qual : Str) (params : Arguments) (body : List Stmt) (scope : Scope) : Prop where
  cls : ∃ nm q N bs bm sn sub ab col dd k0 k1 k2 k3 k5, K.lookup C = some (excClassObj nm q C N bs bm true sn sub ab col dd k0 k1 k2 k3 k5 "Exception.__new__") ∧ refsE bm = true ∧ W.alongIn K "__init__" bm = some (some (.builtin "Exception.__init__"))
  sa : W.findIn K (.ref C) "__setattr__" = some (some (.builtin "object.__setattr__"))
  exC : W.subIn K (.ref C) (.type "BaseException") = some true
  exE : W.subIn K (.ref C) (.type "Exception") = some true
  mro : W.mroIn K C (.ref C) = some true
  tyC : W.typeIn K (.ref C) = some (.type "type")
  kC : W.keepIn K (.ref C) = true
  iC : W.findIn K (.ref C) "__init__" = some (some (.ref fI))
  tI : W.typeIn K (.ref fI) = some (.type "function")
  fn : ∃ name kV doc pm an cda ct cc oc od osl ccl cdd vs ccs file tf cl cld csl, K.lookup fI = some ⟨oc, od, .func (W.ksFn name qual params body scope .none kV doc pm an (.ref cda) ct cc), osl⟩ ∧ W.codeIn K (.ref cda) qual = true ∧
    K.lookup cda = some ⟨ccl, cdd, .fields vs, ccs⟩ ∧ vs[2]? = some (.str file tf) ∧ ((prog.main.file : Str) == file) = true ∧ K.lookup cc = some ⟨cl, cld, .cell (some (.ref C)), csl⟩
  thi : W.nsIn K cStatics "thirdparty.any" = some none
  top : (prog.main.scope.names.lookup ("super" : Str)).isSome = false

section
open PySem.W PySem.Calls
variable {prog : Program} {w : World} {A : Around} {s : Shared} {K : Frag} {mg : Str → Option Value} {C fI a t0 : Addr} {qual : Str} {scope : Scope} {R : Result → Shared → Prop}
/-- super().__init__(..) -/
theorem init_super {params : Arguments} {body : List Stmt} {ar : PySem.Arg} {c0 : List Stmt} {A : Around} {p0 p1 p2 p3 p4 : Pos} {L : Addr} {m : Str → Option Value} {es : List Expr} {e : Expr} {us : List Value} {cda cc : Addr} {Q : Flow → Shared → Prop} {E : Value → Shared → Prop} {base : Heap}
    (T : XiC prog K C fI qual params body scope) (hM : L2.Mod K mg base) (bk : ∀ b o, base.get? b = some o → s.heap.get? b = some o) (hms : mg "super" = none)
    (hfn : ∃ name dV kV doc pm an ct oc od osl, K.lookup fI = some ⟨oc, od, .func (ksFn name qual params body scope dV kV doc pm an (.ref cda) ct cc), osl⟩)
    (hcd : ∃ ccl cdd vs ccs file tf, K.lookup cda = some ⟨ccl, cdd, .fields vs, ccs⟩ ∧ vs[2]? = some (.str file tf) ∧ ((prog.main.file : Str) == file) = true) (hcc : ∃ cl cld csl, K.lookup cc = some ⟨cl, cld, .cell (some (.ref C)), csl⟩)
    (hp : (params.posonlyargs ++ params.args).head? = some ar) (har : ar.arg = ("self" : Str)) (hns : s.heap.Ns L m) (hself : m "self" = some (.ref a)) (ha : s.heap.get? a = some (excO C t0))
    (hk : scope.kind = .function) (hks : scope.names.lookup ("super" : Str) = some .globalImplicit) (hkc : scope.names.lookup ("__class__" : Str) = some .free) (hka : scope.names.lookup ("self" : Str) = some .local)
    (hargs : ∀ (s' : Shared) (Q' : List Value → Shared → Prop), s'.heap.Ns L m → Q' us s' → wpAny (model prog w) A (spliced (backTo p3 (starEach (e :: es) (ksEnv qual scope L fI (.ref cda) cc)))) Q' E s') (hl : us.length ≤ sizeLine)
    (hplain : (backTo p3 (starEach es (ksEnv qual scope L fI (.ref cda) cc))).any (·.1) = false := by rfl) (hse : starEach (e :: es) (ksEnv qual scope L fI (.ref cda) cc) = (false, eval e (ksEnv qual scope L fI (.ref cda) cc)) :: starEach es (ksEnv qual scope L fI (.ref cda) cc) := by rfl)
    (hev : ∃ pl, eval (.Call (.Attribute (.Call (.Name "super" p0) [] [] p1) "__init__" p2) (e :: es) [] p3) (ksEnv qual scope L fI (.ref cda) cc) = (do
      let ov ← attributeBase (.Call (.Name "super" p0) [] [] p1) "__init__" (ksEnv qual scope L fI (.ref cda) cc) (eval (.Call (.Name "super" p0) [] [] p1) (ksEnv qual scope L fI (.ref cda) cc))
      standAt p2.atName
      let (f, first) ← holding [ov] (getMethod ov "__init__" pl)
      callWith p3 f first (backTo p3 (starEach (e :: es) (ksEnv qual scope L fI (.ref cda) cc))) []) := by exact ⟨_, rfl⟩)
    (h : ∀ h' tk' t1, h'.Ns L m → (∀ b o, b ≠ a → s.heap.get? b = some o → h'.get? b = some o) → h'.get? a = some (excO C t1) → Q .next { s with heap := h', toks := tk' }) :
    _root_.PySem.wpAt (model prog w) A (.func c0 (ksEnv qual scope L fI (.ref cda) cc)) (exec (.Expr (.Call (.Attribute (.Call (.Name "super" p0) [] [] p1) "__init__" p2) (e :: es) [] p3) p4) (ksEnv qual scope L fI (.ref cda) cc)) Q E s := by
  obtain ⟨name, dV, kV, doc, pm, an, ct, oc, od, osl, lf⟩ := hfn
  obtain ⟨ccl, cdd, vs, ccs, file, tf, lc, hvs, hfile⟩ := hcd
  obtain ⟨cl, cld, csl, lcc⟩ := hcc
  obtain ⟨nm, q, N, bs, bm, sn, sub, ab, col, dd, k0, k1, k2, k3, k5, hC, hbm, hal⟩ := T.cls
  obtain ⟨mb, hb1, hb2⟩ := hM.blt
  obtain ⟨pl, hev⟩ := hev
  have X : K.In s.heap := hM.kin.keeps bk
  have hxL : L ≠ a := fun z => by
    obtain ⟨oL, es, ep, e1, e2, _⟩ := hns
    rw [z, ha] at e1
    cases e1
    cases e2
  obtain ⟨hh, g, d, t, os⟩ := s
  refine ks_wpAt_Expr_any (ks_wpAt_MethodCall (pl := pl) ?_ hev) (by show (scope.kind == .module && _) = false; rw [hk]; rfl) (by rfl)
  refine ks_wpAt_super_base (env := ksEnv qual scope L fI (.ref cda) cc) hks hkc (by decide) rfl (X _ _ lf) rfl hp rfl (X _ _ lc) rfl hvs hfile T.top ?_
  refine ks_loadName_global hk hks (loadGlobal_builtin (env := ksEnv qual scope L fI (.ref cda) cc) (hM.glob.keeps bk) hms (hb1.keeps bk) ((hb2 _ (by decide)).trans (by first | rfl | decide +kernel)) ⟨rfl, ?_⟩)
  refine wpAny_loadName_free hk hkc rfl ⟨_, X _ _ lcc, rfl⟩ ?_
  rw [har]
  refine wpAny_loadName_local hk hka hns hself ?_
  have hCh : hh.get? C = some _ := X _ _ hC
  refine ks_wpAny_isType_cls hCh rfl ⟨rfl, ?_⟩
  refine ks_wpAny_call_super hCh rfl ha rfl (fun c e => by cases e) (looks_mroIn X T.mro) (fun h1 e1 k1 => ?_)
  have X1 : K.In h1 := X.keeps k1
  have hcl : clsIn K C = some { name := nm, bases := bs, mro := .ref C :: bm, ns := N, qualname := q, hasDict := true, slotNames := sn, subclasses := sub, abstract := ab, collection := col, hasDel := false } := by unfold clsIn; rw [hC] <;> rfl
  have I1 : InstAt h1 a (excO C t0) C none := ⟨k1 _ _ ha, rfl, rfl, trivial⟩
  have hI : Looks (model prog w) h1 (isInstance (.ref a) (.type "Exception")) true := I1.type.andThen (looks_subIn X1 T.exE)
  have hne : a ≠ C := ks_ne X1 I1 hcl
  refine ESX.getMethod_super (l₀ := .ref C :: bm) (l := bm) e1 (looks_opaque X1 T.thi) (fun A Q E s k q => wpAny_bind ((looks_clsIn X1 hcl) A _ E s k (wpAny_pure q))) (by simp [List.dropWhile_cons]) X1 hal hne (by decide) hI ?_
  have k2 : ∀ b o, h1.get? b = some o → (h1.push (ESX.bw a)).get? b = some o := fun b o e => Heap.get?_push_of_some _ e
  have hns2 : (h1.push (ESX.bw a)).Ns L m := (hns.keeps k1).keeps k2
  refine ESX.callWith_bound (x := a) (first := []) (hargs _ _ hns2 ⟨Heap.get?_push_size _ rfl, ?_⟩) hse hplain
  refine ESX.call_bw (k2 _ _ (k1 _ _ hCh)) (k2 _ _ (k1 _ _ ha)) (Heap.get?_push_size _ rfl) hl fun h3 t1 k3 e3 => ?_
  refine h h3 _ t1 ?_ (fun b o hb ho => k3 b o hb (k2 b o (k1 b o ho))) e3
  obtain ⟨oL, esL, ep, eL, r⟩ := hns2
  exact ⟨oL, esL, ep, k3 _ _ hxL eL, r⟩

abbrev excD (C t : Addr) (dx : Addr) : Obj := { cls := .ref C, dict := some dx, data := .fields #[.ref t, .none, .none, .none, .bool false, .none] }
/-- self.f = v on the exception at a: the first one -/
theorem set_first {name : Str} {v : Value} {Q : Unit → Shared → Prop} {E : Value → Shared → Prop} {A : Around} {params : Arguments} {body : List Stmt} (T : XiC prog K C fI qual params body scope) (X : K.In s.heap) (ha : s.heap.get? a = some (excO C t0)) (hno : findIn K (.ref C) name = some none)
    (h : ∀ h' tk' dx, (∀ b o, b ≠ a → s.heap.get? b = some o → h'.get? b = some o) → (∀ b o, s.heap.get? b = some o → b ≠ dx) → dx ≠ a → h'.get? a = some (excD C t0 dx) → h'.Ns1 dx (fun y => if y = name then some v else none) → Q () { s with heap := h', toks := tk' }) :
    wpAny (model prog w) A (setAttr (.ref a) name v) Q E s := by
  obtain ⟨nm, q, N, bs, bm, sn, sub, ab, col, dd, k0, k1, k2, k3, k5, hC, hbm, hal⟩ := T.cls
  have hcl : clsIn K C = some { name := nm, bases := bs, mro := .ref C :: bm, ns := N, qualname := q, hasDict := true, slotNames := sn, subclasses := sub, abstract := ab, collection := col, hasDel := false } := by unfold clsIn; rw [hC] <;> rfl
  obtain ⟨hh, g, d, t, os⟩ := s
  refine set_plain X (ox := excO C t0) (od := none) ⟨ha, rfl, rfl, trivial⟩ T.sa ?_
  refine osa_new X ha hcl (show refsE (.ref C :: bm) = true from hbm) rfl hno (fun h' tk' dx k dn dne hx hn => ?_)
  exact h h' tk' dx k (fun b o e => Nat.ne_of_lt (Nat.lt_of_lt_of_le (Heap.lt_size e) dn)) dne hx hn
theorem set_next {name : Str} {v : Value} {dx : Addr} {m0 : Str → Option Value} {nl : List Str} {Q : Unit → Shared → Prop} {E : Value → Shared → Prop} {A : Around} {params : Arguments} {body : List Stmt} (T : XiC prog K C fI qual params body scope) (X : K.In s.heap) (ha : s.heap.get? a = some (excD C t0 dx)) (hns : s.heap.Ns1 dx m0) (hw : Within m0 nl) (hz : nl.length ≤ 1000) (hno : findIn K (.ref C) name = some none)
    (h : ∀ h' tk', (∀ b o, b ≠ dx → s.heap.get? b = some o → h'.get? b = some o) → h'.Ns1 dx (fun y => if y = name then some v else m0 y) → Q () { s with heap := h', toks := tk' }) :
    wpAny (model prog w) A (setAttr (.ref a) name v) Q E s := by
  obtain ⟨nm, q, N, bs, bm, sn, sub, ab, col, dd, k0, k1, k2, k3, k5, hC, hbm, hal⟩ := T.cls
  have hcl : clsIn K C = some { name := nm, bases := bs, mro := .ref C :: bm, ns := N, qualname := q, hasDict := true, slotNames := sn, subclasses := sub, abstract := ab, collection := col, hasDel := false } := by unfold clsIn; rw [hC] <;> rfl
  obtain ⟨hh, g, d, t, os⟩ := s
  obtain ⟨oD, esD, epD, hoD, hdD, _⟩ := hns.count hw
  refine set_plain X (ox := excD C t0 dx) (od := some oD) ⟨ha, rfl, rfl, hoD⟩ T.sa ?_
  exact osa_old X ha hns hw hz hcl (show refsE (.ref C :: bm) = true from hbm) rfl hno (fun h' tk' k hn => h h' tk' k hn)

/-- the names of an __init__ -/
structure XiS (ps : List Str) (scope : Scope) : Prop where
  kind : scope.kind = .function
  co : scope.isCoroutine = false
  gen : scope.isGenerator = false
  sup : scope.names.lookup ("super" : Str) = some .globalImplicit
  cls : scope.names.lookup ("__class__" : Str) = some .free
  par : ∀ x ∈ ps, scope.names.lookup x = some .local
  nocell : ∀ x ∈ scope.names, x.2 ≠ .cell
def xiS (ps : List Str) (scope : Scope) : Bool := (match scope.kind with | .function => true | _ => false) && !scope.isCoroutine && !scope.isGenerator && decide (scope.names.lookup ("super" : Str) = some .globalImplicit) && decide (scope.names.lookup ("__class__" : Str) = some .free) &&
  (ps.all fun x => decide (scope.names.lookup x = some .local)) && scope.names.all fun x => decide (x.2 ≠ .cell)
theorem xiS_ok {ps : List Str} {scope : Scope} (h : xiS ps scope = true) : XiS ps scope := by
  unfold xiS at h
  simp only [Bool.and_eq_true, List.all_eq_true, decide_eq_true_eq, Bool.not_eq_true'] at h
  obtain ⟨⟨⟨⟨⟨⟨h1, h2⟩, h3⟩, h4⟩, h5⟩, h6⟩, h7⟩ := h
  refine ⟨?_, h2, h3, h4, h5, h6, h7⟩
  split at h1
  · assumption
  · cases h1

/-- the call of super()'s __init__ is asked so (its positions lie on one line) -/
def SupCall (fI : Addr) (qual : Str) (scope : Scope) (p0 p1 p2 p3 : Pos) (es : List Expr) : Prop := ∀ (L cda cc : Addr), ∃ pl, eval (.Call (.Attribute (.Call (.Name "super" p0) [] [] p1) "__init__" p2) es [] p3) (ksEnv qual scope L fI (.ref cda) cc) = (do
      let ov ← attributeBase (.Call (.Name "super" p0) [] [] p1) "__init__" (ksEnv qual scope L fI (.ref cda) cc) (eval (.Call (.Name "super" p0) [] [] p1) (ksEnv qual scope L fI (.ref cda) cc))
      standAt p2.atName
      let (f, first) ← holding [ov] (getMethod ov "__init__" pl)
      callWith p3 f first (backTo p3 (starEach es (ksEnv qual scope L fI (.ref cda) cc))) [])
theorem supCall {fI : Addr} {qual : Str} {scope : Scope} {p0 p1 p2 p3 : Pos} {es : List Expr} (hl : (p2.endLine == p3.line) = true) (hn : methodCallForm (es.length + 0) [] [] = true)
    (hf : ∀ env, methodCallForm (es.length + 0) (backTo p3 (starEach es env)) [] = true) : SupCall fI qual scope p0 p1 p2 p3 es := fun L cda cc => by
  refine ⟨(do return (← importBound (.Call (.Name "super" p0) [] [] p1) (ksEnv qual scope L fI (.ref cda) cc)).getD true), ?_⟩
  show (do
    let ov ← attributeBase (.Call (.Name "super" p0) [] [] p1) "__init__" (ksEnv qual scope L fI (.ref cda) cc) (eval (.Call (.Name "super" p0) [] [] p1) (ksEnv qual scope L fI (.ref cda) cc))
    standAt p2.atName
    methodCall (.Call (.Name "super" p0) [] [] p1) "__init__" p2 p3 (ksEnv qual scope L fI (.ref cda) cc) ov (es.length + 0) (backTo p3 (starEach es (ksEnv qual scope L fI (.ref cda) cc))) []) = _
  unfold methodCall
  rw [hf]
  unfold methodCallPos calleeOf
  rw [hl]
  rfl
abbrev body1 (f1 : Str) (p0 p1 p2 p3 p4 q0 q1 q2 q3 q4 : Pos) : List Stmt := [.Expr (.Call (.Attribute (.Call (.Name "super" p0) [] [] p1) "__init__" p2) [.Name f1 q0] [] p3) p4, .Assign [.Attribute (.Name "self" q1) f1 q2] (.Name f1 q3) q4]
theorem init1 {f1 : Str} {p0 p1 p2 p3 p4 q0 q1 q2 q3 q4 : Pos} {params : Arguments} {ar : PySem.Arg} {v : Value} {base : Heap} (T : XiC prog K C fI qual params (body1 f1 p0 p1 p2 p3 p4 q0 q1 q2 q3 q4) scope) (S : XiS ["self", f1] scope) (hf1 : f1 ≠ "self") (hd1 : (f1 == ("__debug__" : Str)) = false) (hno : findIn K (.ref C) f1 = some none)
    (hM : L2.Mod K mg base) (bk : ∀ b o, base.get? b = some o → s.heap.get? b = some o) (hba : base.get? a = none) (hms : mg "super" = none) (hp : (params.posonlyargs ++ params.args).head? = some ar) (har : ar.arg = ("self" : Str)) (hroom : A.depth < recursionLimit) (hsc : SupCall fI qual scope p0 p1 p2 p3 [.Name f1 q0])
    (hb : ∀ name kV doc pm an cdv ct cc, BindsTo s (ksFn name qual params (body1 f1 p0 p1 p2 p3 p4 q0 q1 q2 q3 q4) scope .none kV doc pm an cdv ct cc) ⟨[.ref a, v], []⟩ [("self", .ref a), (f1, v)]) (ha : s.heap.get? a = some (excO C t0))
    (h : ∀ h' tk' t1 dx, (∀ b o, b ≠ a → s.heap.get? b = some o → h'.get? b = some o) → (∀ b o, s.heap.get? b = some o → b ≠ dx) → dx ≠ a → h'.get? a = some (excD C t1 dx) → h'.Ns1 dx (fun y => if y = f1 then some v else none) → R (.ok (.ret .none)) { s with heap := h', toks := tk' }) :
    codeAny (model prog w) A (.call (.ref fI) ⟨[.ref a, v], []⟩) R s := by
  obtain ⟨name, kV, doc, pm, an, cda, ct, cc, oc, od, osl, ccl, cdd, vs, ccs, file, tf, cl, cld, csl, lf, hcode, lc, hvs, hfile, lcc⟩ := T.fn
  have X : K.In s.heap := hM.kin.keeps bk
  have lim : s.heap.NoLimit := hM.nolimit.keeps bk
  have hloc : ∀ y ∈ [(("self" : Str), Value.ref a), (f1, v)], scope.names.lookup y.1 = some .local := fun y hy => by
    rcases List.mem_cons.mp hy with e | hy
    · rw [e]; exact S.par _ (by simp)
    · rw [List.mem_singleton.mp hy]; exact S.par _ (by simp)
  refine ks_codeAny_call_defAt (fd := ksFn name qual params _ scope .none kV doc pm an (.ref cda) ct cc) hroom (X _ _ lf) rfl lim (codeRec_of X hcode) rfl (hb _ _ _ _ _ _ _ _) S.nocell hloc (fun h₁ hns hk₁ => ?_) S.co S.gen S.kind
  have eS : ([(("self" : Str), Value.ref a), (f1, v)].reverse.lookup ("self" : Str)) = some (.ref a) := by
    show List.lookup ("self" : Str) [(f1, v), (("self" : Str), Value.ref a)] = _
    have e : (("self" : Str) == f1) = false := by simpa using Ne.symm hf1
    simp [List.lookup, e]
  have eF : ([(("self" : Str), Value.ref a), (f1, v)].reverse.lookup f1) = some v := by
    show List.lookup f1 [(f1, v), (("self" : Str), Value.ref a)] = _
    simp [List.lookup]
  have kl : (ksEnv qual scope s.heap.objs.size fI (.ref cda) cc).kindOf f1 = some .local := S.par _ (by simp)
  have ks : (ksEnv qual scope s.heap.objs.size fI (.ref cda) cc).kindOf "self" = some .local := S.par _ (by simp)
  refine ks_wpAt_execs_cons (init_super (E := _) (us := [v]) T hM (fun b o e => hk₁ _ _ (bk b o e)) hms ⟨name, .none, kV, doc, pm, an, ct, oc, od, osl, lf⟩ ⟨ccl, cdd, vs, ccs, file, tf, lc, hvs, hfile⟩ ⟨cl, cld, csl, lcc⟩ hp har hns eS (hk₁ _ _ ha) S.kind S.sup S.cls (S.par _ (by simp))
    (fun s' Q' hn hq => ?_) (by show 1 ≤ sizeLine; decide) rfl rfl ?hevv (fun h2 tk2 t1 hn2 k2 e2 => ?_))
  case hevv => exact hsc _ _ _
  · show wpAny _ _ (spliced ((false, eval (.Name f1 q0) _) :: [])) _ _ _
    exact Calls.spliced_cons (ESX.ldL hn eF (Calls.spliced_nil hq) S.kind kl hd1)
  refine wpAt_of_wpAny (wpAny_execs_cons (plainObj_wpAny_Assign_Attribute (ESX.ldL hn2 eF (ESX.ldL hn2 eS ?_ S.kind ks (by decide)) S.kind kl hd1)))
  have bk2 : ∀ b o, base.get? b = some o → h2.get? b = some o := fun b o e => k2 b o (fun z => by rw [z, hba] at e; cases e) (hk₁ _ _ (bk b o e))
  have X2 : K.In h2 := hM.kin.keeps bk2
  refine set_first T X2 e2 hno fun h3 tk3 dx k3 nd dne e3 n3 => ?_
  refine wpAny_execs_nil (h h3 tk3 t1 dx (fun b o hb e => k3 b o hb (k2 b o hb (hk₁ b o e))) (fun b o e => ?_) dne e3 n3)
  by_cases hb : b = a
  · rw [hb]; exact Ne.symm dne
  · exact nd b o (k2 b o hb (hk₁ b o e))

abbrev body2 (f1 f2 : Str) (p0 p1 p2 p3 p4 q0 q1 q2 q3 q4 r0 r1 r2 r3 r4 : Pos) : List Stmt := [.Expr (.Call (.Attribute (.Call (.Name "super" p0) [] [] p1) "__init__" p2) [.Name f1 q0, .Name f2 r0] [] p3) p4, .Assign [.Attribute (.Name "self" q1) f1 q2] (.Name f1 q3) q4, .Assign [.Attribute (.Name "self" r1) f2 r2] (.Name f2 r3) r4]
theorem init2 {f1 f2 : Str} {p0 p1 p2 p3 p4 q0 q1 q2 q3 q4 r0 r1 r2 r3 r4 : Pos} {params : Arguments} {ar : PySem.Arg} {v u : Value} {base : Heap} (T : XiC prog K C fI qual params (body2 f1 f2 p0 p1 p2 p3 p4 q0 q1 q2 q3 q4 r0 r1 r2 r3 r4) scope) (S : XiS ["self", f1, f2] scope)
    (hf1 : f1 ≠ "self") (hf2 : f2 ≠ "self") (hf12 : f1 ≠ f2) (hd1 : (f1 == ("__debug__" : Str)) = false) (hd2 : (f2 == ("__debug__" : Str)) = false) (hno : findIn K (.ref C) f1 = some none) (hno2 : findIn K (.ref C) f2 = some none)
    (hM : L2.Mod K mg base) (bk : ∀ b o, base.get? b = some o → s.heap.get? b = some o) (hba : base.get? a = none) (hms : mg "super" = none) (hp : (params.posonlyargs ++ params.args).head? = some ar) (har : ar.arg = ("self" : Str)) (hroom : A.depth < recursionLimit) (hsc : SupCall fI qual scope p0 p1 p2 p3 [.Name f1 q0, .Name f2 r0])
    (hb : ∀ name kV doc pm an cdv ct cc, BindsTo s (ksFn name qual params (body2 f1 f2 p0 p1 p2 p3 p4 q0 q1 q2 q3 q4 r0 r1 r2 r3 r4) scope .none kV doc pm an cdv ct cc) ⟨[.ref a, v, u], []⟩ [("self", .ref a), (f1, v), (f2, u)]) (ha : s.heap.get? a = some (excO C t0))
    (h : ∀ h' tk' t1 dx, (∀ b o, b ≠ a → s.heap.get? b = some o → h'.get? b = some o) → (∀ b o, s.heap.get? b = some o → b ≠ dx) → dx ≠ a → h'.get? a = some (excD C t1 dx) → h'.Ns1 dx (fun y => if y = f2 then some u else if y = f1 then some v else none) → R (.ok (.ret .none)) { s with heap := h', toks := tk' }) :
    codeAny (model prog w) A (.call (.ref fI) ⟨[.ref a, v, u], []⟩) R s := by
  obtain ⟨name, kV, doc, pm, an, cda, ct, cc, oc, od, osl, ccl, cdd, vs, ccs, file, tf, cl, cld, csl, lf, hcode, lc, hvs, hfile, lcc⟩ := T.fn
  have X : K.In s.heap := hM.kin.keeps bk
  have lim : s.heap.NoLimit := hM.nolimit.keeps bk
  have hloc : ∀ y ∈ [(("self" : Str), Value.ref a), (f1, v), (f2, u)], scope.names.lookup y.1 = some .local := fun y hy => by
    rcases List.mem_cons.mp hy with e | hy
    · rw [e]; exact S.par _ (by simp)
    · rcases List.mem_cons.mp hy with e | hy
      · rw [e]; exact S.par _ (by simp)
      · rw [List.mem_singleton.mp hy]; exact S.par _ (by simp)
  refine ks_codeAny_call_defAt (fd := ksFn name qual params _ scope .none kV doc pm an (.ref cda) ct cc) hroom (X _ _ lf) rfl lim (codeRec_of X hcode) rfl (hb _ _ _ _ _ _ _ _) S.nocell hloc (fun h₁ hns hk₁ => ?_) S.co S.gen S.kind
  have n1 : (("self" : Str) == f1) = false := by simpa using Ne.symm hf1
  have n2 : (("self" : Str) == f2) = false := by simpa using Ne.symm hf2
  have n3 : (f1 == f2) = false := by simpa using hf12
  have eS : ([(("self" : Str), Value.ref a), (f1, v), (f2, u)].reverse.lookup ("self" : Str)) = some (.ref a) := by
    show List.lookup ("self" : Str) [(f2, u), (f1, v), (("self" : Str), Value.ref a)] = _
    simp [List.lookup, n1, n2]
  have eF : ([(("self" : Str), Value.ref a), (f1, v), (f2, u)].reverse.lookup f1) = some v := by
    show List.lookup f1 [(f2, u), (f1, v), (("self" : Str), Value.ref a)] = _
    simp [List.lookup, n3]
  have eG : ([(("self" : Str), Value.ref a), (f1, v), (f2, u)].reverse.lookup f2) = some u := by
    show List.lookup f2 [(f2, u), (f1, v), (("self" : Str), Value.ref a)] = _
    simp [List.lookup]
  have kl : (ksEnv qual scope s.heap.objs.size fI (.ref cda) cc).kindOf f1 = some .local := S.par _ (by simp)
  have kl2 : (ksEnv qual scope s.heap.objs.size fI (.ref cda) cc).kindOf f2 = some .local := S.par _ (by simp)
  have ks : (ksEnv qual scope s.heap.objs.size fI (.ref cda) cc).kindOf "self" = some .local := S.par _ (by simp)
  refine ks_wpAt_execs_cons (init_super (E := _) (us := [v, u]) T hM (fun b o e => hk₁ _ _ (bk b o e)) hms ⟨name, .none, kV, doc, pm, an, ct, oc, od, osl, lf⟩ ⟨ccl, cdd, vs, ccs, file, tf, lc, hvs, hfile⟩ ⟨cl, cld, csl, lcc⟩ hp har hns eS (hk₁ _ _ ha) S.kind S.sup S.cls (S.par _ (by simp))
    (fun s' Q' hn hq => ?_) (by show 2 ≤ sizeLine; decide) rfl rfl ?hevv (fun h2 tk2 t1 hn2 k2 e2 => ?_))
  case hevv => exact hsc _ _ _
  · show wpAny _ _ (spliced ((false, eval (.Name f1 q0) _) :: (false, eval (.Name f2 r0) _) :: [])) _ _ _
    exact Calls.spliced_cons (ESX.ldL hn eF (Calls.spliced_cons (ESX.ldL hn eG (Calls.spliced_nil hq) S.kind kl2 hd2)) S.kind kl hd1)
  refine wpAt_of_wpAny (wpAny_execs_cons (plainObj_wpAny_Assign_Attribute (ESX.ldL hn2 eF (ESX.ldL hn2 eS ?_ S.kind ks (by decide)) S.kind kl hd1)))
  have bk2 : ∀ b o, base.get? b = some o → h2.get? b = some o := fun b o e => k2 b o (fun z => by rw [z, hba] at e; cases e) (hk₁ _ _ (bk b o e))
  have X2 : K.In h2 := hM.kin.keeps bk2
  refine set_first T X2 e2 hno fun h3 tk3 dx k3 nd dne e3 n3' => ?_
  have bk3 : ∀ b o, base.get? b = some o → h3.get? b = some o := fun b o e => k3 b o (fun z => by rw [z, hba] at e; cases e) (bk2 _ _ e)
  have hLa : s.heap.objs.size ≠ a := Nat.ne_of_gt (Heap.lt_size ha)
  have hn3 : h3.Ns s.heap.objs.size (fun x => [(("self" : Str), Value.ref a), (f1, v), (f2, u)].reverse.lookup x) := by
    obtain ⟨oL, esL, ep, eL, r⟩ := hn2
    exact ⟨oL, esL, ep, k3 _ _ hLa eL, r⟩
  refine wpAny_execs_cons (plainObj_wpAny_Assign_Attribute (ESX.ldL hn3 eG (ESX.ldL hn3 eS ?_ S.kind ks (by decide)) S.kind kl2 hd2))
  have hw : Within (fun y => if y = f1 then some v else none) [f1] := fun y hy => by
    by_cases z : y = f1
    · rw [z]; exact List.mem_singleton.mpr rfl
    · exact absurd (if_neg z) hy
  refine set_next T (hM.kin.keeps bk3) e3 n3' hw (by show 1 ≤ 1000; decide) hno2 fun h4 tk4 k4 n4 => ?_
  have new : ∀ b o, s.heap.get? b = some o → b ≠ dx := fun b o e => by
    by_cases hb : b = a
    · rw [hb]; exact Ne.symm dne
    · exact nd b o (k2 b o hb (hk₁ b o e))
  refine wpAny_execs_nil (h h4 tk4 t1 dx (fun b o hb e => k4 b o (new b o e) (k3 b o hb (k2 b o hb (hk₁ b o e)))) new dne (k4 _ _ (Ne.symm dne) e3) n4)
end
end MX
namespace MX
open PySem PySem.Spec PyProof.Rows PySem.HandSPX L2
theorem objOk_there {P : Program} {w : World} {H : Hp} {h : Heap} {a : Addr} {o : HO} (x : ObjOk P w H h a o) : ∃ ob, h.get? a = some ob := by
  cases o with
  | lst xs => obtain ⟨_, _, _, _, e⟩ := x; exact ⟨_, e⟩
  | tup xs => obtain ⟨_, _, _, ob, e, _⟩ := x; exact ⟨_, e⟩
  | dK kvs => obtain ⟨_, _, _, _, o, _, _, e, _⟩ := x; exact ⟨_, e⟩
  | dT kvs => obtain ⟨_, _, _, _, o, _, _, e, _⟩ := x; exact ⟨_, e⟩
  | set S n => obtain ⟨o, _, _, _, e, _⟩ := x; exact ⟨_, e⟩
  | ins C dx fs => obtain ⟨_, _, _, e, _⟩ := x; exact ⟨_, e⟩
  | own y => obtain ⟨_, e⟩ := x; exact ⟨_, e⟩
  | xd fs => obtain ⟨_, ⟨_, _, _, e, _⟩, _⟩ := x; exact ⟨_, e⟩
  | rng lo hi => obtain ⟨_, _, _, e⟩ := x; exact ⟨_, e⟩
  | frz ob u => obtain ⟨e, _⟩ := x; exact ⟨_, e⟩
  | tbl ps => exact ⟨_, (show h.get? a = some _ from x)⟩
  | met f y => exact ⟨_, (show h.get? a = some _ from x)⟩
  | ext φ => obtain ⟨_, ⟨_, e⟩, _⟩ := x; exact ⟨_, e⟩
/-- the runs of an __init__ end so -/
def InitRun (prog : Program) (w : World) (K : PySem.W.Frag) (mg : Str → Option Value) (C fI : Addr) (n : Nat) (ms : List Value → Str → Option Value) : Prop :=
  ∀ (A : Around) (s : Shared) (a t0 : Addr) (us : List Value) (base : Heap) (R : Result → Shared → Prop), L2.Mod K mg base → (∀ b o, base.get? b = some o → s.heap.get? b = some o) → base.get? a = none → A.depth < recursionLimit → us.length = n → s.heap.get? a = some (excO C t0) →
    (∀ h' tk' t1 dx, (∀ b o, b ≠ a → s.heap.get? b = some o → h'.get? b = some o) → (∀ b o, s.heap.get? b = some o → b ≠ dx) → dx ≠ a → h'.get? a = some (excD C t1 dx) → h'.Ns1 dx (ms us) → R (.ok (.ret .none)) { s with heap := h', toks := tk' }) →
    codeAny (model prog w) A (.call (.ref fI) ⟨.ref a :: us, []⟩) R s
theorem pmk_xi {X : Cx} {x : Str} {C fI : Addr} {k n : Nat} {qual : Str} {params : Arguments} {body : List Stmt} {scope : Scope} {ms : List Value → Str → Option Value} {fs : List V → List (Str × V)} {e : Expr} {es : List Expr} {ta : TA} {p pos : Pos}
    (T : XiC X.prog X.K C fI qual params body scope) (F : InitRun X.prog X.w X.K X.mg C fI n ms) (hfs : ∀ vs us, Vals vs us → vs.length = n → ∀ f, RelO ((fs vs).lookup f) (ms us f)) (hn : n ≤ 1000) (hr : Room (k + 1) X.A) (hg : Gl X x) (hm : X.mg x = some (.ref C)) (ha : PA X (e :: es) ta)
    (hdb : (x == ("__debug__" : Str)) = false := by decide) (he : starEach (e :: es) X.env = (false, eval e X.env) :: starEach es X.env := by rfl) (hpl : (backTo pos (starEach es X.env)).any (·.1) = false := by rfl) :
    PMk X (.Call (.Name x p) (e :: es) [] pos) (fun σ H Q => ta σ H fun vs H1 => vs.length = n ∧ ∀ d, H1 d = none → Q (.ref C) (some d) (upd H1 d (.xd (fs vs)))) := by
  intro pins s σ H Q I h
  obtain ⟨nm, q, N, bs, bm, sn, sub, ab, col, dd, k0, k1, k2, k3, k5, hC, hbm, hal⟩ := T.cls
  refine wpAny_Call_Name_kw (ld_glob I hg hm ?_ hdb)
  refine PySem.W.callWith_K (h₀ := X.base) I.ok.mod.kin T.kC (thn (ha.run pos pins s σ H _ I h) fun us s1 ⟨vs, H1, I1, r1, hz, q1⟩ => ⟨I1.kIn, ?_⟩) he hpl
  show wpAny _ _ (call (.ref C) us) _ _ _
  obtain ⟨hp, g, dr, tk, os⟩ := s1
  have hl : us.length = n := by rw [← r1.length]; exact hz
  have kk : ∀ b o, hp.get? b = some o → ((hp.push (PySem.W.kdv_tup us)).push (PySem.HandSPX.excO C hp.objs.size)).get? b = some o := fun b o e => Heap.get?_push_of_some _ (Heap.get?_push_of_some _ e)
  have hget : ((hp.push (PySem.W.kdv_tup us)).push (PySem.HandSPX.excO C hp.objs.size)).get? (hp.objs.size + 1) = some (PySem.HandSPX.excO C hp.objs.size) := by heap_get
  have hus : us.length ≤ sizeLine := by
    rw [hl, sizeLine_eq]; omega
  have hne : hp.get? (hp.objs.size + 1) = none := Heap.get?_none_of_le (Nat.le_succ _)
  refine wpAny_call (PySem.HandSPX.call_own PySem.F.excBase_Exception (fun Y => refsE_contains Y bm hbm) (I1.kIn _ _ hC) (PySem.W.looks_findIn I1.kIn T.iC) (fun self => PySem.W.bind_fn I1.kIn self T.tI) hus
    (F _ ⟨(hp.push (PySem.W.kdv_tup us)).push (PySem.HandSPX.excO C hp.objs.size), g, dr, tk, os⟩ (hp.objs.size + 1) hp.objs.size us X.base _ I1.ok.mod (fun b o e => kk b o (I1.bk b o e)) (by
      cases z : X.base.get? (hp.objs.size + 1) with
      | none => rfl
      | some o =>
        have := I1.bk _ _ z
        rw [hne] at this; cases this) (hr.make C us []).depth hl hget fun h' tk' t1 dx k nd dne hx hn => ?_))
  refine ⟨rfl, ?_⟩
  obtain ⟨G, g1', g2'⟩ := restrict h' fun b => decide (b ≠ hp.objs.size + 1)
  have gk : ∀ b, b ≠ hp.objs.size + 1 → G.get? b = h'.get? b := fun b hb => g1' b (decide_eq_true hb)
  have ge : G.get? (hp.objs.size + 1) = none := g2' _ (by simp)
  have na : ∀ {b : Addr} {o : Obj}, hp.get? b = some o → b ≠ hp.objs.size + 1 := fun {b o} z y => by rw [y, hne] at z; cases z
  have kG : ∀ b o, hp.get? b = some o → G.get? b = some o := fun b o e => by
    rw [gk b (na e)]
    exact k b o (na e) (kk b o e)
  have hnd : ∀ {b : Addr} {o : Obj}, hp.get? b = some o → b ≠ dx := fun {b o} e => nd b o (kk b o e)
  have hd : H1 dx = none := by
    cases z : H1 dx with
    | none => rfl
    | some o =>
      obtain ⟨o2, z2⟩ := objOk_there (I1.hok _ _ z)
      exact absurd rfl (hnd z2)
  have hns : G.Ns1 dx (ms us) := hn.at fun o y => (gk dx dne).trans y
  have U : Un (frs X.stack) [] H1 (upd H1 dx (.xd (fs vs))) hp G := {
    keep := fun b o z n hf hx => kG b o z
    slot := fun b o z n hf hx => ⟨o.slots, kG b o z⟩
    free := fun b o z n hx => by rw [upd_ne (hnd z)]; exact n
    there := fun b o z hx => ⟨o, kG b o z⟩
    tups := fun b xs z => by rw [upd_ne (ne_of_none z hd)]; exact z
    frzs := fun b o v z => by rw [upd_ne (ne_of_none z hd)]; exact z
    tbls := fun b ps z => ⟨#[], by rw [upd_ne (ne_of_none z hd), z]; simp⟩ }
  have hok3 : HOk X.prog X.w (upd H1 dx (.xd (fs vs))) G := fun b o z => by
    by_cases hbd : b = dx
    · subst hbd
      rw [upd_same] at z
      cases z
      exact ⟨_, hns, hfs vs us r1 hz⟩
    · rw [upd_ne hbd] at z
      exact (I1.hok b o z).stay (fun c v _ y => kG c v y) (fun c hc => by rw [upd_ne (ne_of_none hc hd)]; exact hc) (fun c xs hc => by rw [upd_ne (ne_of_none hc hd)]; exact hc)
  have J : Inv X pins σ (upd H1 dx (.xd (fs vs))) ⟨G, g, dr, tk', os⟩ := I1.call' (ch := []) rfl U hok3 I1.bare (fun b z => absurd z (by simp))
  refine ⟨hp.objs.size + 1, _, _, ⟨G, g, dr, tk', os⟩, _, .ref C, some dx, rfl, J, fun b o z => ?_, ge, hx, ⟨rfl, rfl⟩, rfl, rfl, ?_, rfl, I1.bare, raises_own T.exC T.tyC, q1 dx hd⟩
  · by_cases hba : b = hp.objs.size + 1
    · rw [hba, ge] at z
      cases z
    · exact (gk b hba).symm.trans z
  · rw [upd_ne (Ne.symm dne)]
    exact I1.hok.fresh (Nat.le_succ _)
end MX
end
section
set_option Elab.async false
set_option linter.all false
set_option maxRecDepth 100000
set_option maxHeartbeats 4000000
/-! M14: raise, try. -/
namespace L2
open PySem PySem.Spec PyProof.Rows
/-- what the clauses 'except x as n' wish of an exception of the body, one after the other -/
def wManyAs (K : PySem.W.Frag) (i : Nat) (Wout : WX) (D : Ends) : List (Value × (Addr → Value → Option Addr → TS)) → WX
  | [] => Wout
  | (c, ts) :: r => fun cls d σ H => ∃ b, PySem.W.exmOne K cls c = some b ∧ (b = true → ∀ a, H a = none → ts a cls d { nx := fun σ' H' => D.nx (σ'.set i none) H', rt := D.rt, bk := fun σ' H' => D.bk (σ'.set i none) H', ct := fun σ' H' => D.ct (σ'.set i none) H' } (σ.set i (some (.ref a))) H) ∧
    (b = false → wManyAs K i Wout D r cls d σ H)
inductive HdsAs (X : Cx) (n : Str) : List ExceptHandler → List (Value × (Addr → Value → Option Addr → TS)) → Prop
  | nil : HdsAs X n [] []
  | cons {x : Str} {c : Value} {ts : Addr → Value → Option Addr → TS} {b₀ : Stmt} {suite : List Stmt} {np pos' : Pos} {hds : List ExceptHandler} {l : List (Value × (Addr → Value → Option Addr → TS))} (hc : Names X x c)
      (hsu : ∀ (a : Addr) (oe : Obj) (cls : Value) (d : Option Addr) (pn : List (Addr × Obj)), Zc cls d oe → (∃ vs, oe.data = .fields vs) → PSs (X.suite a ((a, oe) :: pn)) (b₀ :: suite) (ts a cls d)) (r : HdsAs X n hds l) :
      HdsAs X n (.ExceptHandler (some (.Name x np)) (some n) (b₀ :: suite) pos' :: hds) ((c, ts) :: l)
section
variable {X : Cx} {body : List Stmt} {n : Str} {i : Nat} {h₀ : ExceptHandler} {hds : List ExceptHandler} {l : List (Value × (Addr → Value → Option Addr → TS))} {pos : Pos} {tb : WX → TS} {Wout : WX}
theorem ps_try_manyAs (hs : X.stack = X.env :: X.outer) (hf : X.env.frame = some X.env.locals) (hN : X.N.Nodup) (hi : X.N[i]? = some n) (hln : X.env.kindOf n = some .local) (tk : Takes X Wout)
    (hb : ∀ (W : WX) (pn : List (Addr × Obj)) (xe : Value → Shared → Prop), Takes (X.tr pn xe) W → PassesOwn (model X.prog X.w) X.A X.env xe → PSs (X.tr pn xe) body (tb W))
    (hh : HdsAs X n (h₀ :: hds) l) : PS X (.Try body (h₀ :: hds) [] [] pos) (fun D σ H => tb (wManyAs X.K i Wout D l) D σ H) := by
  refine ⟨fun pins s σ H D I h => ?_⟩
  have ok := I.ok
  have hfr : X.A.frames = some (X.env :: X.outer) := by rw [ok.frames, hs]
  have hloc : Loc X.env.scope n := .inl hln
  refine wpAny_Try_except ?_
  refine wpAny_mono ((hb (wManyAs X.K i Wout D l) (X.pn ++ pins) (fun e s₁ => wpAny (model X.prog X.w) X.A (noteFrame e X.env) (fun _ s₂ => wpAny (model X.prog X.w) X.A (setFlight e none) (fun _ s₃ =>
    wpAny (model X.prog X.w) X.A (handleBy e X.env (h₀ :: hds)) (SP X pins D) X.xe s₃) X.xe s₂) X.xe s₁) (fun u s' xx => ?_) PassesOwn.looking).run [] s σ H D (I.toTry _) h) (fun f s1 hsp => ?_) (fun e s1 he => he)
  · -- the catch
    obtain ⟨a, B, sI, pins', σ', H', cls, d, rfl, J', nb, up, sky, na, os, ag, w⟩ := xx
    have J : Inv X pins σ' H' sI := J'.ofTry ok
    have sky' : Sky B (X.env :: X.outer) a (Zc cls d) X.env.locals s'.heap := by rw [← hs]; exact sky
    show wpAny (model X.prog X.w) X.A (noteFrame (.ref a) X.env) _ _ _
    refine Sky.land Zc.steady hfr hf sky' fun h3 fl3 up3 => ?_
    have J3 : Inv X pins σ' H' { s' with heap := h3 } := J.landed nb fl3.1 (up.trans up3) os ag
    obtain ⟨oe3, vs3, he3, hz3, hd3⟩ := fl3.there
    have notFr : ∀ {h : Heap} {o : Obj} {vs : Array Value}, h.FunFrames B (X.env :: X.outer) → h.get? a = some o → o.data = .fields vs → a ∉ frs (X.env :: X.outer) := fun {h o vs} ff e dd hm => by
      obtain ⟨_, o', e', hnf⟩ := ff.mem hm
      rw [e] at e'; cases e'
      exact hnf _ dd
    have nfr := notFr fl3.2.2.1 he3 hd3
    have nL : a ≠ X.env.locals := fun z => nfr (List.mem_filterMap.mpr ⟨X.env, List.mem_cons_self, by rw [hf, z]⟩)
    have nF : a ∉ X.fs := fun hm => by
      obtain ⟨e, he, q⟩ := List.mem_filterMap.mp hm
      exact nfr (List.mem_filterMap.mpr ⟨e, List.mem_cons_of_mem _ he, q⟩)
    have S3 := J3.suite he3 hd3 na nL nF
    have go : ∀ {hds' : List ExceptHandler} {l' : List (Value × (Addr → Value → Option Addr → TS))}, HdsAs X n hds' l' → wManyAs X.K i Wout D l' cls d σ' H' →
        wpAny (model X.prog X.w) X.A (handleBy (.ref a) X.env hds') (SP X pins D) X.xe { s' with heap := h3 } := by
      intro hds' l' hk
      induction hk with
      | nil =>
        intro w
        refine wpAny_handleBy_nil ?_
        obtain ⟨k1, k2, k3, oe, vs, T, oT, ts', he, hz, hd, h1, hr⟩ := id fl3
        unfold PySem.passOn
        refine wpAny_bind (wpAny_field he hd h1 ?_)
        rw [if_neg (show ¬ ((Value.ref T == Value.none) = true) from by simp)]
        have fin : wpAny (model X.prog X.w) X.A (setFlight (.ref a) X.env.frame) (fun _ s4 => wpAny (model X.prog X.w) X.A (throw (.ref a) : Sem Flow) (SP X pins D) X.xe s4) X.xe { s' with heap := h3 } := by
          rw [hf]
          refine HandSPX.setFlight_upZ fl3 fun h4 hh4 up4 => wpAny_throw (tk _ _ ?_)
          exact ⟨a, B, sI, pins, σ', H', cls, d, rfl, J, nb, (up.trans up3).trans up4, .inr (.inr (by rw [hs]; exact hh4)), na, os, ag, w⟩
        first
          | exact wpAny_bind (wpAny_pure (wpAny_bind fin))
          | exact wpAny_bind fin
      | @cons x c ts b₀ suite np pos' hds2 l2 hc hsu r ih =>
        intro w
        obtain ⟨b, hb1, hyes, hno⟩ := w
        refine wpAny_handleBy_cons (codeAny_handlers_test ?_) (by intro q; cases q)
        have LT : PySem.W.Looks (model X.prog X.w) h3 (typeOf (.ref a)) cls := fun A Q E s k q => wpAny_typeOf_ref (k _ _ he3) (by rw [hz3.1]; exact q)
        have LM := PySem.W.exm_one (M := model X.prog X.w) (J3.kIn) LT hb1
        have test : ∀ {Q : Value → Shared → Prop} {E : Value → Shared → Prop}, Q c { s' with heap := h3 } → wpAny (model X.prog X.w) (X.A.mark (some (.ref a))) (eval (.Name x np) X.env) Q E { s' with heap := h3 } := fun {Q E} q => by
          obtain ⟨hg, hdbg, hm | ⟨hm, hv, hnn⟩⟩ := hc
          · exact ld_glob (X := X.suite a ((a, oe3) :: (X.pn ++ pins))) S3 hg hm q hdbg
          · exact ld_blt (X := X.suite a ((a, oe3) :: (X.pn ++ pins))) S3 hg hm hv q hnn hdbg
        refine test (LM.here ?_)
        cases b with
        | true =>
          refine codeAny_handlers_suite_as ?_
          refine HandSPX.lands_againZ fl3 fun h4 fl4 up4 => ?_
          have J4 : Inv X pins σ' H' { s' with heap := h4 } := J.landed nb fl4.1 ((up.trans up3).trans up4) os ag
          obtain ⟨oe4, vs4, he4, hz4, hd4⟩ := fl4.there
          have S4 := J4.suite he4 hd4 na nL nF
          refine store_ok (X := X.suite a ((a, oe4) :: (X.pn ++ pins))) (v := .ref a) S4 hN hi hloc rfl (fun s5 S5 => ?_) (.inr hln)
          refine wpAny_mono ((hsu a oe4 cls d (X.pn ++ pins) hz4 ⟨_, hd4⟩).run [] s5 _ H' _ S5 (hyes rfl a na)) (fun f s6 hsp => ?_) (fun _ _ z => False.elim z)
          have end_ : ∀ {σ6 : St} {H6 : Hp} {Q : Shared → Prop}, Inv (X.suite a ((a, oe4) :: (X.pn ++ pins))) [] σ6 H6 s6 → (∀ s7, Inv X pins (σ6.set i none) H6 s7 → Q s7) →
              wpAny (model X.prog X.w) X.A (do bindName X.env n .none; unbindBehindTheSuite X.env n pos') (fun _ s7 => Q s7) X.xe s6 := fun {σ6 H6 Q} S6 hq => gone_ok (S6.unsuite ok) hN hi hln hq
          cases f with
          | next =>
            obtain ⟨σ6, H6, S6, q6⟩ := hsp
            exact end_ S6 fun s7 J7 => ⟨_, _, J7, q6⟩
          | brk =>
            obtain ⟨σ6, H6, S6, q6⟩ := hsp
            exact end_ S6 fun s7 J7 => ⟨_, _, J7, q6⟩
          | cont =>
            obtain ⟨σ6, H6, S6, q6⟩ := hsp
            exact end_ S6 fun s7 J7 => ⟨_, _, J7, q6⟩
          | ret u =>
            obtain ⟨v6, σ6, H6, S6, r6, q6⟩ := hsp
            exact end_ S6 fun s7 J7 => ⟨_, _, _, J7, r6, q6⟩
        | false =>
          show wpAny _ X.A (handleBy (.ref a) X.env hds2) _ _ _
          exact ih (hno rfl)
    exact go hh w
  · cases f with
    | next =>
      obtain ⟨σ', H', J', q⟩ := hsp
      exact wpAny_execs_nil ⟨σ', H', J'.ofTry ok, q⟩
    | brk =>
      obtain ⟨σ', H', J', q⟩ := hsp
      exact ⟨σ', H', J'.ofTry ok, q⟩
    | cont =>
      obtain ⟨σ', H', J', q⟩ := hsp
      exact ⟨σ', H', J'.ofTry ok, q⟩
    | ret u =>
      obtain ⟨v, σ', H', J', r, q⟩ := hsp
      exact ⟨v, σ', H', J'.ofTry ok, r, q⟩
end
end L2
namespace MP
open PySem PySem.Spec PyProof.Rows L2

/-! ### raise -/
def sRaise (cls : Str) (fs : List Str) (fa : MA) : MS := fun ρ h => (fa ρ h).toS ρ fun ds h1 => if ds.length = fs.length then .err ⟨cls, fs.zip ds⟩ ρ h1 else .stuck
/-- an exception's class can be made: its fields' names -/
def MakesX (X : Cx) (x : Str) (C : Addr) (fs : List Str) (e : Expr) (es : List Expr) (p pos : Pos) : Prop := ∀ (ta : TA), PA X (e :: es) ta →
  PMk X (.Call (.Name x p) (e :: es) [] pos) (fun σ H Q => ta σ H fun vs H1 => vs.length = fs.length ∧ ∀ d, H1 d = none → Q (.ref C) (some d) (upd H1 d (.xd (fs.zip vs))))
section
variable {X : Cx} {Γ : G} {W : WX}
theorem zip_fst {α β : Type} : ∀ {l : List α} {m : List β}, m.length = l.length → (l.zip m).map (·.1) = l
  | [], [], _ => rfl
  | _ :: _, [], h => by cases h
  | [], _ :: _, h => by cases h
  | a :: l, b :: m, h => by rw [List.zip_cons_cons, List.map_cons, zip_fst (Nat.succ.inj h)]
theorem zip_snd {α β : Type} : ∀ {l : List α} {m : List β}, m.length = l.length → (l.zip m).map (·.2) = m
  | [], [], _ => rfl
  | _ :: _, [], h => by cases h
  | [], _ :: _, h => by cases h
  | a :: l, b :: m, h => by rw [List.zip_cons_cons, List.map_cons, zip_snd (Nat.succ.inj h)]
theorem fs_raise {x : Str} {C : Addr} {fs : List Str} {e : Expr} {es : List Expr} {fa : MA} {p pos pos' : Pos} (hX : CxG X Γ) (hc : X.calm = true) (tk : Takes X W) (hm : X.mg x = some (.ref C)) (mk : MakesX X x C fs e es p pos) (ha : FA X Γ W (e :: es) fa) :
    FS X Γ W (.Raise (some (.Call (.Name x p) (e :: es) [] pos)) none pos') (sRaise x fs fa) := by
  refine ⟨(ps_raise hc tk (mk _ ha.ok)).imp fun N σ H q => ?_⟩
  obtain ⟨ρ, h, μ, he, hr, q⟩ := q
  refine ⟨ρ, h, μ, he, hr, GoodS.bind he q fun ds h1 vs H1 μ1 z1 e1 r1 d1 q1 => ?_⟩
  split at q1
  · rename_i hl
    have hl2 : vs.length = fs.length := d1.length.trans hl
    refine ⟨hl2, fun d hd => q1 (.ref C) (some d) σ _ μ1 (Ext.laid hd) ((he.mono e1).mono (Ext.laid hd)) (r1.laid hd) ⟨C, d, vs, rfl, rfl, by rw [← hX.m]; exact hm, ?_, ?_⟩⟩
    · show upd H1 d _ d = some (HO.xd (((fs.zip ds).map (·.1)).zip vs))
      rw [zip_fst hl, upd_same]
    · show Dens Γ μ1 _ vs ((fs.zip ds).map (·.2))
      rw [zip_snd hl]
      exact d1.mono (Ext.laid hd)
  · exact False.elim q1
end

/-! ### try -/
/-- a clause 'except x as n', its table (which exceptions it takes), its suite -/
structure Cls where
  tab : Str → Option Bool
  go : Ex → MS
def unsetS (i : Nat) : RS → RS
  | .nx ρ h => .nx (ρ.set i none) h
  | .bk ρ h => .bk (ρ.set i none) h
  | .ct ρ h => .ct (ρ.set i none) h
  | .err _ _ _ => .stuck
  | r => r
def pickS (i : Nat) (e : Ex) (ρ : Rho) (h : List MO) : List Cls → RS
  | [] => .err e ρ h
  | c :: r => match c.tab e.cls with
  | some true => if i < ρ.length then unsetS i (c.go e (ρ.set i none) h) else .stuck
    | some false => pickS i e ρ h r
    | none => .stuck
def sTry (i : Nat) (b : MS) (cs : List Cls) : MS := fun ρ h => match b ρ h with
  | .err e ρ1 h1 => pickS i e ρ1 h1 cs
  | r => r
section
variable {X : Cx} {Γ : G} {W : WX}
/-- one clause -/
structure FC (X : Cx) (Γ : G) (i : Nat) (n : Str) (hd : ExceptHandler) (c : Cls) : Prop where
  ok : ∃ (x : Str) (np pos' : Pos) (b₀ : Stmt) (suite : List Stmt) (cv : Value) (ts : Addr → Value → Option Addr → TS), hd = .ExceptHandler (some (.Name x np)) (some n) (b₀ :: suite) pos' ∧ Names X x cv ∧
    (∀ (a : Addr) (oe : Obj) (cls : Value) (d : Option Addr) (pn : List (Addr × Obj)), Zc cls d oe → (∃ vs, oe.data = .fields vs) → PSs (X.suite a ((a, oe) :: pn)) (b₀ :: suite) (ts a cls d)) ∧
    (∀ (y : Str) (b : Bool) (C : Addr), c.tab y = some b → Γ.mg y = some (.ref C) → PySem.W.exmOne X.K (.ref C) cv = some b) ∧
    (∀ (e : Ex) (a : Addr) (cls : Value) (d : Option Addr) (σ : L2.St) (ρ : Rho) (H : Hp) (μ : List Addr) (h : List MO) (N : Ends), c.tab e.cls = some true → EnvOk Γ μ H σ ρ → σ[i]? = some (some (.ref a)) → Rel Γ H μ h → ExOk Γ H μ cls d e → GoodS Γ W0 H μ N (c.go e ρ h) → ts a cls d N σ H)
inductive FCs (X : Cx) (Γ : G) (i : Nat) (n : Str) : List ExceptHandler → List Cls → Prop
  | nil : FCs X Γ i n [] []
  | cons {hd : ExceptHandler} {c : Cls} {hds : List ExceptHandler} {cs : List Cls} : FC X Γ i n hd c → FCs X Γ i n hds cs → FCs X Γ i n (hd :: hds) (c :: cs)
theorem good_unset {N : Ends} {H : Hp} {μ : List Addr} {i : Nat} : ∀ {r : RS}, GoodS Γ W H μ N (unsetS i r) → GoodS Γ W0 H μ { nx := fun σ' H' => N.nx (σ'.set i none) H', rt := N.rt, bk := fun σ' H' => N.bk (σ'.set i none) H', ct := fun σ' H' => N.ct (σ'.set i none) H' } r
  | .nx ρ h, g => fun σ' H' μ' e he r => g _ H' μ' e (he.wipe i) r
  | .rt d h, g => g
  | .bk ρ h, g => fun σ' H' μ' e he r => g _ H' μ' e (he.wipe i) r
  | .ct ρ h, g => fun σ' H' μ' e he r => g _ H' μ' e (he.wipe i) r
  | .err _ _ _, g => False.elim g
  | .stuck, g => g
theorem fcs_run {i : Nat} {n : Str} {hds : List ExceptHandler} {cs : List Cls} (hi : X.N[i]? = some n) (h : FCs X Γ i n hds cs) : ∃ l, HdsAs X n hds l ∧ ∀ (N : Ends) (e : Ex) (cls : Value) (d : Option Addr) (σ : L2.St) (ρ : Rho) (H : Hp) (μ : List Addr) (hh : List MO), EnvOk Γ μ H σ ρ → Rel Γ H μ hh → ExOk Γ H μ cls d e →
    GoodS Γ W H μ N (pickS i e ρ hh cs) → wManyAs X.K i W N l cls d σ H := by
  induction h with
  | nil => exact ⟨[], .nil, fun N e cls d σ ρ H μ hh he r x g => g cls d σ H μ (Ext.refl _ _) he r x⟩
  | cons hc _ ih =>
    obtain ⟨l, hl, ih⟩ := ih
    obtain ⟨x, np, pos', b₀, suite, cv, ts, rfl, hn, hps, ht, hg⟩ := hc.ok
    refine ⟨(cv, ts) :: l, .cons hn hps hl, fun N e cls d σ ρ H μ hh he r x g => ?_⟩
    unfold pickS at g
    split at g
    · rename_i et
      obtain ⟨C, dx, vs, rfl, rfl, em, e4, e5⟩ := id x
      refine ⟨true, ht _ _ _ et em, fun _ a ha => ?_, fun z => by cases z⟩
      split at g
      case isFalse => exact False.elim g
      rename_i hlt
      rw [← he.len] at hlt
      exact hg e a _ _ _ _ H μ hh _ et (he.wipe i) (by rw [List.getElem?_set_self hlt]) r x (good_unset g)
    · rename_i et
      obtain ⟨C, dx, vs, rfl, rfl, em, e4, e5⟩ := id x
      exact ⟨false, ht _ _ _ et em, fun z => (by cases z), fun _ => ih N e _ _ σ ρ H μ hh he r x g⟩
    · exact False.elim g
theorem fs_try {i : Nat} {n : Str} {body : List Stmt} {fb : MS} {h₀ : ExceptHandler} {hds : List ExceptHandler} {cs : List Cls} {pos : Pos} (hs : X.stack = X.env :: X.outer) (hf : X.env.frame = some X.env.locals) (hN : X.N.Nodup) (hi : X.N[i]? = some n) (hln : X.env.kindOf n = some .local) (tk : Takes X W)
    (hb : ∀ (W' : WX) (pn : List (Addr × Obj)) (xe : Value → Shared → Prop), Takes (X.tr pn xe) W' → PassesOwn (model X.prog X.w) X.A X.env xe → FSs (X.tr pn xe) Γ W' body fb)
    (hh : FCs X Γ i n (h₀ :: hds) cs) : FS X Γ W (.Try body (h₀ :: hds) [] [] pos) (sTry i fb cs) := by
  obtain ⟨l, hl, run⟩ := fcs_run (W := W) hi hh
  refine ⟨(ps_try_manyAs hs hf hN hi hln tk (fun W' pn xe t p => (hb W' pn xe t p).ok) hl).imp fun N σ H q => ?_⟩
  obtain ⟨ρ, h, μ, he, hr, q⟩ := q
  refine ⟨ρ, h, μ, he, hr, ?_⟩
  unfold sTry at q
  cases eb : fb ρ h with
  | nx ρ1 h1 => rw [eb] at q; exact q
  | rt d h1 => rw [eb] at q; exact q
  | bk ρ1 h1 => rw [eb] at q; exact q
  | ct ρ1 h1 => rw [eb] at q; exact q
  | err e ρ1 h1 =>
    rw [eb] at q
    exact fun cls d σ' H' μ' e1 he1 r1 x => run N e cls d σ' ρ1 H' μ' h1 he1 r1 x (GoodS.mono e1 q)
  | stuck => rw [eb] at q; exact q

/-! ### suites: return ('x', e.f, ..) -/
inductive XIt where
  | s (l : List Nat) | i (k : Int) | f (x : Str)
def itD (fs : List (Str × D)) : XIt → Option D
  | .s l => some (.str l)
  | .i k => some (.int k)
  | .f x => fs.lookup x
def itV (fs : List (Str × V)) : XIt → Option V
  | .s l => some (.str (S l))
  | .i k => some (.int k)
  | .f x => fs.lookup x
def itsD (fs : List (Str × D)) : List XIt → Option (List D)
  | [] => some []
  | t :: ts => match itD fs t, itsD fs ts with
    | some d, some ds => some (d :: ds)
    | _, _ => none
def itsV (fs : List (Str × V)) : List XIt → Option (List V)
  | [] => some []
  | t :: ts => match itV fs t, itsV fs ts with
    | some d, some ds => some (d :: ds)
    | _, _ => none
inductive ItsOk (X : Cx) (C : Addr) (n : Str) : List Expr → List XIt → Prop
  | nil : ItsOk X C n [] []
  | s {x : Str} {l : List Nat} {j pos es ts} : x = S l → ItsOk X C n es ts → ItsOk X C n (.Constant (.str x) j pos :: es) (.s l :: ts)
  | i {k : Int} {j pos es ts} : ItsOk X C n es ts → ItsOk X C n (.Constant (.int k) j pos :: es) (.i k :: ts)
  | f {x : Str} {np pos es ts} : PySem.W.findIn X.K (.ref C) x = some none → ItsOk X C n es ts → ItsOk X C n (.Attribute (.Name n np) x pos :: es) (.f x :: ts)
def tIts (a : Addr) (cls : Value) (d : Option Addr) (C : Addr) (i : Nat) (its : List XIt) : TA := fun σ H Q => cls = .ref C ∧ σ[i]? = some (some (.ref a)) ∧ ∃ dd fs vs, d = some dd ∧ H dd = some (.xd fs) ∧ itsV fs its = some vs ∧ Q vs H
theorem starEach_at {n f : Str} {np pos : Pos} {es : List Expr} {env : Env} : starEach (.Attribute (.Name n np) f pos :: es) env = (false, eval (.Attribute (.Name n np) f pos) env) :: starEach es env := rfl
theorem its_run {C a : Addr} {n : Str} {i : Nat} {oe : Obj} {cls : Value} {d : Option Addr} {pn : List (Addr × Obj)} (T : XfC X.K C) (hi : X.N[i]? = some n) (hv : Vis X.env.scope n) (hd : (n == ("__debug__" : Str)) = false) (hcd : (n == ("__classdict__" : Str)) = false)
    (hz : Zc cls d oe) (hf : ∃ vs, oe.data = .fields vs) (hb : ∀ x, attributeBase (.Name n default) x X.env (eval (.Name n default) X.env) = eval (.Name n default) X.env) : ∀ {es : List Expr} {its : List XIt}, ItsOk X C n es its → PA (X.suite a ((a, oe) :: pn)) es (tIts a cls d C i its) := by
  intro es its h
  induction h with
  | nil =>
    refine pa_nil.imp fun σ H Q q => ?_
    obtain ⟨_, _, dd, fs, vs, _, _, e, q⟩ := q
    cases e
    exact q
  | @s x l j pos es ts ex _ ih =>
    refine (pa_cons (pe_str (X := X.suite a ((a, oe) :: pn)) (x := x)) ih rfl).imp fun σ H Q q => ?_
    obtain ⟨ec, es, dd, fs, vs, ed, eh, e, q⟩ := q
    have e' : (match itV fs (.s l), itsV fs ts with | some d, some ds => some (d :: ds) | _, _ => none) = some vs := e
    cases e2 : itsV fs ts with
    | none => rw [e2] at e'; simp [itV] at e'
    | some us =>
      rw [e2] at e'
      simp [itV] at e'
      subst e'
      subst ex
      exact ⟨ec, es, dd, fs, us, ed, eh, e2, q⟩
  | @i k j pos es ts _ ih =>
    refine (pa_cons (pe_int (X := X.suite a ((a, oe) :: pn)) (i := k)) ih rfl).imp fun σ H Q q => ?_
    obtain ⟨ec, es, dd, fs, vs, ed, eh, e, q⟩ := q
    have e' : (match itV fs (.i k), itsV fs ts with | some d, some ds => some (d :: ds) | _, _ => none) = some vs := e
    cases e2 : itsV fs ts with
    | none => rw [e2] at e'; simp [itV] at e'
    | some us =>
      rw [e2] at e'
      simp [itV] at e'
      subst e'
      exact ⟨ec, es, dd, fs, us, ed, eh, e2, q⟩
  | @f x np pos es ts hno _ ih =>
    refine (pa_cons (pe_xf (X := X) (a := a) (oe := oe) (pn := pn) T hno hz hf (pe_var (X := X.suite a ((a, oe) :: pn)) hi hv hd hcd) rfl) ih rfl).imp fun σ H Q q => ?_
    obtain ⟨ec, es, dd, fs, vs, ed, eh, e, q⟩ := q
    have e' : (match itV fs (.f x), itsV fs ts with | some d, some ds => some (d :: ds) | _, _ => none) = some vs := e
    cases e1 : itV fs (.f x) with
    | none => rw [e1] at e'; simp at e'
    | some u =>
      cases e2 : itsV fs ts with
      | none => rw [e1, e2] at e'; simp at e'
      | some us =>
        rw [e1, e2] at e'
        simp at e'
        subst e'
        exact ⟨_, es, rfl, ec, dd, fs, u, ed, eh, e1, ec, es, dd, fs, us, ed, eh, e2, q⟩
theorem its_den {μ : List Addr} {H : Hp} {fs : List (Str × D)} : ∀ {vs : List V}, Dens Γ μ H vs (fs.map (·.2)) → ∀ {its : List XIt} {ds : List D}, itsD fs its = some ds → ∃ us, itsV ((fs.map (·.1)).zip vs) its = some us ∧ Dens Γ μ H us ds := by
  intro vs k its
  have look : ∀ (fs : List (Str × D)) (vs : List V), Dens Γ μ H vs (fs.map (·.2)) → ∀ x d, fs.lookup x = some d → ∃ v, ((fs.map (·.1)).zip vs).lookup x = some v ∧ Den Γ μ H v d := by
    intro fs
    induction fs with
    | nil => intro vs _ x d e; cases e
    | cons p fs ih =>
      intro vs k x d e
      obtain ⟨y, d0⟩ := p
      obtain ⟨v, r, rfl, k1, k2⟩ := k
      rw [List.lookup_cons] at e
      show ∃ v_1, List.lookup x ((y, v) :: (fs.map (·.1)).zip r) = some v_1 ∧ _
      rw [List.lookup_cons]
      split at e
      · cases e; exact ⟨v, rfl, k1⟩
      · exact ih r k2 x d e
  induction its with
  | nil => intro ds e; cases e; exact ⟨[], rfl, rfl⟩
  | cons t ts ih =>
    intro ds e
    have e' : (match itD fs t, itsD fs ts with | some d, some ds => some (d :: ds) | _, _ => none) = some ds := e
    cases e1 : itD fs t with
    | none => rw [e1] at e'; simp at e'
    | some d =>
      cases e2 : itsD fs ts with
      | none => rw [e1, e2] at e'; simp at e'
      | some es =>
        rw [e1, e2] at e'
        simp at e'
        subst e'
        obtain ⟨us, h1, h2⟩ := ih e2
        have : ∃ v, itV ((fs.map (·.1)).zip vs) t = some v ∧ Den Γ μ H v d := by
          cases t with
          | s l => cases e1; exact ⟨_, rfl, rfl⟩
          | i k => cases e1; exact ⟨_, rfl, rfl⟩
          | f x => exact look fs vs k x d e1
        obtain ⟨v, h3, h4⟩ := this
        refine ⟨v :: us, ?_, v, us, rfl, h4, h2⟩
        show (match itV ((fs.map (·.1)).zip vs) t, itsV ((fs.map (·.1)).zip vs) ts with | some d, some ds => some (d :: ds) | _, _ => none) = _
        rw [h3, h1]
def goRet (its : List XIt) (e : Ex) : MS := fun _ h => match itsD e.fs its with
  | some ds => if ds.length ≤ LINE then .rt (.tup ds) h else .stuck
  | none => .stuck
theorem fc_ret {x n : Str} {i : Nat} {C : Addr} {cv : Value} {tab : Str → Option Bool} {its : List XIt} {es : List Expr} {k : Nat} {np pos pos' tp : Pos} (hX : CxG X Γ) (hn : Names X x cv) (hm : X.mg x = some (.ref C)) (T : XfC X.K C) (hi : X.N[i]? = some n) (hv : Vis X.env.scope n) (hd : (n == ("__debug__" : Str)) = false) (hcd : (n == ("__classdict__" : Str)) = false)
    (hb : ∀ x, attributeBase (.Name n default) x X.env (eval (.Name n default) X.env) = eval (.Name n default) X.env) (ht : ∀ (y : Str) (b : Bool) (C : Addr), tab y = some b → X.mg y = some (.ref C) → PySem.W.exmOne X.K (.ref C) cv = some b) (h1 : ∀ y, tab y = some true → y = x) (ok : ItsOk X C n es its) :
    FC X Γ i n (.ExceptHandler (some (.Name x np)) (some n) [.Return (some (.Tuple es k tp)) pos] pos') ⟨tab, goRet its⟩ := by
  refine ⟨x, np, pos', _, [], cv, fun a cls d => fun D σ H => tTup (tIts a cls d C i its) σ H D.rt, rfl, hn, fun a oe cls d pn hz hf => pss_one (ps_ret (pe_tup (its_run T hi hv hd hcd hz hf hb ok))), fun y b C' e m => ht y b C' e (by rw [hX.m]; exact m), ?_⟩
  intro e a cls d σ ρ H μ h N et he es r xx g
  have ex := h1 _ et
  obtain ⟨C', dx, vs, rfl, rfl, em, e4, e5⟩ := xx
  have g' : GoodS Γ W0 H μ N (match itsD e.fs its with | some ds => if ds.length ≤ LINE then .rt (.tup ds) h else .stuck | none => .stuck) := g
  split at g'
  · rename_i ds eq
    split at g'
    · rename_i hl
      obtain ⟨us, f1, f2⟩ := its_den e5 eq
      have hC : C' = C := by
        have em' : Γ.mg e.cls = some (.ref C') := em
        rw [ex, ← hX.m, hm] at em'
        cases em'; rfl
      subst hC
      refine ⟨rfl, es, dx, _, us, rfl, e4, f1, by rw [line_eq, f2.length]; exact hl, fun p hp => ?_⟩
      exact g' _ _ μ (Ext.laid hp) (r.laid hp) ⟨p, us, rfl, .inl ⟨r.fresh hp, .inl upd_same⟩, f2.mono (Ext.laid hp)⟩
    · exact False.elim g'
  · exact False.elim g'
end
end MP
end
section
set_option Elab.async false
set_option linter.all false
set_option maxRecDepth 100000
set_option maxHeartbeats 2000000
/-! M15: cells put away and known again. -/
namespace MP
open PySem PySem.Spec PyProof.Rows L2

def addC (H : Hp) (cells : List Addr) (g : Addr → Obj) : Hp := fun b => if b ∈ cells then some (.frz (g b) (.own 0)) else H b
section
variable {P : Program} {w : World} {H H' H1 : Hp} {h h' B : Heap} {cells : List Addr} {g : Addr → Obj} {fs : List Addr}
theorem addC_in {b : Addr} (m : b ∈ cells) : addC H cells g b = some (.frz (g b) (.own 0)) := if_pos m
theorem addC_out {b : Addr} (m : b ∉ cells) : addC H cells g b = H b := if_neg m
theorem hideC_in {b : Addr} (m : b ∈ cells) : hideC H cells b = none := if_pos m
theorem hideC_out {b : Addr} (m : b ∉ cells) : hideC H cells b = H b := if_neg m
theorem hide_add (n : ∀ c ∈ cells, H c = none) : hideC (addC H cells g) cells = H := by
  funext b
  by_cases m : b ∈ cells
  · rw [hideC_in m, n b m]
  · rw [hideC_out m, addC_out m]
theorem HOk.addC (k : HOk P w H h) (n : ∀ c ∈ cells, H c = none) (at_ : ∀ c ∈ cells, h.get? c = some (g c)) : HOk P w (addC H cells g) h := fun b u q => by
  have out : ∀ {c u}, H c = some u → MP.addC H cells g c = some u := fun {c u} e => by
    rw [addC_out fun m => by rw [n c m] at e; cases e]; exact e
  by_cases m : b ∈ cells
  · rw [addC_in m] at q
    cases q
    exact ⟨at_ b m, _, at_ b m⟩
  · rw [addC_out m] at q
    exact (k b u q).stay (fun c v _ e => e) (fun c e => out e) fun c xs e => out e
theorem HOk.hideC (k : HOk P w H h) (f : ∀ c ∈ cells, ∀ u, H c = some u → ∃ o v, u = .frz o v) : HOk P w (hideC H cells) h := fun b u q => by
  have out : ∀ {c u}, H c = some u → (∀ o v, u ≠ .frz o v) → MP.hideC H cells c = some u := fun {c u} e t => by
    rw [hideC_out fun m => by obtain ⟨o, v, z⟩ := f c m u e; exact t o v z]; exact e
  by_cases m : b ∈ cells
  · rw [hideC_in m] at q; cases q
  · rw [hideC_out m] at q
    exact (k b u q).stay (fun c v _ e => e) (fun c e => out e fun o v z => nomatch z) fun c xs e => out e fun o v z => nomatch z
theorem Un.hide (u : Un fs [] (addC H cells g) H' h h') (k : HOk P w H' h') (n : ∀ c ∈ cells, H c = none) (at_ : ∀ c ∈ cells, h.get? c = some (g c)) (nf : ∀ c ∈ cells, c ∉ fs) : Un fs [] H (hideC H' cells) h h' := by
  have out : ∀ {c u}, H c = some u → c ∉ cells := fun {c u} e m => by rw [n c m] at e; cases e
  exact {
    keep := fun b o q nb hf hx => by
      by_cases m : b ∈ cells
      · have e := u.frzs b (g b) (.own 0) (addC_in m)
        obtain ⟨e2, _⟩ := k b _ e
        rw [at_ b m] at q; cases q
        exact e2
      · exact u.keep b o q (by rw [addC_out m]; exact nb) hf hx
    slot := fun b o q nb hf hx => by
      have m : b ∉ cells := fun m => nf b m hf
      exact u.slot b o q (by rw [addC_out m]; exact nb) hf hx
    free := fun b o q nb hx => by
      by_cases m : b ∈ cells
      · exact hideC_in m
      · rw [hideC_out m]
        exact u.free b o q (by rw [addC_out m]; exact nb) hx
    there := u.there
    tups := fun b xs e => by
      rw [hideC_out (out e)]
      exact u.tups b xs (by rw [addC_out (out e)]; exact e)
    frzs := fun b o v e => by
      rw [hideC_out (out e)]
      exact u.frzs b o v (by rw [addC_out (out e)]; exact e)
    tbls := fun b ps e => by
      rw [hideC_out (out e)]
      exact u.tbls b ps (by rw [addC_out (out e)]; exact e) }
theorem Un.add (u : Un fs [] (hideC H cells) H1 h h') (f : ∀ c ∈ cells, H c = some (.frz (g c) (.own 0))) : Un fs [] H (addC H1 cells g) h h' := by
  have out : ∀ {c}, H c = none → c ∉ cells := fun {c} e m => by rw [f c m] at e; cases e
  have out2 : ∀ {c v}, H c = some v → (∀ o v', v ≠ .frz o v') → c ∉ cells := fun {c v} e t m => by
    rw [f c m] at e; cases e; exact t _ _ rfl
  exact {
    keep := fun b o q nb hf hx => u.keep b o q (by rw [hideC_out (out nb)]; exact nb) hf hx
    slot := fun b o q nb hf hx => u.slot b o q (by rw [hideC_out (out nb)]; exact nb) hf hx
    free := fun b o q nb hx => by
      rw [addC_out (out nb)]
      exact u.free b o q (by rw [hideC_out (out nb)]; exact nb) hx
    there := u.there
    tups := fun b xs e => by
      have m := out2 e fun o v z => nomatch z
      rw [addC_out m]
      exact u.tups b xs (by rw [hideC_out m]; exact e)
    frzs := fun b o v e => by
      by_cases m : b ∈ cells
      · rw [f b m] at e
        cases e
        exact addC_in m
      · rw [addC_out m]
        exact u.frzs b o v (by rw [hideC_out m]; exact e)
    tbls := fun b ps e => by
      have m := out2 e fun o v z => nomatch z
      rw [addC_out m]
      exact u.tbls b ps (by rw [hideC_out m]; exact e) }
theorem UB.hide (u : UB fs (addC H cells g) H' h B h') (k : HOk P w H' B) (n : ∀ c ∈ cells, H c = none) (at_ : ∀ c ∈ cells, h.get? c = some (g c)) (nf : ∀ c ∈ cells, c ∉ fs) : UB fs H (hideC H' cells) h B h' := by
  have out : ∀ {c u}, H c = some u → c ∉ cells := fun {c u} e m => by rw [n c m] at e; cases e
  exact {
    keep := fun b o q nb hf => by
      by_cases m : b ∈ cells
      · have e := u.frzs b (g b) (.own 0) (addC_in m)
        obtain ⟨e2, _⟩ := k b _ e
        rw [at_ b m] at q; cases q
        exact e2
      · exact u.keep b o q (by rw [addC_out m]; exact nb) hf
    slot := u.slot
    free := fun b o q nb => by
      by_cases m : b ∈ cells
      · exact hideC_in m
      · rw [hideC_out m]
        exact u.free b o q (by rw [addC_out m]; exact nb)
    there := u.there
    tups := fun b xs e => by
      rw [hideC_out (out e)]
      exact u.tups b xs (by rw [addC_out (out e)]; exact e)
    frzs := fun b o v e => by
      rw [hideC_out (out e)]
      exact u.frzs b o v (by rw [addC_out (out e)]; exact e)
    tbls := fun b ps e => by
      rw [hideC_out (out e)]
      exact u.tbls b ps (by rw [addC_out (out e)]; exact e) }
theorem UB.add (u : UB fs (hideC H cells) H1 h B h') (f : ∀ c ∈ cells, H c = some (.frz (g c) (.own 0))) : UB fs H (addC H1 cells g) h B h' := by
  have out : ∀ {c}, H c = none → c ∉ cells := fun {c} e m => by rw [f c m] at e; cases e
  have out2 : ∀ {c v}, H c = some v → (∀ o v', v ≠ .frz o v') → c ∉ cells := fun {c v} e t m => by
    rw [f c m] at e; cases e; exact t _ _ rfl
  exact {
    keep := fun b o q nb hf => u.keep b o q (by rw [hideC_out (out nb)]; exact nb) hf
    slot := u.slot
    free := fun b o q nb => by
      rw [addC_out (out nb)]
      exact u.free b o q (by rw [hideC_out (out nb)]; exact nb)
    there := u.there
    tups := fun b xs e => by
      have m := out2 e fun o v z => nomatch z
      rw [addC_out m]
      exact u.tups b xs (by rw [hideC_out m]; exact e)
    frzs := fun b o v e => by
      by_cases m : b ∈ cells
      · rw [f b m] at e
        cases e
        exact addC_in m
      · rw [addC_out m]
        exact u.frzs b o v (by rw [hideC_out m]; exact e)
    tbls := fun b ps e => by
      have m := out2 e fun o v z => nomatch z
      rw [addC_out m]
      exact u.tbls b ps (by rw [hideC_out m]; exact e) }
end
section
variable {P : Program} {w : World} {H : Hp} {cells : List Addr} {g : Addr → Obj} {outer : List Env} {s s' : Shared} {u : Value}
theorem CE.hide {Q Q' : VK} (c : CE outer P w (addC H cells g) s Q' u s') (q : ∀ v H', Q' v H' → Q v (hideC H' cells)) (n : ∀ c ∈ cells, H c = none) (at_ : ∀ c ∈ cells, s.heap.get? c = some (g c)) (nf : ∀ c ∈ cells, c ∉ frs outer) : CE outer P w H s Q u s' := by
  obtain ⟨v, H', os, bare, un, hok, r, z⟩ := c
  refine ⟨v, _, os, bare, Un.hide un hok n at_ nf, HOk.hideC hok fun c m u e => ?_, r, q v H' z⟩
  have := un.frzs c (g c) (.own 0) (addC_in m)
  rw [e] at this
  cases this
  exact ⟨_, _, rfl⟩
theorem CX.hide {E E' : XK} (c : CX P w outer (addC H cells g) s E' u s') (q : ∀ cl d H', E' cl d H' → E cl d (hideC H' cells)) (n : ∀ c ∈ cells, H c = none) (at_ : ∀ c ∈ cells, s.heap.get? c = some (g c)) (nf : ∀ c ∈ cells, c ∉ frs outer) : CX P w outer H s E u s' := by
  obtain ⟨a, B, H', cls, d, e1, fl, hok, ub, na, os, ag, z⟩ := c
  refine ⟨a, B, _, cls, d, e1, fl, HOk.hideC hok fun c m u e => ?_, UB.hide ub hok n at_ nf, ?_, os, ag, q _ _ _ z⟩
  · have := ub.frzs c (g c) (.own 0) (addC_in m)
    rw [e] at this
    cases this
    exact ⟨_, _, rfl⟩
  · by_cases m : a ∈ cells
    · exact hideC_in m
    · rw [hideC_out m]; exact na
theorem CE.add {Q Q' : VK} (c : CE outer P w (hideC H cells) s Q' u s') (q : ∀ v H', (∀ c ∈ cells, H' c = none) → Q' v H' → Q v (addC H' cells g)) (f : ∀ c ∈ cells, H c = some (.frz (g c) (.own 0))) (k : HOk P w H s.heap) (nf : ∀ c ∈ cells, c ∉ frs outer) : CE outer P w H s Q u s' := by
  obtain ⟨v, H', os, bare, un, hok, r, z⟩ := c
  have nn : ∀ c ∈ cells, H' c = none := fun c m => by
    obtain ⟨e, _⟩ := k c _ (f c m)
    exact un.free c _ e (hideC_in m) (fun z => nomatch z)
  refine ⟨v, _, os, bare, Un.add un f, HOk.addC hok nn fun c m => ?_, r, q v H' nn z⟩
  · obtain ⟨e, _⟩ := k c _ (f c m)
    exact un.keep c _ e (hideC_in m) (nf c m) (fun z => nomatch z)
theorem CX.add {E E' : XK} (c : CX P w outer (hideC H cells) s E' u s') (q : ∀ cl d H', (∀ c ∈ cells, H' c = none) → E' cl d H' → E cl d (addC H' cells g)) (f : ∀ c ∈ cells, H c = some (.frz (g c) (.own 0))) (k : HOk P w H s.heap) (nf : ∀ c ∈ cells, c ∉ frs outer) : CX P w outer H s E u s' := by
  obtain ⟨a, B, H', cls, d, e1, fl, hok, ub, na, os, ag, z⟩ := c
  have at_ : ∀ c ∈ cells, B.get? c = some (g c) := fun c m => by
    obtain ⟨e, _⟩ := k c _ (f c m)
    exact ub.keep c _ e (hideC_in m) (nf c m)
  have nn : ∀ c ∈ cells, H' c = none := fun c m => by
    obtain ⟨e, _⟩ := k c _ (f c m)
    exact ub.free c _ e (hideC_in m)
  refine ⟨a, B, _, cls, d, e1, fl, HOk.addC hok nn at_, UB.add ub f, ?_, os, ag, q _ _ _ nn z⟩
  · have na' : a ∉ cells := fun m => by
      have e1 := at_ a m
      have e2 : B.get? a = none := fl.2.1
      rw [e1] at e2; cases e2
    rw [addC_out na']; exact na
end

/-! ### plain values: no list of the mini heap, no closure -/
mutual
def plD : D → Bool
  | .ref _ => false
  | .clo _ _ => false
  | .tup ds => plDs ds
  | .lst ds => plDs ds
  | _ => true
def plDs : List D → Bool
  | [] => true
  | d :: ds => plD d && plDs ds
end
/-- nothing but known cells differs -/
def SameBut (cells : List Addr) (H H' : Hp) : Prop := (∀ b, b ∉ cells → H' b = H b) ∧ ∀ b ∈ cells, ∀ u, H b = some u → ∃ o, u = .frz o (.own 0)
section
variable {Γ : G} {H H' : Hp} {cells : List Addr} {μ μ' : List Addr}
mutual
theorem Den.same (e : SameBut cells H H') (m : ∀ a, (∃ u, H a = some u ∧ ∀ xs, u ≠ .lst xs) → a ∉ μ') : ∀ {d : D} {v : V}, plD d = true → Den Γ μ H v d → Den Γ μ' H' v d
  | .non, _, _, h => h
  | .bl _, _, _, h => h
  | .int _, _, _, h => h
  | .str _, _, _, h => h
  | .glo _, _, _, h => h
  | .ref _, _, p, _ => by cases p
  | .clo _ _, _, p, _ => by cases p
  | .tup ds, _, p, h => by
    obtain ⟨a, vs, e1, q, r⟩ := h
    refine ⟨a, vs, e1, ?_, Dens.same e m p r⟩
    rcases q with ⟨_, q | ⟨o, q⟩⟩ | q
    · refine .inl ⟨m a ⟨_, q, fun xs z => nomatch z⟩, .inl ?_⟩
      rw [e.1 a fun z => by obtain ⟨o, z⟩ := e.2 a z _ q; cases z]; exact q
    · refine .inl ⟨m a ⟨_, q, fun xs z => nomatch z⟩, .inr ⟨o, ?_⟩⟩
      rw [e.1 a fun z => by obtain ⟨o, z⟩ := e.2 a z _ q; cases z]; exact q
    · exact .inr q
  | .lst ds, _, p, h => by
    obtain ⟨a, vs, e1, q, r⟩ := h
    refine ⟨a, vs, e1, ?_, Dens.same e m p r⟩
    rcases q with ⟨_, o, q⟩ | q
    · refine .inl ⟨m a ⟨_, q, fun xs z => nomatch z⟩, o, ?_⟩
      rw [e.1 a fun z => by obtain ⟨o, z⟩ := e.2 a z _ q; cases z]; exact q
    · exact .inr q
theorem Dens.same (e : SameBut cells H H') (m : ∀ a, (∃ u, H a = some u ∧ ∀ xs, u ≠ .lst xs) → a ∉ μ') : ∀ {ds : List D} {vs : List V}, plDs ds = true → Dens Γ μ H vs ds → Dens Γ μ' H' vs ds
  | [], _, _, h => h
  | d :: ds, _, p, h => by
    obtain ⟨v, r, e1, q, t⟩ := h
    have p' : (plD d && plDs ds) = true := p
    rw [Bool.and_eq_true] at p'
    exact ⟨v, r, e1, Den.same e m p'.1 q, Dens.same e m p'.2 t⟩
end
theorem same_hide (f : ∀ c ∈ cells, ∀ u, H c = some u → ∃ o, u = .frz o (.own 0)) : SameBut cells H (hideC H cells) := ⟨fun b m => hideC_out m, f⟩
theorem same_add {g : Addr → Obj} (n : ∀ c ∈ cells, H c = none) : SameBut cells H (addC H cells g) := ⟨fun b m => addC_out m, fun b m u e => by rw [n b m] at e; cases e⟩
theorem tabs_same {T : List (Addr × Str)} (e : SameBut cells H H') (t : LamX.Tabs T H) : LamX.Tabs T H' := by
  have nn : ∀ {b u}, H b = some u → (∀ o v, u ≠ .frz o v) → H' b = some u := fun {b u} q t => by
    rw [e.1 b fun z => by obtain ⟨o, z⟩ := e.2 b z _ q; exact t _ _ z]; exact q
  intro p hp
  obtain ⟨ps, h1, h2, h3⟩ := t p hp
  refine ⟨ps, nn h1 (fun o v z => nomatch z), h2, fun pos cv hc => ?_⟩
  obtain ⟨c, e1, e2⟩ := h3 pos cv hc
  exact ⟨c, e1, nn e2 fun o v z => nomatch z⟩
end
end MP
end
section
set_option Elab.async false
set_option linter.all false
set_option maxRecDepth 100000
set_option maxHeartbeats 2000000
/-! M16: lambdas are made, handed on, called. -/
namespace MP
open PySem PySem.Spec PyProof.Rows L2 LamX

/-! ### made -/
section
variable {X : Cx} {pins : List (Addr × Obj)} {σ : L2.St} {H : Hp} {s : Shared}
/-- LamX.lam_make2, with what it keeps said wider -/
theorem lam_make3 {T : List (Addr × Str)} {c P : Addr} {params : Arguments} {body : Expr} {scope : Scope} {pos : Pos} {E : Value → Shared → Prop} {Q : Value → Shared → Prop} (I : Inv X pins σ H s) (TB : TabB X.base X.mg c P) (hcode : X.env.code = .ref c)
    (hm : (P, X.env.qual ++ "<lambda>") ∈ T) (hu : ∀ p ∈ T, p.1 = P → p.2 = X.env.qual ++ "<lambda>") (hT : Tabs T H) (hdef : defaultsOf params X.env = ([], [])) (hfree : ∀ y ∈ scope.names, y.2 = .free → ∃ c, X.env.cells.lookup y.1 = some c)
    (h : ∀ (f c' : Addr) (pm ctv : Value) (H1 : Hp) (s' : Shared), Inv X pins σ H1 s' → ExtN H H1 → (∀ b ps, H b = some (.tbl ps) → ∃ ps', H1 b = some (.tbl ps')) → Tabs T H1 →
      s'.heap.get? f = some (PySem.W.kla_obj "<lambda>" (X.env.qual ++ "<lambda>") params body scope (cloFrom X.env.cells scope.names []) pm c' ctv) → H1 f = none → s.heap.objs.size ≤ f → H1 c' = some (CodeO c' (X.env.qual ++ "<lambda>")) → Q (.ref f) s') :
    wpAny (model X.prog X.w) X.A (eval (.Lambda params body scope pos) X.env) Q E s := by
  obtain ⟨ps, hP, ht, ha⟩ := hT _ hm
  refine PySem.W.kla_eval hdef ?_
  have bP : s.heap.BuiltinsAt X.mg P := TB.bm.keeps I.bk
  have hP' : s.heap.get? P = some { cls := .none, data := .fields ps } := I.hok P _ hP
  cases hc : codeAmong pos ps.toList with
  | none =>
    refine PySem.W.kla_makeFunction (mg := X.mg) (c := c) (P := P) (ps := ps) (closure_ok hfree) I.ok.glob (I.mod.glob.keeps I.bk) hcode (TB.code.keeps I.bk) hP' ht hc TB.gP bP fun c' ctv h' tk hx hge hlt hrec htb => ?_
    obtain ⟨c2, oc, vs, t, e2, hoc, hd, hv⟩ := hrec
    cases e2
    have hsz : s.heap.objs.size ≤ h'.objs.size := Nat.le_trans hge (Nat.le_of_lt hlt)
    have nC : H c' = none := I.hok.fresh hge
    have I1 := inv_table (t' := tk) (more := #[rawInt pos.line, rawInt pos.col, .ref c']) (h' := h'.push (PySem.W.kla_obj "<lambda>" (X.env.qual ++ "<lambda>") params body scope (cloFrom X.env.cells scope.names []) ((X.mg "__name__").getD .none) c' ctv)) I hP
      (fun b o hb e => Heap.get?_push_of_some _ (hx b o hb e)) (Heap.get?_push_of_some _ htb) hge ⟨oc, vs, t, Heap.get?_push_of_some _ hoc, hd, hv⟩
    have hE : ExtN H (upd (upd H P (.tbl (ps ++ #[rawInt pos.line, rawInt pos.col, .ref c']))) c' (CodeO c' (X.env.qual ++ "<lambda>"))) := fun b o e n => by
      rw [upd_ne (ne_of_none e nC), upd_ne (fun z => n ps (Option.some.inj (e.symm.trans (by rw [z]; exact hP))))]
      exact e
    have hE2 : ∀ b qs, H b = some (.tbl qs) → ∃ ps', (upd (upd H P (.tbl (ps ++ #[rawInt pos.line, rawInt pos.col, .ref c']))) c' (CodeO c' (X.env.qual ++ "<lambda>"))) b = some (.tbl ps') := fun b qs e => by
      rw [upd_ne (ne_of_none e nC)]
      by_cases hb : b = P
      · rw [hb, upd_same]; exact ⟨_, rfl⟩
      · rw [upd_ne hb]; exact ⟨qs, e⟩
    have eL : (ps ++ #[rawInt pos.line, rawInt pos.col, .ref c']).toList = ps.toList ++ [rawInt pos.line, rawInt pos.col, .ref c'] := by simp
    refine h h'.objs.size c' ((X.mg "__name__").getD .none) ctv _ _ I1 hE hE2 (fun p hp => ?_) (Heap.get?_push_size _ rfl) ?_ hsz upd_same
    · by_cases hb : p.1 = P
      · rw [hu p hp hb, hb]
        refine ⟨_, by rw [upd_ne (ne_of_none hP nC), upd_same], by rw [eL]; exact PySem.TriplesOk_snoc _ _ _ _ ht, fun p' cv hcv => ?_⟩
        rw [eL] at hcv
        rcases among_app _ ht hcv with z | z
        · obtain ⟨c0, e1, e2⟩ := ha p' cv z
          exact ⟨c0, e1, hE _ _ e2 codeO_ne⟩
        · exact ⟨c', z, upd_same⟩
      · obtain ⟨ps', a1, a2, a3⟩ := hT p hp
        refine ⟨ps', by rw [upd_ne (ne_of_none a1 nC), upd_ne hb]; exact a1, a2, fun p' cv hcv => ?_⟩
        obtain ⟨c0, e1, e2⟩ := a3 p' cv hcv
        exact ⟨c0, e1, hE _ _ e2 codeO_ne⟩
    · have n1 : h'.objs.size ≠ c' := Nat.ne_of_gt hlt
      have n2 : h'.objs.size ≠ P := Nat.ne_of_gt (Nat.lt_of_lt_of_le (Heap.lt_size hP') hsz)
      rw [upd_ne n1, upd_ne n2]
      exact I.hok.fresh hsz
  | some cv =>
    obtain ⟨c', e, hco⟩ := ha pos cv hc
    subst e
    refine PySem.W.kla_makeFunctionHit (mg := X.mg) (c := c) (P := P) (ps := ps) (closure_ok hfree) I.ok.glob (I.mod.glob.keeps I.bk) hcode (TB.code.keeps I.bk) hP' ht hc bP fun ctv h' tk hx hsz => ?_
    have I1 : Inv X pins σ H { s with heap := h'.push (PySem.W.kla_obj "<lambda>" (X.env.qual ++ "<lambda>") params body scope (cloFrom X.env.cells scope.names []) ((X.mg "__name__").getD .none) c' ctv), toks := tk } := I.kept fun b o e => Heap.get?_push_of_some _ (hx b o e)
    exact h h'.objs.size c' ((X.mg "__name__").getD .none) ctv H _ I1 (ExtN.refl H) (fun b ps e => ⟨ps, e⟩) hT (Heap.get?_push_size _ rfl) (I.hok.fresh hsz) hsz hco
/-- a new object is known from now on -/
theorem Inv.know {s0 : Shared} {H0 : Hp} {f : Addr} {o : Obj} (I0 : Inv X pins σ H0 s0) (I : Inv X pins σ H s) (hn : H f = none) (hf : s0.heap.objs.size ≤ f) (ho : s.heap.get? f = some o) : Inv X pins σ (upd H f (.frz o (.own 0))) s := by
  have old : ∀ {b ob}, s0.heap.get? b = some ob → b ≠ f := fun {b ob} e => Nat.ne_of_lt (Nat.lt_of_lt_of_le (Heap.lt_size e) hf)
  have nn : ∀ {b}, b ≠ f → H b = none → (upd H f (.frz o (.own 0)) : Hp) b = none := fun {b} hb q => by rw [upd_ne hb]; exact q
  exact {
    ok := I.ok
    os := I.os
    bare := I.bare
    base := {
      keep := I.base.keep
      slot := I.base.slot
      free := fun b ob q n hx => by
        obtain ⟨ob', q'⟩ := I0.base.there b ob q hx
        exact nn (old q') (I.base.free b ob q n hx)
      there := I.base.there
      tups := fun b xs q => by
        have k := I.base.tups b xs q
        rw [upd_ne (ne_of_none k hn)]; exact k
      frzs := fun b ob u q => by
        have k := I.base.frzs b ob u q
        rw [upd_ne (ne_of_none k hn)]; exact k
      tbls := fun b ps q => by
        obtain ⟨more, k⟩ := I.base.tbls b ps q
        exact ⟨more, by rw [upd_ne (ne_of_none k hn)]; exact k⟩ }
    loc := I.loc
    cell := I.cell
    free := nn (Nat.ne_of_lt (Nat.lt_of_lt_of_le I0.lt hf)) I.free
    freeC := fun x c q => by
      obtain ⟨v, ob, e, _⟩ := I0.cell x c q
      exact nn (old e) (I.freeC x c q)
    pin := fun q m => by
      obtain ⟨e0, _⟩ := I0.pin q m
      obtain ⟨a, b, c⟩ := I.pin q m
      exact ⟨a, nn (old e0) b, c⟩
    hok := fun b u q => by
      by_cases hb : b = f
      · subst hb
        rw [upd_same] at q; cases q
        exact ⟨ho, _, ho⟩
      · rw [upd_ne hb] at q
        exact (I.hok b u q).stay (fun c v _ k => k) (fun c k => by rw [upd_ne (ne_of_none k hn)]; exact k) fun c xs k => by rw [upd_ne (ne_of_none k hn)]; exact k
    len := I.len }
end
/-- a lambda object as its maker left it -/
def LamO (Γ : G) (cells : List (Str × Addr)) (H : Hp) (f : Addr) (n : Nat) : Prop := ∃ (I : LamI) (pm ctv : Value) (c' : Addr), Γ.lam n = some I ∧ H f = some (.frz (PySem.W.kla_obj "<lambda>" I.qual I.params I.body I.scope (cloFrom cells I.scope.names []) pm c' ctv) (.own 0)) ∧ H c' = some (CodeO c' I.qual)
/-- the table of the maker's code object -/
structure LamT (X : Cx) (Γ : G) : Prop where
  ex : ∃ c P, TabB X.base X.mg c P ∧ X.env.code = .ref c ∧ (P, X.env.qual ++ "<lambda>") ∈ Γ.T ∧ ∀ p ∈ Γ.T, p.1 = P → p.2 = X.env.qual ++ "<lambda>"
def tLam (Γ : G) (cells : List (Str × Addr)) (n : Nat) : TE := fun σ H Q => Tabs Γ.T H ∧ ∀ f H1, ExtN H H1 → (∀ b ps, H b = some (.tbl ps) → ∃ ps', H1 b = some (.tbl ps')) → Tabs Γ.T H1 → LamO Γ cells H1 f n → H f = none → Q (.ref f) H1
section
variable {X : Cx} {Γ : G} {W : WX}
theorem pe_lam {n : Nat} {I : LamI} {pos : Pos} (LT : LamT X Γ) (hl : Γ.lam n = some I) (hq : I.qual = X.env.qual ++ "<lambda>") (hdef : defaultsOf I.params X.env = ([], [])) (hfree : ∀ y ∈ I.scope.names, y.2 = .free → X.env.kindOf y.1 = some .cell ∨ X.env.kindOf y.1 = some .free) :
    PE X (.Lambda I.params I.body I.scope pos) (tLam Γ X.env.cells n) := by
  refine ⟨fun pins s σ H Q I0 h => ?_⟩
  obtain ⟨hT, h⟩ := h
  obtain ⟨c, P, TB, hcode, hm, hu⟩ := LT.ex
  refine lam_make3 I0 TB hcode hm hu hT hdef (fun y hy e => I0.ok.has _ (hfree y hy e)) fun f c' pm ctv H1 s' I1 e1 e2 T1 hf hn hge hc => ?_
  have nf : f ≠ c' := fun z => by rw [z, hc] at hn; cases hn
  have I2 := Inv.know I0 I1 hn hge hf
  refine ⟨.ref f, _, I2, rfl, h f _ (fun b o e n => ?_) (fun b ps e => ?_) (T1.ext fun b o e => by rw [upd_ne (ne_of_none e hn)]; exact e) ⟨I, pm, ctv, c', hl, by rw [hq]; exact upd_same, by rw [hq, upd_ne (Ne.symm nf)]; exact hc⟩ (I0.hok.fresh hge)⟩
  · rw [upd_ne (ne_of_none (e1 b o e n) hn)]; exact e1 b o e n
  · obtain ⟨ps', e'⟩ := e2 b ps e
    exact ⟨ps', by rw [upd_ne (ne_of_none e' hn)]; exact e'⟩
theorem lam_ext {H H1 : Hp} {μ : List Addr} (e1 : ExtN H H1) (e2 : ∀ b ps, H b = some (.tbl ps) → ∃ ps', H1 b = some (.tbl ps')) : Ext H μ H1 μ := ⟨List.prefix_refl _, fun a u e _ t => e1 a u e t, fun a ps e _ => e2 a ps e, fun _ m => .inl m⟩
theorem lam_rel {H H1 : Hp} {μ : List Addr} {h : List MO} (r : Rel Γ H μ h) (e1 : ExtN H H1) (e2 : ∀ b ps, H b = some (.tbl ps) → ∃ ps', H1 b = some (.tbl ps')) (T1 : Tabs Γ.T H1) : Rel Γ H1 μ h :=
  r.grow (lam_ext e1 e2) (fun a m => by
    obtain ⟨vs, q⟩ := r.mem m
    rw [q]; exact e1 a _ q fun ps z => nomatch z) T1
/-- a lambda that captures nothing -/
theorem fe_lam {n : Nat} {I : LamI} {pos : Pos} (LT : LamT X Γ) (hl : Γ.lam n = some I) (hq : I.qual = X.env.qual ++ "<lambda>") (hdef : defaultsOf I.params X.env = ([], [])) (hfree : ∀ y ∈ I.scope.names, y.2 ≠ .free) (hc : I.caps = []) :
    FE X Γ W (.Lambda I.params I.body I.scope pos) (xC (.clo n [])) := by
  refine ⟨(pe_lam LT hl hq hdef fun y hy e => absurd e (hfree y hy)).imp fun σ H Q q => ?_⟩
  obtain ⟨ρ, h, μ, he, hr, q⟩ := q
  refine ⟨hr.tabs, fun f H1 e1 e2 T1 L hn => ?_⟩
  have r1 := lam_rel hr e1 e2 T1
  refine q _ _ μ (lam_ext e1 e2) r1 ?_
  obtain ⟨I', pm, ctv, c', l1, l2, l3⟩ := L
  have : I' = I := by rw [hl] at l1; cases l1; rfl
  subst this
  have nil : cloFrom X.env.cells I'.scope.names [] = [] := by
    have key : ∀ (l : List (Str × NameKind)), (∀ y ∈ l, y.2 ≠ .free) → cloFrom X.env.cells l [] = [] := by
      intro l
      induction l with
      | nil => intro _; rfl
      | cons y l ih =>
        intro hy
        obtain ⟨a, k⟩ := y
        unfold cloFrom
        have : (k == .free) = false := by
          have := hy (a, k) List.mem_cons_self
          simpa using this
        rw [if_neg (by rw [this]; exact Bool.false_ne_true)]
        exact ih fun y m => hy y (List.mem_cons_of_mem _ m)
    exact key _ hfree
  rw [nil] at l2
  refine ⟨f, [], [], rfl, ⟨⟨I', [], pm, ctv, c', hl, by rw [hc]; rfl, rfl, l2, l3, (fun z => nomatch z), r1.no l3 fun vs z => codeO_lst _ _ _ z⟩, ⟨r1.no l2 (fun vs z => nomatch z), (fun z => nomatch z)⟩, List.nodup_nil, (fun c z => nomatch z), rfl, fun j c v z => by simp at z⟩, rfl⟩
end
end MP
end
section
set_option Elab.async false
set_option linter.all false
set_option maxRecDepth 100000
set_option maxHeartbeats 2000000
/-! M17: a closure is called. -/
namespace MP
open PySem PySem.Spec PyProof.Rows L2 LamX

/-- a lambda's names: its parameters, what it captures -/
structure LamS2 (ps caps : List Str) (scope : Scope) : Prop where
  kind : scope.kind = .function
  co : scope.isCoroutine = false
  gen : scope.isGenerator = false
  nocell : ∀ y ∈ scope.names, y.2 ≠ .cell
  loc : ∀ y ∈ scope.names, y.2 = .local → y.1 ∈ ps
  par : ∀ x ∈ ps, scope.names.lookup x = some .local
  free : ∀ y ∈ scope.names, y.2 = .free → y.1 ∈ caps
  freeL : ∀ x ∈ caps, scope.names.lookup x = some .free
  nd : (ps ++ caps).Nodup
def lamS2B (ps caps : List Str) (scope : Scope) : Bool :=
  decide (scope.kind = .function) && !scope.isCoroutine && !scope.isGenerator && (scope.names.all fun y => !decide (y.2 = .cell) && (!decide (y.2 = .local) || decide (y.1 ∈ ps)) && (!decide (y.2 = .free) || decide (y.1 ∈ caps))) &&
    (ps.all fun x => decide (scope.names.lookup x = some .local)) && (caps.all fun x => decide (scope.names.lookup x = some .free)) && decide (ps ++ caps).Nodup
theorem lamS2_by {ps caps : List Str} {scope : Scope} (h : lamS2B ps caps scope = true) : LamS2 ps caps scope := by
  unfold lamS2B at h
  simp only [Bool.and_eq_true, Bool.or_eq_true, Bool.not_eq_true', decide_eq_true_eq, decide_eq_false_iff_not, List.all_eq_true] at h
  obtain ⟨⟨⟨⟨⟨⟨h1, h2⟩, h3⟩, h4⟩, h5⟩, h6⟩, h7⟩ := h
  refine ⟨h1, h2, h3, fun y hy => (h4 y hy).1.1, fun y hy e => ?_, h5, fun y hy e => ?_, h6, h7⟩
  · rcases (h4 y hy).1.2 with z | z
    · exact absurd e z
    · exact z
  · rcases (h4 y hy).2 with z | z
    · exact absurd e z
    · exact z
theorem lookup_nd {α : Type} : ∀ {l : List (Str × α)} {x : Str} {u : α}, (l.map (·.1)).Nodup → (x, u) ∈ l → l.lookup x = some u
  | (y, v) :: l, x, u, nd, m => by
    rw [List.lookup_cons]
    rcases List.mem_cons.mp m with e | m
    · cases e; simp
    · have ne : x ≠ y := fun e => (List.nodup_cons.mp nd).1 (by rw [← e]; exact List.mem_map_of_mem (f := (·.1)) m)
      have : (x == y) = false := by simpa using ne
      rw [this]
      exact lookup_nd (List.nodup_cons.mp nd).2 m
theorem zip_mem {ps : List Str} {us : List Value} {i : Nat} {x : Str} {u : Value} (h1 : ps[i]? = some x) (h2 : us[i]? = some u) : (x, u) ∈ ps.zip us := by
  refine List.mem_of_getElem? (i := i) ?_
  rw [List.getElem?_zip_eq_some]
  exact ⟨h1, h2⟩
theorem lookup_rev {ps : List Str} {us : List Value} {i : Nat} {x : Str} {u : Value} (nd : ps.Nodup) (hl : us.length = ps.length) (h1 : ps[i]? = some x) (h2 : us[i]? = some u) : (ps.zip us).reverse.lookup x = some u := by
  refine lookup_nd ?_ (List.mem_reverse.mpr (zip_mem h1 h2))
  rw [List.map_reverse]
  have : (ps.zip us).map (·.1) = ps := zip_fst hl
  rw [this]
  exact (List.reverse_perm ps).nodup_iff.mpr nd
abbrev lamE (I : LamI) (L f c' : Addr) (clos : List (Str × Addr)) : Env := PySem.W.envX I.qual I.scope L f (.ref c') clos
/-- the context of a closure's body, entered at s from the frames outer -/
def lamXof (P : Program) (w : World) (K : PySem.W.Frag) (mg : Str → Option Value) (base : Heap) (A : Around) (outer : List Env) (s : Shared) (H : Hp) (E : XK) (I : LamI) (ps : List Str) (f c' : Addr) (clos : List (Str × Addr)) : Cx where
  prog := P
  w := w
  K := K
  mg := mg
  base := base
  A := A.deeper (lamE I s.heap.objs.size f c' clos)
  N := ps ++ I.caps
  s_0 := s
  H_0 := H
  env := lamE I s.heap.objs.size f c' clos
  outer := outer
  stack := lamE I s.heap.objs.size f c' clos :: outer
  ex := []
  fn := fun _ => false
  calm := true
  pn := []
  xe := fun e s' => wpAny (model P w) (A.deeper (lamE I s.heap.objs.size f c' clos)) (leaving (lamE I s.heap.objs.size f c' clos) e) (fun _ s'' => L2.CX P w outer H s E e s'') (fun e' s'' => L2.CX P w outer H s E e' s'') s'
/-- a lambda of the text, its parameters, its body's mirror -/
structure LamF (Γ : G) (P : Program) (w : World) (K : PySem.W.Frag) (mg : Str → Option Value) (base : Heap) (k n : Nat) (I : LamI) (ps : List Str) (fb : ME) : Prop where
  lam : Γ.lam n = some I
  sc : LamS2 ps I.caps I.scope
  bind : ∀ (clos : List (Str × Addr)) (pm : Value) (c' : Addr) (ctv : Value) (us : List Value), us.length = ps.length → bindArgs (PySem.W.kla_fn "<lambda>" I.qual I.params I.body I.scope clos pm (.ref c') ctv) ⟨us, []⟩ = pure (ps.zip us)
  body : ∀ (A : Around) (outer : List Env) (s : Shared) (H : Hp) (E : XK) (f c' : Addr) (clos : List (Str × Addr)), Room k (A.deeper (lamE I s.heap.objs.size f c' clos)) → FE (lamXof P w K mg base A outer s H E I ps f c' clos) Γ (wE E) I.body fb
/-- a closure's mirror: on plain values -/
def cloF (fb : ME) (m : Nat) (cs : List D) : MF := fun ds h => if h.isEmpty && decide (ds.length = m) && plDs ds then match fb ((ds ++ cs).map some) [] with
  | .ok d [] => if plD d then .ok d [] else .stuck
  | .err e [] => if plDs (e.fs.map (·.2)) then .err e [] else .stuck
  | _ => .stuck
  else .stuck
theorem env_all {Γ : G} {μ : List Addr} {H : Hp} : ∀ {vs : List V} {ds : List D}, Dens Γ μ H vs ds → EnvOk Γ μ H (vs.map some) (ds.map some)
  | vs, [], k => by rw [show vs = [] from k]; trivial
  | vs, d :: ds, k => by
    obtain ⟨v, r, rfl, k1, k2⟩ := k
    exact ⟨⟨v, rfl, k1⟩, env_all k2⟩
section
variable {Γ : G} {P : Program} {w : World} {K : PySem.W.Frag} {mg : Str → Option Value} {base : Heap}
/-- the body's start -/
theorem lam_inv {A : Around} {outer : List Env} {s : Shared} {HZ : Hp} {E : XK} {I : LamI} {ps : List Str} {f c' : Addr} {clos : List (Str × Addr)} {h₁ : Heap} {tk : Nat} {us : List Value} {vs ws : List V} (S : LamS2 ps I.caps I.scope) (e0 : Env0 P w K mg base A outer s HZ) (hd : A.handled = none)
    (ec : clos.map (·.1) = I.caps) (nd : (clos.map (·.2)).Nodup) (hz : ∀ c ∈ clos.map (·.2), HZ c = none) (hv : ∀ (j : Nat) (c : Addr) (v : V), (clos.map (·.2))[j]? = some c → ws[j]? = some v → ∃ (oc : Obj) (u : Value), s.heap.get? c = some oc ∧ oc.data = .cell (some u) ∧ RelV v u)
    (hw : (clos.map (·.2)).length = ws.length) (r : Vals vs us) (hl : vs.length = ps.length)
    (hns : h₁.Ns s.heap.objs.size fun y => (ps.zip us).reverse.lookup y) (kp : ∀ b o, s.heap.get? b = some o → h₁.get? b = some o) :
    Inv (lamXof P w K mg base A outer s HZ E I ps f c' clos) [] ((vs ++ ws).map some) HZ { s with heap := h₁, toks := tk } := by
  have noA : ∀ b : Addr, b ∉ (lamXof P w K mg base A outer s HZ E I ps f c' clos).ex := fun b z => absurd (show b ∈ ([] : List Addr) from z) (by simp)
  have nd1 : (clos.map (·.1)).Nodup := by rw [ec]; exact (List.nodup_append.mp S.nd).2.1
  have ndp : ps.Nodup := (List.nodup_append.mp S.nd).1
  have len : clos.length = ws.length := by rw [← hw, List.length_map]
  have look : ∀ {y c}, clos.lookup y = some c → ∃ j, (clos.map (·.1))[j]? = some y ∧ (clos.map (·.2))[j]? = some c := fun {y c} e => by
    obtain ⟨j, hj, ej⟩ := List.mem_iff_getElem.mp (PySem.mem_of_lookup e)
    refine ⟨j, ?_, ?_⟩
    · rw [List.getElem?_map, List.getElem?_eq_getElem hj, ej]; rfl
    · rw [List.getElem?_map, List.getElem?_eq_getElem hj, ej]; rfl
  have cell : ∀ {y c}, clos.lookup y = some c → ∃ v, s.heap.IsCell c v := fun {y c} e => by
    obtain ⟨j, _, e2⟩ := look e
    have hj : j < ws.length := by
      have := (List.getElem?_eq_some_iff.mp e2).1
      rw [hw] at this; exact this
    obtain ⟨oc, u, h1, h2, _⟩ := hv j c _ e2 (List.getElem?_eq_getElem hj)
    exact ⟨_, oc, h1, h2⟩
  refine ⟨⟨e0.mod, S.kind, rfl, rfl, Nat.le_refl _, fun y z c e1 e2 => ?_, fun y hy => ?_, fun y c z _ => ?_, fun _ => hd, Around.frames_deeper e0.frames, .inr ⟨rfl, rfl⟩, fun b z => absurd z (noA b), e0.bs, e0.bsz, fun b _ _ => noA b,
      fun b z => absurd z (noA b), e0.funs, e0.frf⟩,
    rfl, e0.bare, Un.kept kp, ⟨_, hns, fun i y v e1 e2 e3 => ?_⟩, fun y c e => ?_, e0.hok.fresh (Nat.le_refl _), fun y c e => ?_, fun q hq => absurd (show q ∈ ([] : List (Addr × Obj)) ++ [] from hq) (by simp), e0.hok.kept kp, ?_⟩
  · have e1 : clos.lookup y = some c := e1
    have e2 : clos.lookup z = some c := e2
    obtain ⟨i, a1, a2⟩ := look e1
    obtain ⟨j, b1, b2⟩ := look e2
    obtain ⟨h1, f1⟩ := List.getElem?_eq_some_iff.mp a2
    obtain ⟨h2, f2⟩ := List.getElem?_eq_some_iff.mp b2
    have : i = j := (List.getElem_inj nd).mp (f1.trans f2.symm)
    subst this
    rw [a1] at b1; cases b1; rfl
  · have hy : I.scope.names.lookup y = some .cell ∨ I.scope.names.lookup y = some .free := hy
    rcases hy with hy | hy
    · exact absurd rfl (S.nocell _ (PySem.mem_of_lookup hy))
    · have m := S.free _ (PySem.mem_of_lookup hy) rfl
      have m : y ∈ clos.map (·.1) := by rw [ec]; exact m
      obtain ⟨p, hp, e⟩ := List.mem_map.mp m
      obtain ⟨y', c⟩ := p
      have e : y' = y := e
      subst e
      exact ⟨c, lookup_nd nd1 hp⟩
  · have z : false = true := z
    cases z
  · have e1 : (ps ++ I.caps)[i]? = some y := e1
    have hvl := r.length
    by_cases hi : i < ps.length
    · rw [List.getElem?_append_left hi] at e1
      have e2 : ((vs ++ ws).map some)[i]? = some (some v) := e2
      rw [List.map_append, List.getElem?_append_left (by rw [List.length_map, hl]; exact hi), List.getElem?_map] at e2
      cases ev : vs[i]? with
      | none => rw [ev] at e2; cases e2
      | some v' =>
        rw [ev] at e2
        cases e2
        obtain ⟨u, hu, ru⟩ := r.get ev
        exact ⟨u, ru, .inl ⟨S.par y (List.mem_of_getElem? e1), lookup_rev ndp (by rw [← hvl, hl]) e1 hu⟩⟩
    · have hi : ps.length ≤ i := Nat.le_of_not_lt hi
      rw [List.getElem?_append_right hi] at e1
      have e2 : ((vs ++ ws).map some)[i]? = some (some v) := e2
      rw [List.map_append, List.getElem?_append_right (by rw [List.length_map, hl]; exact hi), List.length_map, hl, List.getElem?_map] at e2
      cases ev : ws[i - ps.length]? with
      | none => rw [ev] at e2; cases e2
      | some v' =>
        rw [ev] at e2
        cases e2
        have hj : i - ps.length < clos.length := by rw [len]; exact (List.getElem?_eq_some_iff.mp ev).1
        have e3 : (clos.map (·.2))[i - ps.length]? = some (clos[i - ps.length].2) := by rw [List.getElem?_map, List.getElem?_eq_getElem hj]; rfl
        have e4 : (clos.map (·.1))[i - ps.length]? = some (clos[i - ps.length].1) := by rw [List.getElem?_map, List.getElem?_eq_getElem hj]; rfl
        rw [ec, e1] at e4
        obtain ⟨oc, u, h1, h2, ru⟩ := hv _ _ _ e3 ev
        refine ⟨u, ru, .inr ⟨.inr (S.freeL y (List.mem_of_getElem? e1)), clos[i - ps.length].2, ?_, oc, kp _ _ h1, h2⟩⟩
        refine lookup_nd nd1 ?_
        have : (y, clos[i - ps.length].2) = clos[i - ps.length] := by
          have := Option.some.inj e4
          rw [this]
        rw [this]
        exact List.getElem_mem hj
  · obtain ⟨v, z⟩ := cell e
    exact ⟨v, z.keeps kp⟩
  · obtain ⟨j, _, e2⟩ := look (y := y) (c := c) e
    exact hz c (List.mem_of_getElem? e2)
  · show ((vs ++ ws).map some).length = (ps ++ I.caps).length
    rw [List.length_map, List.length_append, List.length_append, hl, ← len, ← ec, List.length_map]
/-- the closure runs -/
theorem run_clo {Y : Cx} {pins : List (Addr × Obj)} {σ : L2.St} {H : Hp} {s : Shared} {W : WX} {Q : VK} {k n : Nat} {I : LamI} {ps : List Str} {fb : ME} {f : Addr} {cells : List Addr} {us : List Value} {vs ws : List V} {ds cs : List D} (hJ : ∀ H μ, Γ.J H μ)
    (LF : LamF Γ Y.prog Y.w Y.K Y.mg Y.base k n I ps fb) (IY : Inv Y pins σ H s) (hr : Room (k + 1) Y.A) (tk : Takes Y W) (x : CloM Γ H [] f n cells ws) (dc : Dens Γ [] (hideC H cells) ws cs) (rel : Rel Γ H [] []) (rv : Vals vs us) (dv : Dens Γ [] H vs ds)
    (q : Good Γ W σ H [] (denE Γ) Q (cloF fb ps.length cs ds [])) : wpAny (model Y.prog Y.w) Y.A (call (.ref f) us) (EP Y pins σ Q) Y.xe s := by
  unfold cloF at q
  split at q
  case isFalse => exact False.elim q
  rename_i hc
  simp only [Bool.and_eq_true, decide_eq_true_eq] at hc
  obtain ⟨⟨_, hlen⟩, hpl⟩ := hc
  obtain ⟨I', clos, pm, ctv, c', h1, h2, h3, h4, h5, h6, h7⟩ := x.obj
  have : I' = I := by rw [LF.lam] at h1; cases h1; rfl
  subst this
  have hvl : vs.length = ps.length := dv.length.trans hlen
  have hul : us.length = ps.length := by rw [← rv.length]; exact hvl
  obtain ⟨of1, _⟩ := IY.hok f _ h4
  have hc5 : ObjOk Y.prog Y.w H s.heap c' (CodeO c' I'.qual) := IY.hok c' _ h5
  unfold CodeO at hc5
  obtain ⟨⟨oc, cvs, t, hoc, hdc, hvc⟩, _, _⟩ := hc5
  -- the cells
  have cellAt : ∀ c ∈ cells, ∃ oc u, H c = some (.frz oc (.own 0)) ∧ oc.data = .cell (some u) := fun c hc => by
    obtain ⟨j, hj, ej⟩ := List.mem_iff_getElem.mp hc
    have hj2 : j < ws.length := by rw [← x.len]; exact hj
    obtain ⟨oc, u, e1, e2, _⟩ := x.val j c _ (by rw [List.getElem?_eq_getElem hj, ej]) (List.getElem?_eq_getElem hj2)
    exact ⟨oc, u, e1, e2⟩
  have : ∃ g : Addr → Obj, ∀ c ∈ cells, H c = some (.frz (g c) (.own 0)) := ⟨fun c => match H c with | some (.frz o _) => o | _ => { cls := .none, data := .fields #[] }, fun c hc => by
    obtain ⟨oc, u, e1, _⟩ := cellAt c hc
    show H c = some (.frz (match H c with | some (.frz o _) => o | _ => { cls := .none, data := .fields #[] }) (.own 0))
    rw [e1]⟩
  obtain ⟨g, hg⟩ := this
  have nfr : ∀ c ∈ cells, c ∉ frs Y.stack := fun c m z => by
    have e := hg c m
    rw [IY.stkFree c z] at e; cases e
  have hgf : ∀ c ∈ cells, ∀ u, H c = some u → ∃ o, u = .frz o (.own 0) := fun c m u e => by rw [hg c m] at e; cases e; exact ⟨_, rfl⟩
  have e0 : Env0 Y.prog Y.w Y.K Y.mg Y.base Y.A Y.stack s (hideC H cells) := by
    have e := IY.env0
    have nn : ∀ {b}, H b = none → hideC H cells b = none := fun {b} z => by
      by_cases m : b ∈ cells
      · exact hideC_in m
      · rw [hideC_out m]; exact z
    exact ⟨e.frames, e.mod, fun b o q => ⟨(e.bs b o q).1, nn (e.bs b o q).2⟩, e.bsz, e.funs, fun b m => nn (e.frf b m), HOk.hideC e.hok fun c m u q => by obtain ⟨o, z⟩ := hgf c m u q; exact ⟨o, _, z⟩, e.bare⟩
  -- the wish within
  have run : codeAny (model Y.prog Y.w) Y.A (.call (.ref f) ⟨us, []⟩) (CR (L2.CX Y.prog Y.w) Y.stack Y.prog Y.w (hideC H cells) s (fun v H1 => (∀ c ∈ cells, H1 c = none) → Q v (addC H1 cells g)) (fun cl d H1 => (∀ c ∈ cells, H1 c = none) → W cl d σ (addC H1 cells g))) s := by
    refine PySem.W.kla_callFunE hr.depth of1 rfl LF.sc.co LF.sc.gen rfl ⟨c', oc, cvs, t, rfl, hoc, hdc, hvc⟩ ?_
    rw [LF.bind clos pm c' ctv us hul]
    refine wpAny_pure (wpAny_newFunctionEnv LF.sc.nocell (fun y hy => LF.sc.par _ (List.of_mem_zip hy).1) (fun h₁ hns hsb => ⟨IY.nolimit.fresh _ hsb, ?_⟩) LF.sc.kind)
    show codeAny _ _ (.expr I'.body (lamE I' s.heap.objs.size f c' clos)) _ _
    have kp : ∀ b o, s.heap.get? b = some o → h₁.get? b = some o := fun b o e => hsb.extBut b o (Nat.ne_of_lt (Heap.lt_size e)) (Heap.get?_push_of_some _ e)
    have J := lam_inv (E := fun cl d H1 => (∀ c ∈ cells, H1 c = none) → W cl d σ (addC H1 cells g)) (f := f) (c' := c') (tk := s.toks + (ps.zip us).length) LF.sc e0 hr.hd h2 (by rw [h3]; exact x.nd) (by rw [h3]; exact fun c m => hideC_in m) (fun j c v e1 e2 => by
      rw [h3] at e1
      obtain ⟨oc, u, z1, z2, z3⟩ := x.val j c v e1 e2
      obtain ⟨z4, _⟩ := IY.hok c _ z1
      exact ⟨oc, u, z4, z2, z3⟩) (by rw [h3]; exact x.len) rv hvl hns kp
    refine PySem.W.kla_codeExpr (wpAny_mono ((LF.body Y.A Y.stack s (hideC H cells) _ f c' clos (hr.deeper _)).ok.run [] _ _ (hideC H cells) (fun v H1 => (∀ c ∈ cells, H1 c = none) → Q v (addC H1 cells g)) J ?_) (fun v s' hq => ?_) fun e s' hq => hq)
    · have da : Dens Γ [] (hideC H cells) vs ds := Dens.same (same_hide hgf) (fun a _ (m : a ∈ []) => nomatch m) hpl dv
      refine ⟨(ds ++ cs).map some, [], [], env_all (da.append dc), ⟨rfl, List.nodup_nil, fun i a o z _ => by simp at z, tabs_same (same_hide hgf) rel.tabs, hJ _ _⟩, ?_⟩
      have back : ∀ {H' : Hp} {μ' : List Addr}, Ext (hideC H cells) [] H' μ' → (∀ c ∈ cells, H' c = none) → Ext H [] (addC H' cells g) [] := fun {H' μ'} e n => {
        pre := List.prefix_refl _
        keep := fun a u z1 z2 z3 => by
          by_cases m : a ∈ cells
          · rw [hg a m] at z1; cases z1
            exact addC_in m
          · rw [addC_out m]
            exact e.keep a u (by rw [hideC_out m]; exact z1) (fun z => nomatch z) z3
        keepT := fun a ps' z1 _ => by
          have m : a ∉ cells := fun m => by rw [hg a m] at z1; cases z1
          rw [addC_out m]
          exact e.keepT a ps' (by rw [hideC_out m]; exact z1) (fun z => nomatch z)
        new := fun _ z => .inl z }
      cases ef : fb ((ds ++ cs).map some) [] with
      | ok d h' =>
        rw [ef] at q
        cases h' with
        | cons _ _ => exact False.elim q
        | nil =>
          simp only at q
          split at q
          · rename_i hpd
            intro v H' μ' e r' dd n
            refine q v _ [] (back e n) ⟨rfl, List.nodup_nil, fun i a o z _ => by simp at z, tabs_same (same_add n) r'.tabs, hJ _ _⟩ ?_
            exact Den.same (same_add n) (fun a _ (m : a ∈ []) => nomatch m) hpd dd
          · exact False.elim q
      | err ex h' =>
        rw [ef] at q
        cases h' with
        | cons _ _ => exact False.elim q
        | nil =>
          simp only at q
          split at q
          · rename_i hpd
            intro cls dd H' μ' e r' xx n
            refine q cls dd _ [] (back e n) ⟨rfl, List.nodup_nil, fun i a o z _ => by simp at z, tabs_same (same_add n) r'.tabs, hJ _ _⟩ ?_
            obtain ⟨C, dx, vs', z1, z2, z3, z4, z5⟩ := xx
            refine ⟨C, dx, vs', z1, z2, z3, ?_, Dens.same (same_add n) (fun a _ (m : a ∈ []) => nomatch m) hpd z5⟩
            rw [addC_out fun m => by rw [n dx m] at z4; cases z4]; exact z4
          · exact False.elim q
      | stuck => rw [ef] at q; exact False.elim q
    · obtain ⟨w', H', J', rv, q⟩ := hq
      exact ⟨w', H', J'.os, J'.bare, J'.base, J'.hok, rv, q⟩
  refine wpAny_call (codeAny_mono run fun r s' hq => ?_)
  cases r with
  | error e => exact tk e s' (XE.of_call (E := fun cl d H1 => W cl d σ H1) IY (fun _ _ _ h => h) (CX.add hq (fun cl d H' n z => z n) hg IY.hok nfr))
  | ok fl =>
    cases fl with
    | ret u => exact IY.after (CE.add hq (fun v H' n z => z n) hg IY.hok nfr)
    | next => exact False.elim hq
    | brk => exact False.elim hq
    | cont => exact False.elim hq
end
end MP
end
section
set_option Elab.async false
set_option linter.all false
set_option maxRecDepth 100000
set_option maxHeartbeats 2000000
/-! M18: f(..) of a value; a def called with a lambda. -/
namespace MP
open PySem PySem.Spec PyProof.Rows L2 LamX

def gloF (fm : MF) (m : Nat) : MF := fun ds h => if ds.length = m then fm ds h else .stuck
/-- what a value does when it is called -/
def DispOk (Γ : G) (P : Program) (w : World) (K : PySem.W.Frag) (mg : Str → Option Value) (base : Heap) (k : Nat) (disp : D → Option MF) : Prop := ∀ d g, disp d = some g →
  (∃ (x : Str) (f : Addr) (fd : FuncData) (ps : List Str) (fm : MF), d = .glo x ∧ Γ.mg x = some (.ref f) ∧ PySem.W.keepIn K (.ref f) = true ∧ FnOk P w K mg base (CX P w) (k + 1) f fd ps (spF Γ ps.length fm) ∧ Binds K fd ps [] ∧ g = gloF fm ps.length) ∨
  ∃ (n : Nat) (cs : List D) (I : LamI) (ps : List Str) (fb : ME), d = .clo n cs ∧ LamF Γ P w K mg base k n I ps fb ∧ g = cloF fb ps.length cs
def xCallV (disp : D → Option MF) (i : Nat) (fa : MA) : ME := fun ρ h => match ρ[i]? with
  | some (some d) => match disp d with
    | some g => (fa ρ h).bind fun ds h1 => g ds h1
    | none => .stuck
  | _ => .stuck
section
variable {X : Cx} {Γ : G} {W : WX} {k i : Nat} {a : Str} {p1 pos : Pos} {e : Expr} {es : List Expr} {fa : MA} {disp : D → Option MF}
/-- the callee runs, by what its value stands for -/
theorem run_disp (hJ : ∀ H μ, Γ.J H μ) (hX : CxG X Γ) (DO : DispOk Γ X.prog X.w X.K X.mg X.base k disp) (hr : Room (k + 1) X.A) (tk : Takes X W) {pins : List (Addr × Obj)} {σ : L2.St} {H : Hp} {s : Shared} {Q : VK} {u : Value} {v : V} {d : D} {us : List Value} {vs : List V} {ds : List D} {μ : List Addr} {h : List MO}
    (I : Inv X pins σ H s) (ru : RelV v u) (dd : Den Γ μ H v d) (r : Rel Γ H μ h) (rv : Vals vs us) (dv : Dens Γ μ H vs ds) (q : Good Γ W σ H μ (denE Γ) Q (match disp d with | some g => g ds h | none => .stuck)) : wpAny (model X.prog X.w) X.A (call u us) (EP X pins σ Q) X.xe s := by
  cases ed : disp d with
  | none => rw [ed] at q; exact False.elim q
  | some g =>
    rw [ed] at q
    have q : Good Γ W σ H μ (denE Γ) Q (g ds h) := q
    rcases DO d g ed with ⟨x, f, fd, ps, fm, rfl, hm, hk, F, hb, rfl⟩ | ⟨n, cs, I', ps, fb, rfl, LF, rfl⟩
    · obtain ⟨f', rfl, hm', _⟩ := dd
      rw [hm] at hm'; cases hm'
      obtain rfl : u = Value.ref f := ru
      unfold gloF at q
      split at q
      · rename_i hl
        have hvl : vs.length = ps.length := dv.length.trans hl
        have hul : us.length = ps.length := by rw [← rv.length]; exact hvl
        have := hb s us I.kIn (by rw [List.append_nil]; exact hul)
        rw [List.append_nil] at this
        exact run_fnW (args := ⟨us, []⟩) F hr tk I this rv ⟨hvl, ds, h, μ, dv, r, q⟩
      · exact False.elim q
    · obtain ⟨f, cells, ws, rfl, x, dc⟩ := dd
      obtain rfl : u = Value.ref f := ru
      have hh : h = [] := by
        unfold cloF at q
        split at q
        · rename_i hc
          simp only [Bool.and_eq_true] at hc
          exact List.isEmpty_iff.mp hc.1.1
        · exact False.elim q
      subst hh
      have hμ : μ = [] := List.eq_nil_of_length_eq_zero r.len
      subst hμ
      exact run_clo hJ LF I hr tk x dc r rv dv q
/-- an object that may be called stands there -/
theorem disp_at (DO : DispOk Γ X.prog X.w X.K X.mg X.base k disp) {pins : List (Addr × Obj)} {σ : L2.St} {H : Hp} {s : Shared} {v : V} {d : D} {μ : List Addr} {g : MF} (ed : disp d = some g) (I : Inv X pins σ H s) (dd : Den Γ μ H v d) :
    ∃ f, v = .ref f ∧ (PySem.W.keepIn X.K (.ref f) = true ∨ PySem.W.FnAt f s.heap) := by
  rcases DO d g ed with ⟨x, f, fd, ps, fm, rfl, hm, hk, F, hb, rfl⟩ | ⟨n, cs, I', ps, fb, rfl, LF, rfl⟩
  · obtain ⟨f', rfl, hm', _⟩ := dd
    rw [hm] at hm'; cases hm'
    exact ⟨f, rfl, .inl hk⟩
  · obtain ⟨f, cells, ws, rfl, x, dc⟩ := dd
    obtain ⟨I'', clos, pm, ctv, c', h1, h2, h3, h4, _⟩ := x.obj
    obtain ⟨of1, _⟩ := I.hok f _ h4
    exact ⟨f, rfl, .inr ⟨_, _, _, _, of1⟩⟩
theorem fe_callV (hJ : ∀ H μ, Γ.J H μ) (hX : CxG X Γ) (DO : DispOk Γ X.prog X.w X.K X.mg X.base k disp) (hr : Room (k + 1) X.A) (tk : Takes X W) (hN : X.N[i]? = some a) (hv : Vis X.env.scope a) (ha : FA X Γ W (e :: es) fa)
    (hd : (a == ("__debug__" : Str)) = false := by decide) (hcd : (a == ("__classdict__" : Str)) = false := by decide) (he : starEach (e :: es) X.env = (false, eval e X.env) :: starEach es X.env := by rfl) (hpl : (backTo pos (starEach es X.env)).any (·.1) = false := by rfl) :
    FE X Γ W (.Call (.Name a p1) (e :: es) [] pos) (xCallV disp i fa) := by
  refine ⟨⟨fun pins s σ H Q I q => ?_⟩⟩
  obtain ⟨ρ, h, μ, heq, hrr, q⟩ := q
  unfold xCallV at q
  split at q
  case h_2 => exact False.elim q
  rename_i d ed
  obtain ⟨v, ev, dd⟩ := heq.get ed
  refine wpAny_Call_Name_kw (thn ((pe_var (pos := p1) (i := i) hN hv hd hcd).run pins s σ H (fun v' H1 => v' = v ∧ H1 = H) I ⟨v, ev, rfl, rfl⟩) fun u s1 ⟨v', H1, I1, r1, q1⟩ => ?_)
  obtain ⟨ev', eH⟩ := q1
  subst ev'
  subst eH
  split at q
  case h_2 => exact False.elim q
  rename_i g edp
  have tq : tA Γ W fa σ H1 fun vs H2 => ∃ ds h2 μ2, Ext H1 μ H2 μ2 ∧ Rel Γ H2 μ2 h2 ∧ Dens Γ μ2 H2 vs ds ∧ Good Γ W σ H2 μ2 (denE Γ) Q (match disp d with | some g => g ds h2 | none => .stuck) := by
    refine ⟨ρ, h, μ, heq, hrr, Good.bind q fun ds h2 vs H2 μ2 z2 e2 r2 d2 q2 => ⟨ds, h2, μ2, e2, r2, d2, by rw [edp]; exact q2⟩⟩
  rcases DO d g edp with ⟨x, f, fd, ps, fm, rfl, hm, hk, F, hb, rfl⟩ | ⟨n, cs, I', ps, fb, rfl, LF, rfl⟩
  · obtain ⟨f', rfl, hm', _⟩ := id dd
    rw [hm] at hm'; cases hm'
    obtain rfl : u = Value.ref f := r1
    refine PySem.W.callWith_K (h₀ := X.base) I1.ok.mod.kin hk (thn (ha.ok.run pos pins s1 σ H1 _ I1 tq) fun us s2 ⟨vs, H2, I2, rv, ds, h2, μ2, e2, r2, d2, q2⟩ => ⟨I2.kIn, ?_⟩) he hpl
    exact run_disp hJ hX DO hr tk I2 (v := .ref f) (by exact rfl) (dd.mono e2) r2 rv d2 q2
  · obtain ⟨f, cells, ws, rfl, x, dc⟩ := id dd
    obtain rfl : u = Value.ref f := r1
    have fat : ∀ {s' : Shared} {σ' : L2.St} {H' : Hp} {μ' : List Addr}, Inv X pins σ' H' s' → CloM Γ H' μ' f n cells ws → PySem.W.FnAt f s'.heap := fun {s' σ' H' μ'} I' x' => by
      obtain ⟨I'', clos, pm, ctv, c', h1, h2, h3, h4, _⟩ := x'.obj
      obtain ⟨of1, _⟩ := I'.hok f _ h4
      exact ⟨_, _, _, _, of1⟩
    refine PySem.W.callWith_F (fat I1 x) (thn (ha.ok.run pos pins s1 σ H1 _ I1 tq) fun us s2 ⟨vs, H2, I2, rv, ds, h2, μ2, e2, r2, d2, q2⟩ => ⟨fat I2 (x.mono0 e2.to0), ?_⟩) he hpl
    exact run_disp hJ hX DO hr tk I2 (v := .ref f) (by exact rfl) (dd.mono e2) r2 rv d2 q2
theorem fe_callV0 (hJ : ∀ H μ, Γ.J H μ) (hX : CxG X Γ) (DO : DispOk Γ X.prog X.w X.K X.mg X.base k disp) (hr : Room (k + 1) X.A) (tk : Takes X W) (hN : X.N[i]? = some a) (hv : Vis X.env.scope a)
    (hd : (a == ("__debug__" : Str)) = false := by decide) (hcd : (a == ("__classdict__" : Str)) = false := by decide) :
    FE X Γ W (.Call (.Name a p1) [] [] pos) (xCallV disp i aNil) := by
  refine ⟨⟨fun pins s σ H Q I q => ?_⟩⟩
  obtain ⟨ρ, h, μ, heq, hrr, q⟩ := q
  unfold xCallV at q
  split at q
  case h_2 => exact False.elim q
  rename_i d ed
  obtain ⟨v, ev, dd⟩ := heq.get ed
  refine wpAny_Call_Name_kw (thn ((pe_var (pos := p1) (i := i) hN hv hd hcd).run pins s σ H (fun v' H1 => v' = v ∧ H1 = H) I ⟨v, ev, rfl, rfl⟩) fun u s1 ⟨v', H1, I1, r1, q1⟩ => ?_)
  obtain ⟨ev', eH⟩ := q1
  subst ev'
  subst eH
  split at q
  case h_2 => exact False.elim q
  rename_i g edp
  have q2 : Good Γ W σ H1 μ (denE Γ) Q (match disp d with | some g => g [] h | none => .stuck) := by rw [edp]; exact q
  rcases DO d g edp with ⟨x, f, fd, ps, fm, rfl, hm, hk, F, hb, rfl⟩ | ⟨n, cs, I', ps, fb, rfl, LF, rfl⟩
  · obtain ⟨f', rfl, hm', _⟩ := id dd
    rw [hm] at hm'; cases hm'
    obtain rfl : u = Value.ref f := r1
    exact PySem.W.callWith_K0 I1.kIn hk (run_disp hJ hX DO hr tk I1 (v := .ref f) (by exact rfl) dd hrr .nil (show Dens Γ μ H1 [] [] from rfl) q2)
  · obtain ⟨f, cells, ws, rfl, x, dc⟩ := id dd
    obtain rfl : u = Value.ref f := r1
    obtain ⟨I'', clos, pm, ctv, c', h1, h2, h3, h4, _⟩ := x.obj
    obtain ⟨of1, _⟩ := I1.hok f _ h4
    exact PySem.W.callWith_F0 ⟨_, _, _, _, of1⟩ (run_disp hJ hX DO hr tk I1 (v := .ref f) (by exact rfl) dd hrr .nil (show Dens Γ μ H1 [] [] from rfl) q2)

/-! ### a def called with a lambda that captures -/
/-- the cells are not of the ground, nor frames -/
def CellsNew (X : Cx) : Prop := ∀ (pins : List (Addr × Obj)) (σ : L2.St) (H : Hp) (s : Shared), Inv X pins σ H s → ∀ x c, X.env.cells.lookup x = some c → c ∉ frs X.stack ∧ X.base.get? c = none
theorem cellsNew (hf : ∀ x, X.fn x = true) (hfr : X.env.frame = some X.env.locals) : CellsNew X := fun pins σ H s I x c e => by
  have lt : X.s_0.heap.objs.size ≤ c := I.ok.cab x c (hf x) e
  refine ⟨fun m => ?_, ?_⟩
  · rcases List.mem_cons.mp (I.stkSub c m) with z | z
    · exact I.cne x c e z
    · obtain ⟨_, o, ho, _⟩ := I.ok.funs.mem z
      exact absurd (Nat.lt_of_lt_of_le (Heap.lt_size ho) lt) (Nat.lt_irrefl _)
  · exact Heap.get?_none_of_le (Nat.le_trans I.ok.bsz lt)
def capD (ρ : Rho) : List Nat → Option (List D)
  | [] => some []
  | i :: is => match ρ[i]?, capD ρ is with
    | some (some d), some ds => some (d :: ds)
    | _, _ => none
def xCallC (fm : MF) (n : Nat) (slots : List Nat) (fa : MA) : ME := fun ρ h => (fa ρ h).bind fun ds h1 => match capD ρ slots with
  | some cs => if belowDs 0 cs && belowDs 0 ds then match fm (.clo n cs :: ds) [] with
    | .ok d [] => if plD d then .ok d h1 else .stuck
    | .err e [] => if plDs (e.fs.map (·.2)) then .err e h1 else .stuck
    | _ => .stuck
    else .stuck
  | none => .stuck
theorem capD_ok {σ : L2.St} {ρ : Rho} {H : Hp} {μ : List Addr} (he : EnvOk Γ μ H σ ρ) : ∀ {slots : List Nat} {cs : List D}, capD ρ slots = some cs → ∃ ws, Dens Γ μ H ws cs ∧ ws.length = slots.length ∧ ∀ (j i : Nat) (v : V), slots[j]? = some i → ws[j]? = some v → σ[i]? = some (some v)
  | [], cs, e => by cases e; exact ⟨[], rfl, rfl, fun j i v z => by simp at z⟩
  | i :: is, cs, e => by
    unfold capD at e
    split at e
    · rename_i d ds e1 e2
      cases e
      obtain ⟨v, a, b⟩ := he.get e1
      obtain ⟨ws, c1, c2, c3⟩ := capD_ok he e2
      refine ⟨v :: ws, ⟨v, ws, rfl, b, c1⟩, by rw [List.length_cons, List.length_cons, c2], fun j i' v' z1 z2 => ?_⟩
      cases j with
      | zero => simp at z1 z2; subst z1 z2; exact a
      | succ j => exact c3 j i' v' (by simpa using z1) (by simpa using z2)
    · cases e
theorem nd_snd : ∀ (l : List (Str × Addr)), (l.map (·.1)).Nodup → (∀ p ∈ l, ∀ q ∈ l, p.2 = q.2 → p.1 = q.1) → (l.map (·.2)).Nodup
  | [], _, _ => List.nodup_nil
  | p :: l, nd, h => by
    rw [List.map_cons] at nd ⊢
    obtain ⟨n1, n2⟩ := List.nodup_cons.mp nd
    refine List.nodup_cons.mpr ⟨fun m => n1 ?_, nd_snd l n2 fun p hp q hq => h p (List.mem_cons_of_mem _ hp) q (List.mem_cons_of_mem _ hq)⟩
    obtain ⟨q, hq, e⟩ := List.mem_map.mp m
    have := h q (List.mem_cons_of_mem _ hq) p List.mem_cons_self e
    rw [← this]
    exact List.mem_map_of_mem (f := (·.1)) hq
theorem clo_cells {cells : List (Str × Addr)} {names : List (Str × NameKind)} (hf : ∀ y ∈ names, y.2 = .free → ∃ c, cells.lookup y.1 = some c) {y : Str} {c : Addr} (h : (y, c) ∈ cloFrom cells names []) : cells.lookup y = some c := by
  rcases cloFrom_mem h with hm | ⟨h1, h2⟩
  · cases hm
  · obtain ⟨c1, hc⟩ := hf _ h1 rfl
    have hc : cells.lookup y = some c1 := hc
    rw [h2, hc]; rfl
theorem fe_callC {n m : Nat} {f : Addr} {fd : FuncData} {ps : List Str} {fm : MF} {x : Str} {p lp : Pos} {I : LamI} {slots : List Nat} (hJ : ∀ H μ, Γ.J H μ) (F : FnOk X.prog X.w X.K X.mg X.base (CX X.prog X.w) k f fd ps (spF Γ ps.length fm)) (hr : Room k X.A) (tk : Takes X W) (hg : Gl X x) (hm : X.mg x = some (.ref f)) (hk : PySem.W.keepIn X.K (.ref f) = true)
    (hb : Binds X.K fd ps []) (LT : LamT X Γ) (hl : Γ.lam n = some I) (hq : I.qual = X.env.qual ++ "<lambda>") (hdef : defaultsOf I.params X.env = ([], [])) (hfree : ∀ y ∈ I.scope.names, y.2 = .free → X.env.kindOf y.1 = some .cell ∨ X.env.kindOf y.1 = some .free) (hcn : CellsNew X)
    (hcaps : ∀ cells, (cloFrom cells I.scope.names []).map (·.1) = I.caps) (nd : I.caps.Nodup) (hsl : ∀ (j i : Nat), slots[j]? = some i → X.N[i]? = I.caps[j]?) (hsl2 : slots.length = I.caps.length) (hvis : ∀ y ∈ I.caps, X.env.scope.names.lookup y = some .cell ∨ X.env.scope.names.lookup y = some .free)
    (ha : FA X Γ W es fa) (hla : LenA fa m) (hn : m + 1 = ps.length) (hdb : (x == ("__debug__" : Str)) = false := by decide) (he : starEach (.Lambda I.params I.body I.scope lp :: es) X.env = (false, eval (.Lambda I.params I.body I.scope lp) X.env) :: starEach es X.env := by rfl) (hpl : (backTo pos (starEach es X.env)).any (·.1) = false := by rfl) :
    FE X Γ W (.Call (.Name x p) (.Lambda I.params I.body I.scope lp :: es) [] pos) (xCallC fm n slots fa) := by
  refine ⟨⟨fun pins s σ H Q I0 q => ?_⟩⟩
  obtain ⟨ρ, h, μ, heq, hrr, q⟩ := q
  refine wpAny_Call_Name_kw (ld_glob I0 hg hm ?_ hdb)
  have tq : tCons (tLam Γ X.env.cells n) (tA Γ W fa) σ H fun vs H2 => ∃ g vs' ds h2 μ2, vs = .ref g :: vs' ∧ LamO Γ X.env.cells H2 g n ∧ Rel Γ H2 μ2 h2 ∧ EnvOk Γ μ2 H2 σ ρ ∧ Dens Γ μ2 H2 vs' ds ∧ vs'.length = m ∧ Good Γ W σ H2 μ2 (denE Γ) Q (match capD ρ slots with
      | some cs => if belowDs 0 cs && belowDs 0 ds then match fm (.clo n cs :: ds) [] with
        | .ok d [] => if plD d then .ok d h2 else .stuck
        | .err e [] => if plDs (e.fs.map (·.2)) then .err e h2 else .stuck
        | _ => .stuck
        else .stuck
      | none => .stuck) := by
    refine ⟨hrr.tabs, fun g H1 e1 e2 T1 L hn1 => ?_⟩
    have r1 := lam_rel hrr e1 e2 T1
    have ex1 : Ext H μ H1 μ := lam_ext e1 e2
    refine ⟨ρ, h, μ, heq.mono ex1, r1, Good.bind (Good.mono ex1 q) fun ds h2 vs H2 μ2 z2 ee r2 d2 q2 => ?_⟩
    refine ⟨g, vs, ds, h2, μ2, rfl, ?_, r2, (heq.mono ex1).mono ee, d2, d2.length.trans (hla _ _ _ _ z2), q2⟩
    obtain ⟨I', pm, ctv, c', l1, l2, l3⟩ := L
    exact ⟨I', pm, ctv, c', l1, ee.keep _ _ l2 (r1.no l2 fun vs z => nomatch z) (fun ps z => nomatch z), ee.keep _ _ l3 (r1.no l3 fun vs z => codeO_lst _ _ _ z) (codeO_tbl _ _)⟩
  refine PySem.W.callWith_K (h₀ := X.base) I0.ok.mod.kin hk (thn ((pa_cons (pe_lam LT hl hq hdef hfree) ha.ok he).run pos pins s σ H _ I0 tq) fun us s2 ⟨vs, H2, I2, rv, g0, vs', ds, h2, μ2, ev, L, r2, he2, d2, hvl, q2⟩ => ⟨I2.kIn, ?_⟩) he hpl
  subst ev
  split at q2
  case h_2 => exact False.elim q2
  rename_i cs ecs
  split at q2
  case isFalse => exact False.elim q2
  rename_i hbl
  rw [Bool.and_eq_true] at hbl
  obtain ⟨I', pm, ctv, c', l1, l2, l3⟩ := L
  have : I' = I := by rw [hl] at l1; cases l1; rfl
  subst this
  obtain ⟨ws, dc, hwl, hws⟩ := capD_ok he2 ecs
  -- the cells
  obtain ⟨clos, hclos⟩ : ∃ clos, clos = cloFrom X.env.cells I'.scope.names [] := ⟨_, rfl⟩
  have hnames : clos.map (·.1) = I'.caps := by rw [hclos]; exact hcaps _
  rw [← hclos] at l2
  have hlook : ∀ {y c}, (y, c) ∈ clos → X.env.cells.lookup y = some c := fun {y c} m => clo_cells (fun y hy e => I2.ok.has _ (hfree y hy e)) (by rw [← hclos]; exact m)
  have hlen : clos.length = ws.length := by rw [hwl, hsl2, ← hnames, List.length_map]
  have memc : ∀ {c}, c ∈ clos.map (·.2) → ∃ y, X.env.cells.lookup y = some c := fun {c} m => by
    obtain ⟨pr, hp, e⟩ := List.mem_map.mp m
    obtain ⟨y, c0⟩ := pr
    have e : c0 = c := e
    subst e
    exact ⟨y, hlook hp⟩
  have hnone : ∀ c ∈ clos.map (·.2), H2 c = none := fun c m => by
    obtain ⟨y, e⟩ := memc m
    exact I2.freeC y c e
  have : ∃ g : Addr → Obj, ∀ c ∈ clos.map (·.2), s2.heap.get? c = some (g c) := ⟨fun c => match s2.heap.get? c with | some o => o | none => { cls := .none, data := .fields #[] }, fun c m => by
    obtain ⟨y, e⟩ := memc m
    obtain ⟨v, o, ho, _⟩ := I2.cell y c e
    show s2.heap.get? c = some (match s2.heap.get? c with | some o => o | none => { cls := .none, data := .fields #[] })
    rw [ho]⟩
  obtain ⟨g, hg2⟩ := this
  have hnew := hcn pins σ H2 s2 I2
  have ndc : (clos.map (·.2)).Nodup := by
    have ndn : (clos.map (·.1)).Nodup := by rw [hnames]; exact nd
    exact nd_snd clos ndn fun p hp q hq e => I2.ok.inj _ _ q.2 (by rw [← e]; exact hlook (y := p.1) (c := p.2) hp) (hlook (y := q.1) (c := q.2) hq)
  have hval : ∀ (j : Nat) (c : Addr) (v : V), (clos.map (·.2))[j]? = some c → ws[j]? = some v → ∃ (u : Value), (g c).data = .cell (some u) ∧ RelV v u := fun j c v e1 e2 => by
    have hj : j < clos.length := by
      have := (List.getElem?_eq_some_iff.mp e1).1
      rw [List.length_map] at this; exact this
    have hjs : j < slots.length := by rw [hsl2, ← hnames, List.length_map]; exact hj
    have e3 : slots[j]? = some slots[j] := List.getElem?_eq_getElem hjs
    have e4 := hsl j _ e3
    have e5 : I'.caps[j]? = some clos[j].1 := by rw [← hnames, List.getElem?_map, List.getElem?_eq_getElem hj]; rfl
    rw [e5] at e4
    have e6 := hws j _ v e3 e2
    obtain ⟨m0, hn0, hlk⟩ := I2.loc
    have hk2 := hvis clos[j].1 (List.mem_of_getElem? e5)
    obtain ⟨u, ru, lk⟩ := hlk _ _ v e4 e6 (hk2.elim (fun z => .inr (.inl z)) fun z => .inr (.inr z))
    have ec : clos[j].2 = c := by
      rw [List.getElem?_map, List.getElem?_eq_getElem hj] at e1
      exact Option.some.inj e1
    have a1 := hlook (y := clos[j].1) (c := clos[j].2) (List.getElem_mem hj)
    rw [ec] at a1
    rcases lk with ⟨z, _⟩ | ⟨_, c2, z1, o, z2, z3⟩
    · exfalso
      have z : X.env.scope.names.lookup clos[j].1 = some .local := z
      rcases hk2 with k2 | k2 <;> rw [k2] at z <;> cases z
    · rw [a1] at z1
      cases z1
      rw [hg2 c (List.mem_of_getElem? e1)] at z2
      cases z2
      exact ⟨u, z3, ru⟩
  have nf : ∀ c ∈ clos.map (·.2), c ∉ frs X.stack := fun c m => by
    obtain ⟨y, e⟩ := memc m
    exact (hnew y c e).1
  have out : ∀ {a u}, H2 a = some u → addC H2 (clos.map (·.2)) g a = some u := fun {a u} z => by
    rw [addC_out fun m => by rw [hnone a m] at z; cases z]; exact z
  have up0 : Ext0 H2 [] (addC H2 (clos.map (·.2)) g) [] := ⟨List.prefix_refl _, fun a u z _ _ _ => out z, fun a ps z _ => ⟨ps, out z⟩, fun _ m => .inl m⟩
  have e0 : Env0 X.prog X.w X.K X.mg X.base X.A X.stack s2 (addC H2 (clos.map (·.2)) g) := by
    have e := I2.env0
    refine ⟨e.frames, e.mod, fun b o q => ⟨(e.bs b o q).1, ?_⟩, e.bsz, e.funs, fun b m => ?_, HOk.addC e.hok hnone hg2, e.bare⟩
    · rw [addC_out fun m => by
        obtain ⟨y, z⟩ := memc m
        rw [(hnew y b z).2] at q; cases q]
      exact (e.bs b o q).2
    · rw [addC_out fun m2 => nf b m2 m]
      exact e.frf b m
  have ds0 : Dens Γ [] H2 vs' ds := d2.takeN (n := 0) (Nat.zero_le _) hbl.2
  have dc0 : Dens Γ [] H2 ws cs := dc.takeN (n := 0) (Nat.zero_le _) hbl.1
  have hrel : Rel Γ (addC H2 (clos.map (·.2)) g) [] [] := ⟨rfl, List.nodup_nil, fun i a o z _ => by simp at z, tabs_same (same_add hnone) r2.tabs, hJ _ _⟩
  have dclo : Den Γ [] (addC H2 (clos.map (·.2)) g) (.ref g0) (.clo n cs) := by
    refine ⟨g0, clos.map (·.2), ws, rfl, ⟨⟨I', clos, pm, ctv, c', hl, hnames, rfl, out l2, out l3, fun m => (by rw [hnone c' m] at l3; cases l3), (fun m => nomatch m)⟩, ⟨(fun m => nomatch m), fun m => (by rw [hnone g0 m] at l2; cases l2)⟩, ndc, (fun c _ m => nomatch m), by rw [List.length_map]; exact hlen, fun j c v e1 e2 => ?_⟩, ?_⟩
    · obtain ⟨u, z1, z2⟩ := hval j c v e1 e2
      exact ⟨g c, u, addC_in (List.mem_of_getElem? e1), z1, z2⟩
    · rw [hide_add hnone]
      exact dc0
  have back : ∀ {H' : Hp} {μ' : List Addr}, Ext (addC H2 (clos.map (·.2)) g) [] H' μ' → LamX.Tabs Γ.T H' → Ext H2 μ2 (hideC H' (clos.map (·.2))) μ2 ∧ Rel Γ (hideC H' (clos.map (·.2))) μ2 h2 ∧ (∀ c ∈ clos.map (·.2), ∀ u, H' c = some u → ∃ o, u = .frz o (.own 0)) ∧ ∀ a, (∃ u, H' a = some u ∧ ∀ xs, u ≠ .lst xs) → a ∉ μ2 := fun {H' μ'} e t => by
    have no : ∀ {a u}, H2 a = some u → a ∉ clos.map (·.2) := fun {a u} z m => by rw [hnone a m] at z; cases z
    have fz : ∀ c ∈ clos.map (·.2), ∀ u, H' c = some u → ∃ o, u = .frz o (.own 0) := fun c m u z => by
      have := e.keep c _ (addC_in m) (fun z => nomatch z) (fun ps z => nomatch z)
      rw [z] at this; cases this
      exact ⟨_, rfl⟩
    have ex : Ext H2 μ2 (hideC H' (clos.map (·.2))) μ2 := {
      pre := List.prefix_refl _
      keep := fun a u z _ t => by
        rw [hideC_out (no z)]
        exact e.keep a u (out z) (fun z => nomatch z) t
      keepT := fun a ps z _ => by
        rw [hideC_out (no z)]
        exact e.keepT a ps (out z) (fun z => nomatch z)
      new := fun _ m => .inl m }
    refine ⟨ex, r2.grow ex (fun a m => ?_) (tabs_same (same_hide fz) t), fz, fun a ⟨u, z, nl⟩ m => ?_⟩
    · obtain ⟨xs, z⟩ := r2.mem m
      rw [z, hideC_out (no z)]
      exact e.keep a _ (out z) (fun z => nomatch z) (fun ps z => nomatch z)
    · obtain ⟨xs, z2⟩ := r2.mem m
      have := e.keep a _ (out z2) (fun z => nomatch z) (fun ps z => nomatch z)
      rw [z] at this; cases this
      exact nl xs rfl
  have sp : spF Γ ps.length fm (.ref g0 :: vs') (addC H2 (clos.map (·.2)) g) (fun v H' => Q v (hideC H' (clos.map (·.2)))) (fun c d H' => W c d σ (hideC H' (clos.map (·.2)))) := by
    refine ⟨by rw [List.length_cons, hvl]; exact hn, .clo n cs :: ds, [], [], ⟨.ref g0, vs', rfl, dclo, ds0.mono0 up0⟩, hrel, ?_⟩
    cases ef : fm (.clo n cs :: ds) [] with
    | ok d h' =>
      rw [ef] at q2
      cases h' with
      | cons _ _ => exact False.elim q2
      | nil =>
        simp only at q2
        split at q2
        · rename_i hpd
          intro v H' μ' e r' dd
          obtain ⟨b1, b2, b3, b4⟩ := back e r'.tabs
          exact q2 v _ μ2 b1 b2 (Den.same (same_hide b3) b4 hpd dd)
        · exact False.elim q2
    | err ex h' =>
      rw [ef] at q2
      cases h' with
      | cons _ _ => exact False.elim q2
      | nil =>
        simp only at q2
        split at q2
        · rename_i hpd
          intro cls dd H' μ' e r' xx
          obtain ⟨b1, b2, b3, b4⟩ := back e r'.tabs
          refine q2 cls dd _ μ2 b1 b2 ?_
          obtain ⟨C, dx, vs3, z1, z2, z3, z4, z5⟩ := xx
          refine ⟨C, dx, vs3, z1, z2, z3, ?_, Dens.same (same_hide b3) b4 hpd z5⟩
          rw [hideC_out fun m => by obtain ⟨o, z⟩ := b3 dx m _ z4; cases z]; exact z4
        · exact False.elim q2
    | stuck => rw [ef] at q2; exact False.elim q2
  have hul : us.length = ps.length := by
    rw [← rv.length, List.length_cons, hvl]; exact hn
  have hbt := hb s2 us I2.kIn (by rw [List.append_nil]; exact hul)
  rw [List.append_nil] at hbt
  refine wpAny_call (codeAny_mono (F.run X.A X.stack s2 _ ⟨us, []⟩ us (.ref g0 :: vs') _ _ hr e0 hbt rv sp) fun r s' hq => ?_)
  cases r with
  | error e => exact tk e s' (XE.of_call (E := fun cl d H1 => W cl d σ H1) I2 (fun _ _ _ h => h) (CX.hide hq (fun cl d H' z => z) hnone hg2 nf))
  | ok fl =>
    cases fl with
    | ret u => exact I2.after (CE.hide hq (fun v H' z => z) hnone hg2 nf)
    | next => exact False.elim hq
    | brk => exact False.elim hq
    | cont => exact False.elim hq
end
end MP
end
section
set_option Elab.async false
set_option linter.all false
set_option maxRecDepth 100000
set_option maxHeartbeats 2000000
/-! M19: methods of lists; enumerate(text). -/
namespace MP
open PySem PySem.Spec PyProof.Rows L2

/-! ### methods that write a list -/
def xMt (g : List D → List D → Option (D × List D)) (fo : ME) (fa : MA) : ME := fun ρ h => (fo ρ h).bind fun o h1 => match o with
  | .ref i => (fa ρ h1).bind fun ds h2 => match hl h2 i with
    | some es => match g es ds with
      | some (d, es') => .ok d (h2.set i (.lst es'))
      | none => .stuck
    | none => .stuck
  | _ => .stuck
def MtOk (Γ : G) (r : V → List V → Hp → VK → Prop) (g : List D → List D → Option (D × List D)) : Prop := ∀ (μ : List Addr) (H : Hp) (l : Addr) (vs ws : List V) (es ds : List D) (d : D) (es' : List D), H l = some (.lst vs) → Dens Γ μ H vs es → Dens Γ μ H ws ds → g es ds = some (d, es') →
  ∃ v vs', Den Γ μ H v d ∧ Dens Γ μ H vs' es' ∧ ∀ Q : VK, Q v (upd H l (.lst vs')) → r (.ref l) ws H Q
section
variable {X : Cx} {Γ : G} {W : WX} {o e : Expr} {es : List Expr} {name : Str} {id : String} {r : V → List V → Hp → VK → Prop} {g : List D → List D → Option (D × List D)} {fo : ME} {fa : MA} {apos cpos : Pos}
theorem ty_ref {H : Hp} {μ : List Addr} {h : List MO} (hX : CxG X Γ) (rl : Rel Γ H μ h) {i : Nat} {v : V} (d : Den Γ μ H v (.ref i)) : tyV X.K "list" v H := by
  obtain ⟨a, rfl, q⟩ := d
  obtain ⟨vs, e⟩ := rl.mem (List.mem_of_getElem? q)
  exact .inl ⟨rfl, vs, SqL.of e⟩
theorem mt_run (hX : CxG X Γ) (hg : MtOk Γ r g) {σ : L2.St} {H : Hp} {Q : VK} (q : tE Γ W (xMt g fo fa) σ H Q) : tE Γ W fo σ H fun x H1 => tyV X.K "list" x H1 ∧ tA Γ W fa σ H1 fun xs H2 => r x xs H2 Q := by
  obtain ⟨ρ, h, μ, he, hr, q⟩ := q
  refine ⟨ρ, h, μ, he, hr, Good.bind q fun o h1 v H1 μ1 z0 e1 r1 d1 q1 => ?_⟩
  split at q1
  case h_2 => exact False.elim q1
  rename_i i
  refine ⟨ty_ref hX r1 d1, ρ, h1, μ1, he.mono e1, r1, Good.bind q1 fun ds h2 ws H2 μ2 z9 e2 r2 d2 q2 => ?_⟩
  split at q2
  case h_2 => exact False.elim q2
  rename_i es' eh
  split at q2
  case h_2 => exact False.elim q2
  rename_i d es2 eg
  obtain ⟨a, rfl, hm⟩ := d1.mono e2
  obtain ⟨vs, z1, z2⟩ := r2.ob i a _ hm (hl_iff.mp eh)
  obtain ⟨v, vs', y1, y2, y3⟩ := hg μ2 H2 a vs ws es' ds d es2 z1 z2 d2 eg
  have ex : Ext H2 μ2 (upd H2 a (.lst vs')) μ2 := ext_write (List.mem_of_getElem? hm)
  exact y3 Q (q2 v _ μ2 ex (rel_write r2 hm y2) (y1.mono ex))
theorem fe_mt (hX : CxG X Γ) (pa : PlainAttrs "list") (slot : Slot "list" name id) (hty : typeOf (.builtin id) = pure (.type "method_descriptor")) (hm : MtR X id r) (hg : MtOk Γ r g) (ho : FE X Γ W o fo) (ha : FA X Γ W (e :: es) fa)
    (hbase : attributeBase o name X.env (eval o X.env) = eval o X.env := by rfl)
    (hfew : ((backTo cpos (starEach (e :: es) X.env)).all (fun x => !x.1) && (backToKw cpos (keywordEach [] X.env)).all (fun x => x.1.isSome)
      && decide ((e :: es).length + ([] : List Keyword).length + (if ([] : List Keyword).isEmpty then 0 else 1) < 30)) = true := by rfl)
    (hline : (apos.endLine == cpos.line) = true := by rfl) (hs : starEach (e :: es) X.env = (false, eval e X.env) :: starEach es X.env := by rfl) (hplain : (backTo cpos (starEach es X.env)).any (·.1) = false := by rfl) :
    FE X Γ W (.Call (.Attribute o name apos) (e :: es) [] cpos) (xMt g fo fa) :=
  ⟨(pe_bm pa slot hty hm ho.ok ha.ok hbase hfew hline hs hplain).imp fun σ H Q q => mt_run hX hg q⟩
theorem fe_mt0 (hX : CxG X Γ) (pa : PlainAttrs "list") (slot : Slot "list" name id) (hty : typeOf (.builtin id) = pure (.type "method_descriptor")) (hm : MtR X id r) (hg : MtOk Γ r g) (ho : FE X Γ W o fo)
    (hbase : attributeBase o name X.env (eval o X.env) = eval o X.env := by rfl) (hline : (apos.endLine == cpos.line) = true := by rfl) : FE X Γ W (.Call (.Attribute o name apos) [] [] cpos) (xMt g fo aNil) := by
  refine ⟨(pe_bm0 pa slot hty hm ho.ok hbase hline).imp fun σ H Q q => ?_⟩
  obtain ⟨ρ, h, μ, he, hr, q⟩ := mt_run hX hg q
  refine ⟨ρ, h, μ, he, hr, ?_⟩
  revert q
  cases fo ρ h with
  | ok a h1 =>
    intro q v H1 μ1 e1 r1 d1
    obtain ⟨t, ρ2, h2, μ2, he2, r2, q2⟩ := q v H1 μ1 e1 r1 d1
    exact ⟨t, q2 [] H1 μ2 (Ext.refl _ _) r2 rfl⟩
  | err ex h1 => exact fun q => q
  | stuck => exact fun q => q
end
/-! the methods -/
def gAppend : List D → List D → Option (D × List D) := fun es ds => match ds with
  | [d] => if es.length < LINE then some (.non, es ++ [d]) else none
  | _ => none
theorem ok_append {Γ : G} : MtOk Γ rAppend gAppend := by
  intro μ H l vs ws es ds d es' hl k1 k2 e
  unfold gAppend at e
  split at e
  · rename_i d0
    split at e
    · rename_i hn
      cases e
      obtain ⟨w, rfl, k3⟩ := dens1 k2
      exact ⟨.non, vs ++ [w], rfl, k1.append (Dens.one k3), fun Q q => ⟨l, vs, w, rfl, rfl, hl, by rw [line_eq, k1.length]; exact hn, q⟩⟩
    · cases e
  · cases e
def gPop : List D → List D → Option (D × List D) := fun es ds => match ds with
  | [] => match es[es.length - 1]? with
    | some d => some (d, es.dropLast)
    | none => none
  | _ => none
theorem Dens.dropLast {Γ : G} {μ : List Addr} {H : Hp} {ds : List D} {vs : List V} (k : Dens Γ μ H vs ds) : Dens Γ μ H vs.dropLast ds.dropLast := by
  rw [List.dropLast_eq_take, List.dropLast_eq_take, k.length]
  exact k.take _
theorem ok_pop {Γ : G} : MtOk Γ rPop gPop := by
  intro μ H l vs ws es ds d es' hl k1 k2 e
  unfold gPop at e
  split at e
  · split at e
    · rename_i d0 ed
      cases e
      obtain ⟨v, ev, dv⟩ := k1.get ed
      have : ws = [] := k2
      subst this
      exact ⟨v, vs.dropLast, dv, k1.dropLast, fun Q q => ⟨l, vs, v, rfl, rfl, hl, by rw [k1.length]; exact ev, q⟩⟩
    · cases e
  · cases e
def gPopAt : List D → List D → Option (D × List D) := fun es ds => match ds with
  | [.int i] => if -(2 ^ 40) ≤ i ∧ i < 2 ^ 40 then match seqIndex? i es.length with
    | some k => match es[k]? with
      | some d => some (d, es.eraseIdx k)
      | none => none
    | none => none
    else none
  | _ => none
theorem Dens.erase {Γ : G} {μ : List Addr} {H : Hp} : ∀ {ds : List D} {vs : List V} (k : Nat), Dens Γ μ H vs ds → Dens Γ μ H (vs.eraseIdx k) (ds.eraseIdx k)
  | [], _, k, h => by rw [show _ = [] from h]; exact rfl
  | d :: ds, _, 0, h => by
    obtain ⟨v, r, rfl, q, t⟩ := h
    exact t
  | d :: ds, _, k + 1, h => by
    obtain ⟨v, r, rfl, q, t⟩ := h
    exact ⟨v, r.eraseIdx k, rfl, q, Dens.erase k t⟩
theorem ok_popAt {Γ : G} : MtOk Γ rPopAt gPopAt := by
  intro μ H l vs ws es ds d es' hl k1 k2 e
  unfold gPopAt at e
  split at e
  · rename_i i
    split at e
    · rename_i hb
      split at e
      · rename_i k ek
        split at e
        · rename_i d0 ed
          cases e
          obtain ⟨w, rfl, k3⟩ := dens1 k2
          cases k3
          obtain ⟨v, ev, dv⟩ := k1.get ed
          exact ⟨v, vs.eraseIdx k, dv, k1.erase k, fun Q q => ⟨l, vs, i, k, v, rfl, rfl, hl, by omega, by omega, by rw [k1.length]; exact ek, ev, q⟩⟩
        · cases e
      · cases e
    · cases e
  · cases e

/-! ### enumerate(text) -/
def Ites (x : Str) : It := ⟨fun i _ => i < x.cps.size, fun i H v H' => ∃ T c, v = .ref T ∧ H T = none ∧ H' = upd H T (.tup [.int (i : Nat), .str ⟨#[c]⟩]) ∧ x.cps[i]? = some c, fun i _ => x.cps.size ≤ i⟩
theorem turn_enumS {P : Program} {w : World} {K : PySem.W.Frag} {elts : List Expr} {kk : Nat} {tpos : Pos} (x : Str) (t : Tok) (e it : Addr) :
    Turn P w K (.Tuple elts kk tpos) (Ites x) [e, it] e (fun i h => (∃ old, IsEnum h e it ((i : Nat) : Int) old) ∧ h.IsStrIter it (strIterType x) x t i ∧ e ≠ it ∧ i ≤ x.cps.size) where
  mem := by simp
  obj := fun i h st b hb => by
    obtain ⟨⟨old, he⟩, ⟨o, ho, hc, hd⟩, _⟩ := st
    have e' : b = e ∨ b = it := by simpa using hb
    rcases e' with z | z
    · rw [z]; exact ⟨_, he, fun v q => nomatch q⟩
    · rw [z]; exact ⟨o, ho, fun v q => by rw [hd] at q; cases q⟩
  keep := fun i h h' st k => let ⟨⟨old, he⟩, ⟨o, ho, r⟩, hne⟩ := st; ⟨⟨old, k e (by simp) _ he⟩, ⟨o, k it (by simp) o ho, r⟩, hne⟩
  item := by
    intro X hP hw hK hc i pins s σ H E I hf st hg
    subst hP hw hK
    obtain ⟨⟨old, he⟩, hit, hne, hle⟩ := st
    have hel : e < s.heap.objs.size := Heap.lt_size he
    have hil : it < s.heap.objs.size := by obtain ⟨_, q, _⟩ := hit; exact Heap.lt_size q
    have Dr : Draws X.prog X.w X.A.in1 it [it] x.cps.size (fun i v => ∃ c u, x.cps[i]? = some c ∧ v = .str ⟨#[c]⟩ u) (fun i h => h.IsStrIter it (strIterType x) x t i) := by
      unfold strIterType
      split
      · exact Draws.strAscii (A := X.A.in1) (I.ok.hd hc) it x t
      · exact Draws.strWide (A := X.A.in1) (I.ok.hd hc) it x t
    refine wpAny_pyNext_enum_itemD Dr he hit hg hne (by simpa using hne) fun u h' tk hP ho hit' hT hsz hk => ?_
    obtain ⟨c, tu, hcx, rfl⟩ := hP
    refine ⟨_, rfl, wpAny_letOwnedTupleGo_enum (s := { s with heap := h', toks := tk + 1 }) ho fun h'' he' sb => ?_⟩
    have hT2 : h''.get? s.heap.objs.size = some { cls := .type "tuple", data := .seq #[.int i tk, .str ⟨#[c]⟩ tu] } := (sb.2 _ (Nat.ne_of_gt hel)).trans hT
    have new : ObjOk X.prog X.w (upd H s.heap.objs.size (.tup [.int (i : Nat), .str ⟨#[c]⟩])) h'' s.heap.objs.size (.tup [.int (i : Nat), .str ⟨#[c]⟩]) :=
      ⟨by show 2 ≤ sizeLine; decide, [.int i tk, .str ⟨#[c]⟩ tu], .cons ⟨_, rfl⟩ (.cons ⟨_, rfl⟩ .nil), ⟨_, hT2, rfl, _, rfl⟩⟩
    have I1 : Inv X pins σ (upd H s.heap.objs.size (.tup [.int (i : Nat), .str ⟨#[c]⟩])) { s with heap := h'', toks := tk + 1 } :=
      I.turnedNew (ch := [e, it]) (fun b ob hb q => (sb.2 b (fun z => hb (by simp [z]))).trans (hk b ob (fun z => hb (by simp [z])) (fun z => hb (by simp [z])) q)) hf (Nat.le_refl _) new
    refine ⟨.ref s.heap.objs.size, _, I1, rfl, ⟨_, c, rfl, I.hok.fresh (Nat.le_refl _), rfl, hcx⟩, ⟨⟨.str ⟨#[c]⟩ tu, ?_⟩, ?_, hne, hg⟩, fun b hb => ?_⟩
    · have e1 : ((i + 1 : Nat) : Int) = (i : Int) + 1 := by omega
      rw [e1]; exact he'
    · obtain ⟨o, q, r⟩ := hit'
      exact ⟨o, (sb.2 it (Ne.symm hne)).trans q, r⟩
    · have hb' : b < s.heap.objs.size := by
        have e' : b = e ∨ b = it := by simpa using hb
        rcases e' with z | z
        · rw [z]; exact hel
        · rw [z]; exact hil
      rw [upd_ne (Nat.ne_of_lt hb')]
      exact (hf b hb).1
  done := by
    intro X hP hw hK hc i pins s σ H E I hf st hg
    subst hP hw hK
    obtain ⟨⟨old, he⟩, hit, hne, hle⟩ := st
    obtain ⟨f0, f1, f2, f3, f4, f5⟩ := hf it (by simp)
    have ei : i = x.cps.size := Nat.le_antisymm hle hg
    subst ei
    have Dr : Draws X.prog X.w X.A.in1 it [it] x.cps.size (fun i v => ∃ c u, x.cps[i]? = some c ∧ v = .str ⟨#[c]⟩ u) (fun i h => h.IsStrIter it (strIterType x) x t i) := by
      unfold strIterType
      split
      · exact Draws.strAscii (A := X.A.in1) (I.ok.hd hc) it x t
      · exact Draws.strWide (A := X.A.in1) (I.ok.hd hc) it x t
    exact wpAny_pyNext_enum_endD Dr he hit fun h' eb => ⟨rfl, I.turned (t' := s.toks) (fun b o hb q => eb b o hb q) f0 f1 f3 f4 f5⟩
  self := fun A i s Q E st h => let ⟨⟨_, he⟩, _⟩ := st; wpAny_pyIter_enum he h
def iEnumS (ta : TA) : TI := fun σ H R => ta σ H fun vs H1 => ∃ x, vs = [.str x] ∧ R (Ites x) H1
theorem pi_enumS {X : Cx} {e : Expr} {ta : TA} {p pos tpos : Pos} {elts : List Expr} {kk : Nat} (hg : Gl X "enumerate") (hm : X.mg "enumerate" = none) (ha : PA X [e] ta) (hs : starEach [e] X.env = [(false, eval e X.env)] := by rfl) :
    PI X (.Tuple elts kk tpos) (.Call (.Name "enumerate" p) [e] [] pos) (iEnumS ta) := by
  refine ⟨fun pins s σ H R I h => ?_⟩
  refine Call_ (ld_blt I hg hm boot_enumerate (PyProof.Rows.callWith_type1 (thn (ha.run pos pins s σ H _ I h) fun us s1 ⟨vs, H1, I1, r1, q1⟩ => ?_) hs rfl))
  obtain ⟨x, ex, q⟩ := q1
  subst ex
  cases r1 with
  | cons r rr =>
    cases rr
    obtain ⟨t, rfl⟩ := r
    refine call_enumerate_str fun h' he hit hsz hk => wpAny_pyIter_enum he ?_
    have I2 : Inv X pins σ H1 { s1 with heap := h' } := I1.kept (t' := s1.toks) hk
    refine ⟨s1.heap.objs.size + 1, [s1.heap.objs.size + 1, s1.heap.objs.size], _, _, H1, rfl, I2, turn_enumS x t (s1.heap.objs.size + 1) s1.heap.objs.size, ⟨⟨.none, he⟩, hit, Nat.succ_ne_self _, Nat.zero_le _⟩, fun b hb => ?_, q⟩
    have e' : b = s1.heap.objs.size + 1 ∨ b = s1.heap.objs.size := by simpa using hb
    have hle : s1.heap.objs.size ≤ b := by
      rcases e' with z | z
      · rw [z]; exact Nat.le_add_right _ _
      · rw [z]; exact Nat.le_refl _
    exact I1.fpOk hle (I1.hok.fresh hle)
def xEnumS (f : MA) : MI := fun ρ h => (f ρ h).bind fun ds h1 => match ds with
  | [.str l] => .ok ⟨enumD 0 (l.map fun c => .str [c]), none⟩ h1
  | _ => .stuck
theorem fi_enumS {X : Cx} {Γ : G} {W : WX} {e : Expr} {f : MA} {p pos tpos : Pos} {elts : List Expr} {kk : Nat} (hg : Gl X "enumerate") (hm : X.mg "enumerate" = none) (ha : FA X Γ W [e] f) (hs : starEach [e] X.env = [(false, eval e X.env)] := by rfl) :
    FI X Γ W (.Tuple elts kk tpos) (.Call (.Name "enumerate" p) [e] [] pos) (xEnumS f) := by
  refine ⟨PIimp (pi_enumS hg hm ha.ok hs) fun σ H R q => ?_⟩
  obtain ⟨ρ, h, μ, he, hr, q⟩ := q
  refine ⟨ρ, h, μ, he, hr, Good.bind q fun ds h1 vs H1 μ1 z1 e1 r1 d1 q1 => ?_⟩
  split at q1
  · rename_i l
    obtain ⟨v, rfl, k1⟩ := dens1 d1
    cases (show v = _ from k1)
    refine ⟨S l, rfl, q1 _ _ _ (Ext.refl _ _) r1 ?_⟩
    intro H μ h e r c
    have hsz : (S l).cps.size = l.length := by simp
    refine ⟨fun i d ed => ?_, fun i hi => by show (S l).cps.size ≤ i; rw [hsz]; rw [enumD_len] at hi; simpa using hi⟩
    have ed' : (enumD 0 (l.map fun c => D.str [c]))[i]? = some d := ed
    rw [enumD_get, List.getElem?_map] at ed'
    cases eg : l[i]? with
    | none => rw [eg] at ed'; cases ed'
    | some c0 =>
      rw [eg] at ed'
      cases ed'
      refine ⟨by show i < (S l).cps.size; rw [hsz]; exact (List.getElem?_eq_some_iff.mp eg).1, fun x H' y => ?_⟩
      obtain ⟨T, c, rfl, hT, rfl, hcx⟩ := y
      have : c = c0 := by
        have : l[i]? = some c := by simpa using hcx
        rw [eg] at this; cases this; rfl
      subst this
      refine ⟨Ext.laid hT, r.laid hT, T, _, rfl, .inl ⟨r.fresh hT, .inl upd_same⟩, _, _, rfl, ?_, _, _, rfl, rfl, rfl⟩
      show V.int _ = V.int _
      rw [Nat.zero_add]
  · exact False.elim q1
end MP
end
section
set_option Elab.async false
set_option linter.all false
set_option maxRecDepth 100000
set_option maxHeartbeats 2000000
/-! M20: the end of a law; the head's facts. -/
namespace MP
open PySem PySem.Spec PyProof.Rows L2 LamX

/-- a list that is known, or of the module -/
def LsM (K : PySem.W.Frag) (H : Hp) (a : Addr) (vs : List V) : Prop := (∃ o, H a = some (.frz o (.lst vs))) ∨ ∃ (its : Array Value) (n : Nat), K.lookup a = some { cls := .type "list", data := .seq its n } ∧ its.size ≤ sizeLine ∧ Vals vs its.toList
/-- LamX.law_callTs, the script known as it stands -/
theorem law_callM {P : Program} {w : World} {K : PySem.W.Frag} {mg mb : Str → Option Value} {CX : CXT} {k : Nat} {fa a : Addr} {cs : List (Addr × Addr)} {fd : FuncData} {x : Str} {sp : Sp} {s₁ : Shared} {vs : List Value} {ns : List Int}
    (KX : K.In s₁.heap) (hns : s₁.heap.Ns mainGlobals mg) (hb : s₁.heap.Ns builtinsNs mb) (hbb : ∀ x : Str, x ≠ "__name__" → mb x = bootBuiltins x) (hlim : s₁.heap.NoLimit) (hg : s₁.gens = #[])
    (hT : ∀ p ∈ cs, s₁.heap.get? p.2 = some { cls := .none, data := .fields #[] }) (nT : ∀ p ∈ cs, K.lookup p.2 = none) (C : ∀ p ∈ cs, PySem.W.CodeHd s₁.heap p.1 p.2)
    (hbm : ∃ (bm : Addr) (ob : Obj), mg "__builtins__" = some (.ref bm) ∧ bm ≠ builtinsNs ∧ s₁.heap.get? bm = some ob ∧ ob.cls = .type "module" ∧ ob.dict = some builtinsNs ∧ ob.data = .plain)
    (ha : s₁.heap.get? a = some { cls := .type "list", data := .seq vs.toArray }) (hi : IntsAre vs ns) (hl : ns.length ≤ sizeLine) (hr : Room k callerA)
    (F : ∀ base : Heap, K.In base → base.Ns mainGlobals mg → (∀ p ∈ cs, TabB base mg p.1 p.2) → FnOk P w K mg base CX k fa fd [x] sp) (hbind : ∀ (s : Shared) (u : Value), BindsTo s fd ⟨[u], []⟩ [(x, u)])
    (hsp : ∀ H : Hp, (∀ p ∈ cs, H p.2 = some (.tbl #[])) → LsM K H a (ns.map V.int) → sp [.ref a] H (fun v _ => v = .bl true) fun _ _ _ => False)
    (hCX : ∀ H e s', CX [] H s₁ (fun _ _ _ => False) e s' → False) :
    codeAny (model P w) callerA (.call (.ref fa) ⟨[.ref a], []⟩) (fun r s' => r = .ok (.ret (.bool true)) ∧ OldK s₁.heap s'.heap ∧ s'.os = s₁.os ∧ AllBare s'.gens) s₁ := by
  have rv := vals_ints hi
  have lenV := hi.length
  have isT : ∀ b : Addr, b ∈ cs.map (·.2) → s₁.heap.get? b = some { cls := .none, data := .fields #[] } := fun b hb => by
    obtain ⟨p, hp, e⟩ := List.mem_map.mp hb
    rw [← e]
    exact hT p hp
  have aT : a ∉ cs.map (·.2) := fun z => by
    have q := isT a z
    rw [ha] at q
    have z' : Data.seq vs.toArray _ = Data.fields #[] := congrArg Obj.data (Option.some.inj q)
    cases z'
  have memT : ∀ p ∈ cs, p.2 ∈ cs.map (·.2) := fun p hp => List.mem_map.mpr ⟨p, hp, rfl⟩
  -- from an abstract heap in which nothing but the script and the tables may be tracked
  have core : ∀ H : Hp, (∀ p ∈ cs, H p.2 = some (.tbl #[])) → (∀ b, H b = none ∨ b ∈ cs.map (·.2) ∨ ∃ o xs, H b = some (.frz o (.lst xs))) → LsM K H a (ns.map V.int) → HOk P w H s₁.heap → (∀ b, H b ≠ none → b = a ∨ b ∈ cs.map (·.2)) → (H a ≠ none → K.lookup a = none) →
      codeAny (model P w) callerA (.call (.ref fa) ⟨[.ref a], []⟩) (fun r s' => r = .ok (.ret (.bool true)) ∧ OldK s₁.heap s'.heap ∧ s'.os = s₁.os ∧ AllBare s'.gens) s₁ := by
    intro H hH hO hS hok hA hK
    have base_of : ∀ {b : Addr} {o : Obj}, s₁.heap.get? b = some o → H b = none → (hidT s₁.heap H).get? b = some o := fun e n => hidT_get e n
    have noD : ∀ {b : Addr} {o : Obj}, s₁.heap.get? b = some o → (∀ vs n, o.data ≠ .seq vs n) → o.data ≠ .fields #[] → H b = none := fun {b o} e h1 h2 => by
      cases q : H b with
      | none => rfl
      | some u =>
        rcases hA b (by rw [q]; simp) with e' | e'
        · rw [e', ha] at e
          cases e
          exact (h1 _ _ rfl).elim
        · rw [isT b e'] at e
          cases e
          exact (h2 rfl).elim
    have noA : ∀ {b : Addr} {o : Obj} {es : Array DictEntry} {ep : Nat}, s₁.heap.get? b = some o → o.data = .dict es ep → H b = none := fun {b o es ep} e d => by
      refine noD e (fun vs n z => ?_) fun z => ?_
      · rw [d] at z
        cases z
      · rw [d] at z
        cases z
    have nsK : ∀ {b : Addr} {m : Str → Option Value}, s₁.heap.Ns b m → (hidT s₁.heap H).Ns b m := fun {b m} ⟨o, es, ep, e, d, r⟩ => ⟨o, es, ep, base_of e (noA e d), d, r⟩
    have hKb : K.In (hidT s₁.heap H) := fun b o e => base_of (KX b o e) (by
      cases q : H b with
      | none => rfl
      | some u =>
        rcases hA b (by rw [q]; simp) with e' | e'
        · rw [e'] at e q
          rw [hK (by rw [q]; simp)] at e
          cases e
        · obtain ⟨p, hp, ep⟩ := List.mem_map.mp e'
          rw [← ep, nT p hp] at e
          cases e)
    have hM : L2.Mod K mg (hidT s₁.heap H) := ⟨hKb, nsK hns, ⟨mb, nsK hb, hbb⟩, let ⟨mc, h1, h2⟩ := hlim; ⟨mc, nsK h1, h2⟩⟩
    have TB : ∀ p ∈ cs, TabB (hidT s₁.heap H) mg p.1 p.2 := fun p hp => by
      have hTp := hT p hp
      refine ⟨?_, ?_, fun z => ?_⟩
      · obtain ⟨o, us, file, tf, flags, tg, inF, text, tt, e1, r1, r2, r3, r4, r5, r6, r7, r8, hne⟩ := C p hp
        refine ⟨o, us, file, tf, flags, tg, inF, text, tt, base_of e1 (noD e1 (fun vs n z => ?_) fun z => ?_), r1, r2, r3, r4, r5, r6, r7, r8, hne⟩
        · rw [r2] at z
          cases z
        · rw [r2] at z
          cases z
          simp at r3
      · obtain ⟨bm, ob, b1, b2, b3, b4, b5, b6⟩ := hbm
        have nG : bm ≠ mainGlobals := fun q => by
          obtain ⟨o, es, ep, e, hd, _⟩ := hns
          rw [q, e] at b3
          cases b3
          rw [hd] at b6
          cases b6
        have nP : bm ≠ p.2 := fun q => by
          rw [q, hTp] at b3
          cases b3
          cases b6
        refine ⟨bm, ob, b1, b2, nG, nP, base_of b3 (noD b3 (fun vs n z => ?_) fun z => ?_), b4, b5, b6⟩
        · rw [b6] at z
          cases z
        · rw [b6] at z
          cases z
      · obtain ⟨o, es, ep, e, hd, _⟩ := hns
        rw [z, hTp] at e
        cases e
        cases hd
    have e0 : Env0 P w K mg (hidT s₁.heap H) callerA [] s₁ H := ⟨rfl, hM, fun b o e => of_hidT e, Nat.le_of_eq (hidT_size _ _), trivial, fun b hb => absurd (show b ∈ ([] : List Addr) from hb) (by simp), hok, .of_eq hg⟩
    refine codeAny_mono ((F _ hKb (nsK hns) TB).run callerA [] s₁ H ⟨[.ref a], []⟩ [.ref a] [.ref a] _ _ hr e0 (hbind s₁ (.ref a)) (.cons rfl .nil) (hsp H hH hS)) fun r s' h => ?_
    cases r with
    | error e => exact (hCX H e s' h).elim
    | ok fl =>
      cases fl with
      | next => exact False.elim h
      | brk => exact False.elim h
      | cont => exact False.elim h
      | ret u =>
        obtain ⟨v, H', os, bare, un, hok', r', q⟩ := h
        have q' : v = .bl true := q
        subst q'
        obtain rfl : u = Value.bool true := r'
        have key : ∀ b o, b ∉ cs.map (·.2) → s₁.heap.get? b = some o → s'.heap.get? b = some o := fun b o nb e => by
          cases q : H b with
          | none => exact un.keep b o e q (by intro z; exact absurd (show b ∈ ([] : List Addr) from z) (by simp)) (by simp)
          | some u =>
            rcases hO b with z | z | ⟨ob, xs, z⟩
            · rw [q] at z; cases z
            · exact absurd z nb
            · have z2 := un.frzs b ob _ z
              obtain ⟨e1, _⟩ := hok b _ z
              obtain ⟨e2, _⟩ := hok' b _ z2
              rw [e] at e1; cases e1
              exact e2
        have grown : ∀ p ∈ cs, ∃ more : Array Value, s'.heap.get? p.2 = some { cls := .none, data := .fields more } := fun p hp => by
          obtain ⟨more, z⟩ := un.tbls p.2 #[] (hH p hp)
          exact ⟨_, hok' p.2 _ z⟩
        refine ⟨rfl, ⟨fun b o e => ?_, fun b o e => ?_⟩, os, bare⟩
        · by_cases hb : b ∈ cs.map (·.2)
          · obtain ⟨p, hp, ep⟩ := List.mem_map.mp hb
            obtain ⟨more, hm⟩ := grown p hp
            rw [← ep] at e ⊢
            rw [hT p hp] at e
            cases e
            exact .inr (.inl ⟨((C p hp).tab (hT p hp)).isCodeTable, rfl, #[], more, rfl, by rw [Array.empty_append]; exact hm⟩)
          · exact .inl (key b o hb e)
        · by_cases hb : b ∈ cs.map (·.2)
          · obtain ⟨p, hp, ep⟩ := List.mem_map.mp hb
            obtain ⟨more, hm⟩ := grown p hp
            rw [← ep]
            exact ⟨_, hm⟩
          · exact ⟨o, key b o hb e⟩
  cases hk : K.lookup a with
  | some o =>
    have e := KX a o hk
    rw [ha] at e
    cases e
    refine core (fun b => if b ∈ cs.map (·.2) then some (.tbl #[]) else none) (fun p hp => if_pos (memT p hp)) (fun b => ?_) (.inr ⟨vs.toArray, _, hk, by rw [List.size_toArray, lenV]; exact hl, by simpa using rv⟩) (fun b u z => ?_) (fun b z => ?_) fun z => absurd (show (if a ∈ cs.map (·.2) then some (HO.tbl #[]) else none) = none from if_neg aT) z
    · by_cases hb : b ∈ cs.map (·.2)
      · exact .inr (.inl hb)
      · exact .inl (if_neg hb)
    · by_cases hb : b ∈ cs.map (·.2)
      · have z' := (if_pos hb).symm.trans z
        cases z'
        exact isT b hb
      · have z' := (if_neg hb).symm.trans z
        cases z'
    · by_cases hb : b ∈ cs.map (·.2)
      · exact .inr hb
      · exact absurd (if_neg hb) z
  | none =>
    refine core (fun b => if b = a then some (.frz { cls := .type "list", data := .seq vs.toArray } (.lst (ns.map V.int))) else if b ∈ cs.map (·.2) then some (.tbl #[]) else none) (fun p hp => (if_neg (show ¬ p.2 = a from fun z => aT (by rw [← z]; exact memT p hp))).trans (if_pos (memT p hp))) (fun b => ?_)
      (.inl ⟨{ cls := .type "list", data := .seq vs.toArray }, if_pos rfl⟩) (fun b u z => ?_) (fun b z => ?_) fun _ => hk
    · by_cases hb : b = a
      · exact .inr (.inr ⟨_, _, if_pos hb⟩)
      · by_cases hb2 : b ∈ cs.map (·.2)
        · exact .inr (.inl hb2)
        · exact .inl ((if_neg hb).trans (if_neg hb2))
    · by_cases hb : b = a
      · have z' := (if_pos hb).symm.trans z
        cases z'
        rw [hb]
        exact ⟨ha, by rw [List.length_map]; exact hl, vs, _, rv, ha⟩
      · have z1 := (if_neg hb).symm.trans z
        by_cases hb2 : b ∈ cs.map (·.2)
        · have z' := (if_pos hb2).symm.trans z1
          cases z'
          exact isT b hb2
        · have z' := (if_neg hb2).symm.trans z1
          cases z'
    · by_cases hb : b = a
      · exact .inl hb
      · by_cases hb2 : b ∈ cs.map (·.2)
        · exact .inr hb2
        · exact absurd ((if_neg hb).trans (if_neg hb2)) z
/-- what is known of the law's promise at the head's heap h -/
def LawAtM (l : PySem.W.OpenLaw) (w : World) (K : PySem.W.Frag) (CX : CXT) (k n : Nat) (x : Str) (mg : Str → Option Value) (fa : Addr) (h : Heap) : Prop :=
  ∃ (fd : FuncData) (cs : List (Addr × Addr)) (sp : Sp), (∀ p ∈ cs, h.get? p.2 = some { cls := .none, data := .fields #[] }) ∧ (∀ p ∈ cs, K.lookup p.2 = none) ∧ (∀ p ∈ cs, PySem.W.CodeHd h p.1 p.2) ∧ (∀ (s : Shared) (u : Value), BindsTo s fd ⟨[u], []⟩ [(x, u)]) ∧
    (∀ (H : Hp) (a : Addr) (ns : List Int), ns.length ≤ n → (∀ z ∈ ns, Builtin.Int.intBits z ≤ 1048576) → (∀ p ∈ cs, H p.2 = some (.tbl #[])) → LsM K H a (ns.map V.int) → sp [.ref a] H (fun v _ => v = .bl true) fun _ _ _ => False) ∧
    ∀ base : Heap, K.In base → base.Ns mainGlobals mg → (∀ p ∈ cs, TabB base mg p.1 p.2) → FnOk l.prog w K mg base CX k fa fd [x] sp
theorem walk_ofM {l : PySem.W.OpenLaw} {n k : Nat} {q : Program} {loose : List Str} {XP : (Str → Option Value) → Heap → Prop} {YP : World → Heap → Prop} {d : DefRec} {CX : World → CXT} {x : Str}
    (hn : l.most = some n) (hn2 : n ≤ sizeLine) (hdf : d.params.defaults = []) (hr : Room k callerA)
    (F : ∀ (w : World) (mg : Str → Option Value) (fa : Addr) (h : Heap), YP w h → h.Ns mainGlobals mg → mg d.name = some (.ref fa) → ∃ K : PySem.W.Frag, K.In h ∧ LawAtM l w K (CX w) k n x mg fa h)
    (hCX : ∀ (w : World) (H : Hp) (s : Shared) (e : Value) (s' : Shared), CX w [] H s (fun _ _ _ => False) e s' → False) :
    PySem.W.WalkO q loose XP YP l.row.toRowW d [] (fun f vs => PySem.call f vs) := by
  refine Att.attach_callB hn hdf fun w s₀ s₁ mg mb fa o pm cd doc a vs ns G Y ho hd hcd hmg hobj hints hlen hbits hg => ?_
  obtain ⟨K, KX, fd, cs, sp, hT, nT, C, hb, hsp, hF⟩ := F w mg fa _ Y G.T.g hmg
  exact law_callM KX G.T.g G.T.b G.T.builtins G.T.nolimit hg hT nT C G.T.bmain hobj hints (Nat.le_trans hlen hn2) hr hF hb (fun H hH hS => hsp H a ns hlen hbits hH hS) fun H e s' => hCX w H s₁ e s'

/-! ### exceptions' classes, looked at -/
open He
/-- the address of the class's own __init__ -/
def iAd (K : PySem.W.Frag) (x : Str) : Addr := ma K (ga K x) "__init__"
def excB (K : PySem.W.Frag) (C : Addr) : Bool := match K.lookup C with
  | some ⟨.type "type", _, .cls cd, sl⟩ => (match cd.mro, sl.toList with
    | .ref C' :: bm, [_, _, _, _, some (.builtin n), _] => C' == C && n == "Exception.__new__" && !cd.hasDel && cd.hasDict && MX.refsE bm && decide (PySem.W.alongIn K "__init__" bm = some (some (.builtin "Exception.__init__")))
    | _, _ => false)
  | _ => false
theorem excB_ok {K : PySem.W.Frag} {C : Addr} (q : excB K C = true) : ∃ nm q N bs bm sn sub ab col dd k0 k1 k2 k3 k5, K.lookup C = some (excClassObj nm q C N bs bm true sn sub ab col dd k0 k1 k2 k3 k5 "Exception.__new__") ∧ MX.refsE bm = true ∧ PySem.W.alongIn K "__init__" bm = some (some (.builtin "Exception.__init__")) := by
  unfold excB at q
  split at q
  · rename_i dd cd sl ho
    split at q
    · rename_i C' bm k0 k1 k2 k3 n k5 hm hs
      simp only [Bool.and_eq_true, beq_iff_eq, Bool.not_eq_true', decide_eq_true_eq] at q
      obtain ⟨⟨⟨⟨⟨rfl, rfl⟩, hdel⟩, hdct⟩, ht⟩, hal⟩ := q
      obtain ⟨nm, bs, mro, ns, qn, hd, sn, sub, ab, col, del⟩ := cd
      dsimp only at hm hdel hdct
      subst hm hdel hdct
      have hsl : sl = #[k0, k1, k2, k3, some (.builtin "Exception.__new__"), k5] := by
        obtain ⟨l⟩ := sl
        simp only at hs
        rw [hs]
      subst hsl
      exact ⟨nm, qn, ns, bs, bm, sn, sub, ab, col, dd, k0, k1, k2, k3, k5, ho, ht, hal⟩
    · cases q
  · cases q
/-- an __init__ of the text -/
structure IniD where
  x : Str
  qual : Str
  params : Arguments
  body : List Stmt
  scope : Scope
abbrev FnI : Type := Option (Str × Arguments × FuncBody × Scope × Addr × List Str × Addr)
def fnI (K : PySem.W.Frag) (x : Str) : FnI := match K.lookup (iAd K x) with
  | some ⟨_, _, .func fd, _⟩ => some (fd.qualname, fd.params, fd.body, fd.scope, fd.globals, fd.closure.map (·.1), fd.builtins)
  | _ => none
def IniD.val (d : IniD) : FnI := some (d.qual, d.params, .stmts d.body, d.scope, mainGlobals, ["__class__"], builtinsNs)
def cellB (K : PySem.W.Frag) (cc C : Addr) : Bool := match K.lookup cc with
  | some ⟨_, _, .cell (some (.ref D)), _⟩ => D == C
  | _ => false
def fileB (K : PySem.W.Frag) (file0 : Str) (cd : Value) : Bool := match cd with
  | .ref c => (match K.lookup c with
    | some ⟨_, _, .fields vs, _⟩ => (match (vs[2]? : Option Value) with
      | some (.str f _) => file0 == f
      | _ => false)
    | _ => false)
  | _ => false
def iniB (file0 : Str) (K : PySem.W.Frag) (d : IniD) : Bool := excB K (ga K d.x) && (decide (PySem.W.findIn K (.ref (ga K d.x)) "__setattr__" = some (some (.builtin "object.__setattr__"))) && (decide (PySem.W.subIn K (.ref (ga K d.x)) (.type "BaseException") = some true) &&
  (decide (PySem.W.subIn K (.ref (ga K d.x)) (.type "Exception") = some true) && (decide (PySem.W.mroIn K (ga K d.x) (.ref (ga K d.x)) = some true) && (decide (PySem.W.typeIn K (.ref (ga K d.x)) = some (.type "type")) && (PySem.W.keepIn K (.ref (ga K d.x)) &&
  (decide (PySem.W.findIn K (.ref (ga K d.x)) "__init__" = some (some (.ref (iAd K d.x)))) && (decide (PySem.W.typeIn K (.ref (iAd K d.x)) = some (.type "function")) && (decide (PySem.W.nsIn K cStatics "thirdparty.any" = some none) && (xfB K (ga K d.x) &&
  (match K.lookup (iAd K d.x) with
    | some ⟨_, _, .func fd, _⟩ => PySem.W.codeIn K fd.code d.qual && fileB K file0 fd.code && (match fd.closure with
      | [(_, cc)] => cellB K cc (ga K d.x)
      | _ => false) && (match fd.defaults with
      | .none => true
      | _ => false)
    | _ => false)))))))))))
theorem iniB_ok {P : Program} {K : PySem.W.Frag} {d : IniD} (h : iniB P.main.file K d = true) (e : fnI K d.x = d.val) (ht : (P.main.scope.names.lookup ("super" : Str)).isSome = false) : MX.XiC P K (ga K d.x) (iAd K d.x) d.qual d.params d.body d.scope ∧ XfC K (ga K d.x) := by
  unfold iniB at h
  simp only [Bool.and_eq_true, decide_eq_true_eq] at h
  obtain ⟨h1, h2, h3, h4, h5, h6, h7, h8, h9, h10, h11, h12⟩ := h
  refine ⟨⟨excB_ok h1, h2, h3, h4, h5, h6, h7, h8, h9, ?_, h10, ht⟩, xfB_ok h11⟩
  unfold fnI at e
  cases q : K.lookup (iAd K d.x) with
  | none => rw [q] at h12; cases h12
  | some o =>
    obtain ⟨oc, od, dt, osl⟩ := o
    rw [q] at h12 e
    cases dt with
    | func fd =>
      obtain ⟨n1, n2, n3, n4, n5, n6, n7, n8, n9, n10, n11, n12, n13, n14, n15⟩ := fd
      have e2 : (some (n2, n3, n4, n5, n6, n7.map (·.1), n15) : FnI) = some (d.qual, d.params, FuncBody.stmts d.body, d.scope, mainGlobals, [("__class__" : Str)], builtinsNs) := e
      simp only [Option.some.injEq, Prod.mk.injEq] at e2
      obtain ⟨g1, g2, g3, g4, g5, g6, g7⟩ := e2
      subst g1 g2 g3 g4 g5 g7
      simp only [Bool.and_eq_true] at h12
      obtain ⟨⟨⟨k1, k2⟩, k3⟩, k4⟩ := h12
      have k4 : n8 = .none := by
        split at k4
        · rfl
        · cases k4
      subst k4
      split at k3
      · rename_i c0 cc
        have : c0 = "__class__" := by
          have := g6
          simpa using this
        subst this
        unfold fileB at k2
        split at k2
        · rename_i cda
          split at k2
          · rename_i ccl cdd vs ccs lc
            split at k2
            · rename_i file tf hvs
              unfold cellB at k3
              split at k3
              · rename_i cl cld D csl lcc
                have : D = ga K d.x := beq_iff_eq.mp k3
                subst this
                exact ⟨n1, n9, n10, n11, n12, cda, n14, cc, oc, od, osl, ccl, cdd, vs, ccs, file, tf, cl, cld, csl, rfl, k1, lc, hvs, k2, lcc⟩
              · cases k3
            · cases k2
          · cases k2
        · cases k2
      · cases k3
    | _ => cases h12

/-! ### the Hook -/
def asM (g : Addr → Option Obj) : Nat → List Addr
  | 0 => [mainGlobals, cStatics]
  | n + 1 => growD g (asM g n)
structure SaysM (fa : List Fa) (fn : List DefD) (ini : List IniD) (tf : List Defn) (ex : PySem.W.Frag → Bool) (h : Heap) (K : PySem.W.Frag) : Prop where
  d : SaysD fa fn K
  i : ini.map (fun d => fnI K d.x) = ini.map IniD.val
  more : ex K = true
  hd : ∀ p ∈ tf, PySem.W.codeHdIn K (cT K p).1 (cT K p).2 = true
  out : ∀ p ∈ tf, K.lookup (cT K p).2 = none
  empty : ∀ p ∈ tf, h.get? (cT K p).2 = some { cls := .none, data := .fields #[] }
abbrev AlM : Type := AlD × List FnI × Bool
def obsM (n : Nat) (fa : List Fa) (fn : List DefD) (ini : List IniD) (tf : List Defn) (ex : PySem.W.Frag → Bool) (g : Addr → Option Obj) : AlM := (obsD fa fn (frT g (asM g n)), ini.map (fun d => fnI (frT g (asM g n)) d.x), ex (frT g (asM g n)) && tabsB g tf (frT g (asM g n)))
def valM (fn : List DefD) (ini : List IniD) : AlM := (valD fn, ini.map IniD.val, true)
theorem saysM_of {n : Nat} {fa : List Fa} {fn : List DefD} {ini : List IniD} {tf : List Defn} {ex : PySem.W.Frag → Bool} {h : Heap} (e : obsM n fa fn ini tf ex h.get? = valM fn ini) : SaysM fa fn ini tf ex h (frT h.get? (asM h.get? n)) := by
  have e1 : obsD fa fn (frT h.get? (asM h.get? n)) = valD fn := congrArg (fun z : AlM => z.1) e
  have e3 : ini.map (fun d => fnI (frT h.get? (asM h.get? n)) d.x) = ini.map IniD.val := congrArg (fun z : AlM => z.2.1) e
  have e2 : (ex (frT h.get? (asM h.get? n)) && tabsB h.get? tf (frT h.get? (asM h.get? n))) = true := congrArg (fun z : AlM => z.2.2) e
  obtain ⟨h1, h2⟩ := ba e2
  have key : ∀ p ∈ tf, PySem.W.codeHdIn (frT h.get? (asM h.get? n)) (cT (frT h.get? (asM h.get? n)) p).1 (cT (frT h.get? (asM h.get? n)) p).2 = true ∧ ∃ o, h.get? (cT (frT h.get? (asM h.get? n)) p).2 = some o ∧ emptyTab o = true := fun p hp => by
    obtain ⟨h3, h4⟩ := ba (List.all_eq_true.mp h2 p hp)
    refine ⟨h3, ?_⟩
    cases q : h.get? (cT (frT h.get? (asM h.get? n)) p).2 with
    | none => rw [q] at h4; cases h4
    | some o => rw [q] at h4; exact ⟨o, rfl, h4⟩
  exact ⟨e1, e3, h1, fun p hp => (key p hp).1, fun p hp => by
    obtain ⟨_, o, q, z⟩ := key p hp
    exact frT_none q z, fun p hp => by
    obtain ⟨_, o, q, z⟩ := key p hp
    rw [q, emptyTab_eq z]⟩
def hookM (n : Nat) (fa : List Fa) (fn : List DefD) (ini : List IniD) (tf : List Defn) (ex : PySem.W.Frag → Bool) : PySem.W.Hook where
  α := AlM
  obs := fun s => obsM n fa fn ini tf ex s.heap.get?
  val := fun _ => valM fn ini
  says := fun _ h => ∃ K : PySem.W.Frag, K.In h ∧ SaysM fa fn ini tf ex h K
  of := fun _ _ e => ⟨_, frT_in, saysM_of e⟩
  keeps := fun _ _ _ ⟨K, hK, c⟩ k => ⟨K, PySem.W.Frag.In.keeps hK k, ⟨c.d, c.i, c.more, c.hd, c.out, fun p hp => k _ _ (c.empty p hp)⟩⟩
theorem obsM_eq {n : Nat} {fa : List Fa} {fn : List DefD} {ini : List IniD} {tf : List Defn} {ex : PySem.W.Frag → Bool} {g : Addr → Option Obj} {s : Shared} (h : ∀ a, g a = s.heap.get? a) : obsM n fa fn ini tf ex g = (hookM n fa fn ini tf ex).obs s := by
  have e : g = s.heap.get? := funext h
  rw [e] <;> rfl
section
variable {fa : List Fa} {fn : List DefD} {ini : List IniD} {tf : List Defn} {ex : PySem.W.Frag → Bool} {h : Heap} {K : PySem.W.Frag}
theorem SaysM.init (c : SaysM fa fn ini tf ex h K) (i : Nat) {d : IniD} (e : ini[i]? = some d) : fnI K d.x = d.val := by
  have e2 : (ini.map (fun d => fnI K d.x))[i]? = (ini.map IniD.val)[i]? := by rw [c.i]
  rw [List.getElem?_map, List.getElem?_map, e] at e2
  exact Option.some.inj e2
end

/-! ### a def by its mirror, told of by its function object -/
section
variable {Γ : G} {P : Program} {w : World} {K : PySem.W.Frag} {mg : Str → Option Value} {base : Heap} {x qual : Str} {params : Arguments} {body : List Stmt} {scope : Scope} {dvs : List V} {kws : List (Str × V)} {f : Addr} {fd : FuncData} {N ps : List Str} {b : MS} {k : Nat}
theorem fn_mirD (F : FunD K x qual params body scope dvs kws f fd) (S : FnScope N ps scope)
    (hbody : ∀ (cdv : Value) (A : Around) (outer : List Env) (s : Shared) (H : Hp) (E : XK), (∃ oc od osl, K.lookup f = some ⟨oc, od, .func fd, osl⟩) → fd.code = cdv → Room k (A.deeper (envOfC qual scope s.heap.objs.size f cdv)) → FSs (cxOf (CX P w) P w K mg base N qual scope f cdv A outer s H E) Γ (wE E) body b) :
    FnOk P w K mg base (CX P w) (k + 1) f fd ps (spF Γ ps.length (runF N.length b)) := by
  obtain ⟨oc, od, dV, kV, doc, pm, an, cdv, ct, osl, rfl, lk, hcd, _, _⟩ := F.ex
  exact fn_mir lk hcd S fun A outer s H E hr => hbody cdv A outer s H E ⟨oc, od, osl, lk⟩ rfl hr
end
end MP
end
section
set_option Elab.async false
set_option linter.all false
set_option maxRecDepth 100000
set_option maxHeartbeats 2000000
/-! M21: short forms for the printed proofs. -/
namespace MP
open PySem PySem.Spec PyProof.Rows L2 LamX
section
variable {P : Program} {w : World} {K : PySem.W.Frag} {mg : Str → Option Value} {base : Heap} {N : List Str} {qual : Str} {scope : Scope} {f : Addr} {cd : Value} {A : Around} {outer : List Env} {s : Shared} {H : Hp} {E : XK}
theorem takes_cx : Takes (cxOf (CX P w) P w K mg base N qual scope f cd A outer s H E) (wE E) := takes_of (X := cxOf (CX P w) P w K mg base N qual scope f cd A outer s H E) rfl rfl rfl (E₁ := fun e' s'' => CX P w outer H s E e' s'') rfl
theorem passes_cx : PassesOwn (model (cxOf (CX P w) P w K mg base N qual scope f cd A outer s H E).prog (cxOf (CX P w) P w K mg base N qual scope f cd A outer s H E).w) (cxOf (CX P w) P w K mg base N qual scope f cd A outer s H E).A (cxOf (CX P w) P w K mg base N qual scope f cd A outer s H E).env (cxOf (CX P w) P w K mg base N qual scope f cd A outer s H E).xe :=
  passes_of (X := cxOf (CX P w) P w K mg base N qual scope f cd A outer s H E) (K := fun e s'' => CX P w outer H s E e s'') (E₁ := fun e' s'' => CX P w outer H s E e' s'') rfl
theorem cells_cx : CellsNew (cxOf (CX P w) P w K mg base N qual scope f cd A outer s H E) := cellsNew (fun _ => rfl) rfl
variable {I : LamI} {ps : List Str} {c' : Addr} {clos : List (Str × Addr)}
theorem takes_lam : Takes (lamXof P w K mg base A outer s H E I ps f c' clos) (wE E) := takes_of (X := lamXof P w K mg base A outer s H E I ps f c' clos) rfl rfl rfl (E₁ := fun e' s'' => CX P w outer H s E e' s'') rfl
end
/-- a def that is never called -/
theorem fn_stuck {Γ : G} {P : Program} {w : World} {K : PySem.W.Frag} {mg : Str → Option Value} {base : Heap} {k : Nat} {f : Addr} {fd : FuncData} {ps : List Str} : FnOk P w K mg base (CX P w) k f fd ps (spF Γ ps.length fun _ _ => .stuck) :=
  ⟨fun _ _ _ _ h => h.1, fun _ _ _ _ _ _ _ _ _ _ _ _ _ h => by
    obtain ⟨_, _, _, _, _, _, q⟩ := h
    exact False.elim q⟩
/-- keyword calls without positional values: all parameters named, in order -/
def kbAll {Γ : G} {K : PySem.W.Frag} {fd : FuncData} {ps : List Str} (h : ∀ (s : Shared) (ws : List Value), ws.length = ps.length → BindsTo s fd ⟨[], ps.zip ws⟩ (ps.zip ws)) : KB Γ K fd ps 0 ps ((List.range ps.length).map .kw) where
  g := fun _ ws => ws
  gV := fun _ zs => zs
  to := fun s us ws _ h0 h1 => by
    have : us = [] := List.eq_nil_of_length_eq_zero h0
    subst this
    exact h s ws h1
  rel := fun _ r _ _ => r
  den := fun {μ H vs zs ds es} _ k _ hl => by
    have e : ((List.range ps.length).map Src.kw).map (Src.pick ds es) = es := by
      have hl2 : es.length = ps.length := k.length.symm.trans hl
      apply List.ext_getElem?
      intro i
      rw [List.map_map, List.getElem?_map]
      by_cases hi : i < ps.length
      · rw [List.getElem?_range hi]
        show some (es.getD i .non) = es[i]?
        rw [List.getElem?_eq_getElem (by omega)]
        simp [List.getD, List.getElem?_eq_getElem (show i < es.length by omega)]
      · rw [List.getElem?_eq_none (by simpa using hi), List.getElem?_eq_none (by omega)]
        rfl
    rw [e]; exact k
/-- an exception of one field -/
theorem mk1 {X : Cx} {x : Str} {C fI : Addr} {qual f1 : Str} {p0 p1 p2 p3 p4 q0 q1 q2 q3 q4 : Pos} {params : Arguments} {ar : PySem.Arg} {scope : Scope} {k : Nat} {e : Expr} {es : List Expr} {p pos : Pos}
    (T : MX.XiC X.prog X.K C fI qual params (MX.body1 f1 p0 p1 p2 p3 p4 q0 q1 q2 q3 q4) scope) (S : MX.XiS ["self", f1] scope) (hf1 : f1 ≠ "self") (hd1 : (f1 == ("__debug__" : Str)) = false) (hno : PySem.W.findIn X.K (.ref C) f1 = some none) (hms : X.mg "super" = none) (hp : (params.posonlyargs ++ params.args).head? = some ar) (har : ar.arg = ("self" : Str))
    (hl : (p2.endLine == p3.line) = true) (hb : ∀ name kV doc pm an cdv ct cc (a v : Value), bindArgs (PySem.W.ksFn name qual params (MX.body1 f1 p0 p1 p2 p3 p4 q0 q1 q2 q3 q4) scope .none kV doc pm an cdv ct cc) ⟨[a, v], []⟩ = pure [(("self" : Str), a), (f1, v)])
    (hr : Room (k + 1) X.A) (hg : Gl X x) (hm : X.mg x = some (.ref C)) (hdb : (x == ("__debug__" : Str)) = false := by decide) (he : starEach (e :: es) X.env = (false, eval e X.env) :: starEach es X.env := by rfl) (hpl : (backTo pos (starEach es X.env)).any (·.1) = false := by rfl) : MakesX X x C [f1] e es p pos := fun ta ha => by
  have F : MX.InitRun X.prog X.w X.K X.mg C fI 1 (fun us y => if y = f1 then us[0]? else none) := fun A s a t0 us base R hM bk hba hroom hul ha h => by
    match us, hul with
    | [v], _ => exact MX.init1 T S hf1 hd1 hno hM bk hba hms hp har hroom (MX.supCall hl rfl fun _ => rfl) (fun name kV doc pm an cdv ct cc => .of_eq (hb name kV doc pm an cdv ct cc (.ref a) v)) ha h
  have := MX.pmk_xi (p := p) (fs := fun vs => [f1].zip vs) T F (fun vs us r hv y => by
    match vs, us, r, hv with
    | [v], [u], .cons ru .nil, _ =>
      show RelO (List.lookup y [(f1, v)]) (if y = f1 then some u else none)
      rw [List.lookup_cons]
      by_cases z : y = f1
      · subst z; simp [RelO]; exact ru
      · have : (y == f1) = false := by simpa using z
        rw [this, if_neg z]; exact True.intro) (by decide) hr hg hm ha hdb he hpl
  exact this
/-- an exception of two fields -/
theorem mk2 {X : Cx} {x : Str} {C fI : Addr} {qual f1 f2 : Str} {p0 p1 p2 p3 p4 q0 q1 q2 q3 q4 r0 r1 r2 r3 r4 : Pos} {params : Arguments} {ar : PySem.Arg} {scope : Scope} {k : Nat} {e : Expr} {es : List Expr} {p pos : Pos}
    (T : MX.XiC X.prog X.K C fI qual params (MX.body2 f1 f2 p0 p1 p2 p3 p4 q0 q1 q2 q3 q4 r0 r1 r2 r3 r4) scope) (S : MX.XiS ["self", f1, f2] scope) (hf1 : f1 ≠ "self") (hf2 : f2 ≠ "self") (hf12 : f1 ≠ f2) (hd1 : (f1 == ("__debug__" : Str)) = false) (hd2 : (f2 == ("__debug__" : Str)) = false) (hno : PySem.W.findIn X.K (.ref C) f1 = some none) (hno2 : PySem.W.findIn X.K (.ref C) f2 = some none)
    (hms : X.mg "super" = none) (hp : (params.posonlyargs ++ params.args).head? = some ar) (har : ar.arg = ("self" : Str))
    (hl : (p2.endLine == p3.line) = true) (hb : ∀ name kV doc pm an cdv ct cc (a v u : Value), bindArgs (PySem.W.ksFn name qual params (MX.body2 f1 f2 p0 p1 p2 p3 p4 q0 q1 q2 q3 q4 r0 r1 r2 r3 r4) scope .none kV doc pm an cdv ct cc) ⟨[a, v, u], []⟩ = pure [(("self" : Str), a), (f1, v), (f2, u)])
    (hr : Room (k + 1) X.A) (hg : Gl X x) (hm : X.mg x = some (.ref C)) (hdb : (x == ("__debug__" : Str)) = false := by decide) (he : starEach (e :: es) X.env = (false, eval e X.env) :: starEach es X.env := by rfl) (hpl : (backTo pos (starEach es X.env)).any (·.1) = false := by rfl) : MakesX X x C [f1, f2] e es p pos := fun ta ha => by
  have F : MX.InitRun X.prog X.w X.K X.mg C fI 2 (fun us y => if y = f2 then us[1]? else if y = f1 then us[0]? else none) := fun A s a t0 us base R hM bk hba hroom hul ha h => by
    match us, hul with
    | [v, u], _ => exact MX.init2 T S hf1 hf2 hf12 hd1 hd2 hno hno2 hM bk hba hms hp har hroom (MX.supCall hl rfl fun _ => rfl) (fun name kV doc pm an cdv ct cc => .of_eq (hb name kV doc pm an cdv ct cc (.ref a) v u)) ha h
  have := MX.pmk_xi (p := p) (fs := fun vs => [f1, f2].zip vs) T F (fun vs us r hv y => by
    match vs, us, r, hv with
    | [v, v2], [u, u2], .cons ru (.cons ru2 .nil), _ =>
      show RelO (List.lookup y [(f1, v), (f2, v2)]) (if y = f2 then some u2 else if y = f1 then some u else none)
      rw [List.lookup_cons]
      by_cases z : y = f1
      · subst z
        rw [if_neg hf12, if_pos rfl]
        simp [RelO]; exact ru
      · have e1 : (y == f1) = false := by simpa using z
        rw [e1, if_neg z]
        show RelO (List.lookup y [(f2, v2)]) _
        rw [List.lookup_cons]
        by_cases z2 : y = f2
        · subst z2; simp [RelO]; exact ru2
        · have : (y == f2) = false := by simpa using z2
          rw [this, if_neg z2]; exact True.intro) (by decide) hr hg hm ha hdb he hpl
  exact this
end MP
end
section
set_option Elab.async false
set_option linter.all false
set_option maxRecDepth 100000
set_option maxHeartbeats 2000000
/-! M22: the ground Γ of a law; lambdas by their places. -/
namespace MP
open PySem PySem.Spec PyProof.Rows L2 LamX He

/-! ### places in the text -/
def kidE : Stmt → List Expr
  | .Return (some v) _ => [v]
  | .Assign ts v _ => v :: ts
  | .AugAssign t _ v _ => [v, t]
  | .For t i _ _ _ => [i, t]
  | .While t _ _ _ => [t]
  | .If t _ _ _ => [t]
  | .Expr v _ => [v]
  | .Raise (some e) _ _ => [e]
  | _ => []
def kidS : Stmt → List Stmt
  | .For _ _ b o _ => b ++ o
  | .While _ b o _ => b ++ o
  | .If _ b o _ => b ++ o
  | .Try b _ _ _ _ => b
  | _ => []
def kidX : Expr → List Expr
  | .BoolOp _ vs _ => vs
  | .BinOp l _ r _ => [l, r]
  | .UnaryOp _ o _ => [o]
  | .IfExp a b c _ => [a, b, c]
  | .ListComp e [g] _ _ => e :: g.iter :: g.ifs
  | .Compare l _ cs _ => l :: cs
  | .Call f as ks _ => f :: (as ++ ks.map (·.value))
  | .Attribute v _ _ => [v]
  | .Subscript v s _ => [v, s]
  | .List es _ => es
  | .Tuple es _ _ => es
  | .Lambda _ b _ _ => [b]
  | _ => []
def sAt (l : List Stmt) (i : Nat) : Stmt := l.getD i (.Pass ⟨0, 0, 0, 0⟩)
def eAt (l : List Expr) (i : Nat) : Expr := l.getD i (.Constant .none 0 ⟨0, 0, 0, 0⟩)
def lamOf (q : Str) (e : Expr) : LamI := match e with
  | .Lambda a b s _ => ⟨q, a, b, s, (cloFrom [] s.names []).map (·.1)⟩
  | e => ⟨q, ⟨[], [], none, [], [], none, []⟩, e, ⟨.function, [], false, false, []⟩, []⟩

/-! ### Γ -/
def lq (f : Str) : Str := (f ++ ".<locals>.") ++ "<lambda>"
def Gm (lam : Nat → Option LamI) (tf : List Str) (K : PySem.W.Frag) (mg : Str → Option Value) : G where
  K := K
  mg := mg
  lam := lam
  T := tf.map fun f => ((cT K (f, none)).2, lq f)
  J := fun _ _ => True
  Jm := fun _ _ => True.intro
  Jd := fun _ _ => True.intro
theorem nodup_inj {α β : Type} {g : α → β} : ∀ {l : List α}, (l.map g).Nodup → ∀ {a b : α}, a ∈ l → b ∈ l → g a = g b → a = b
  | x :: l, nd, a, b, ha, hb, e => by
    rw [List.map_cons] at nd
    obtain ⟨n1, n2⟩ := List.nodup_cons.mp nd
    rcases List.mem_cons.mp ha with za | za
    · rcases List.mem_cons.mp hb with zb | zb
      · rw [za, zb]
      · exact absurd (by rw [← za, e]; exact List.mem_map_of_mem (f := g) zb) n1
    · rcases List.mem_cons.mp hb with zb | zb
      · exact absurd (by rw [← zb, ← e]; exact List.mem_map_of_mem (f := g) za) n1
      · exact nodup_inj n2 za zb e
section
variable {lam : Nat → Option LamI} {tf : List Str} {P : Program} {w : World} {K : PySem.W.Frag} {mg : Str → Option Value} {base : Heap} {x : Str} {params : Arguments} {body : List Stmt} {scope : Scope} {dvs : List V} {kws : List (Str × V)} {fd : FuncData} {N ps : List Str} {b : MS} {k : Nat} {cdv : Value} {A : Around} {outer : List Env} {s : Shared} {H : Hp} {E : XK}
theorem lamT_cx (F : FunD K x x params body scope dvs kws (ga K x) fd) (hcd : fd.code = cdv) (TB : ∀ p ∈ tf, TabB base mg (cT K (p, none)).1 (cT K (p, none)).2) (nd : (tf.map fun f => (cT K (f, none)).2).Nodup) (hx : x ∈ tf) :
    LamT (cxOf (CX P w) P w K mg base N x scope (ga K x) cdv A outer s H E) (Gm lam tf K mg) := by
  obtain ⟨oc, od, dV, kV, doc, pm, an, cd, ct, osl, e, lk, hci, _, _⟩ := F.ex
  obtain ⟨c, rfl⟩ := codeIn_ref hci
  have ec : fd.code = .ref c := by rw [e]
  have e1 : codeOf K (x, none) = c := codeOf_eq (p := (x, none)) lk ec
  refine ⟨⟨(cT K (x, none)).1, (cT K (x, none)).2, TB x hx, ?_, List.mem_map.mpr ⟨x, hx, rfl⟩, fun p hp ep => ?_⟩⟩
  · show cdv = .ref (codeOf K (x, none))
    rw [← hcd, ec, e1]
  · obtain ⟨y, hy, rfl⟩ := List.mem_map.mp hp
    have := nodup_inj (g := fun f => (cT K (f, none)).2) nd hy hx ep
    subst this
    rfl
end
/-! ### += -/
def oAddI : D → D → List MO → Res D
  | .int i, .int j, h => .ok (.int (i + j)) h
  | .str a, .str b, h => if a.length + b.length ≤ LINE then .ok (.str (a ++ b)) h else .stuck
  | _, _, _ => .stuck
theorem op_augI {X : Cx} {K : PySem.W.Frag} : OpR X (inplaceOp .Add) (rAugI K) := iop_add.or iop_add_str
theorem o_addI {Γ : G} {K : PySem.W.Frag} : Op2 Γ (rAugI K) oAddI := by
  intro W σ H μ h x y a b Q r da db q
  unfold oAddI at q
  split at q
  · cases da; cases db
    exact .inl ⟨_, _, rfl, rfl, good_pure q r rfl⟩
  · split at q
    · rename_i hl
      cases (show x = _ from da); cases (show y = _ from db)
      exact .inr ⟨_, _, rfl, rfl, by rw [S_len, S_len, line_eq]; exact hl, by rw [S_app]; exact good_pure q r rfl⟩
    · exact False.elim q
  · exact False.elim q
end MP
end
section
set_option Elab.async false
set_option linter.all false
set_option maxRecDepth 100000
set_option maxHeartbeats 2000000
/-! M23: the module's constants; classes' texts. -/
namespace MP
open PySem PySem.Spec PyProof.Rows L2 LamX He

def CstOk (K : PySem.W.Frag) (mg : Str → Option Value) (x : Str) (d : D) : Prop := ∃ u v, mg x = some u ∧ RelV v u ∧ ∀ (Γ : G), Γ.K = K → Γ.mg = mg → ∀ H μ, Den Γ μ H v d
mutual
def denB (K : PySem.W.Frag) : D → Value → Bool
  | .non, .none => true
  | .bl b, .bool c => b == c
  | .int i, .int j _ => decide (i = j)
  | .str l, .str x _ => decide (x = S l)
  | .tup ds, .ref a => (match K.lookup a with
    | some ⟨.type c, _, .seq its _, _⟩ => decide (c = "tuple") && (decide (its.size ≤ sizeLine) && densB K ds its.toList)
    | _ => false)
  | .lst ds, .ref a => (match K.lookup a with
    | some ⟨.type c, none, .seq its _, sl⟩ => decide (c = "list") && (sl.isEmpty && (decide (its.size ≤ sizeLine) && densB K ds its.toList))
    | _ => false)
  | .glo x, .ref a => decide (PySem.W.nsIn K mainGlobals x = some (some (.ref a))) && PySem.W.keepIn K (.ref a)
  | _, _ => false
def densB (K : PySem.W.Frag) : List D → List Value → Bool
  | [], [] => true
  | d :: ds, u :: us => denB K d u && densB K ds us
  | _, _ => false
end
section
variable {K : PySem.W.Frag} {mg : Str → Option Value} {h : Heap}
mutual
theorem denB_ok (X : K.In h) (G0 : h.Ns mainGlobals mg) : ∀ (d : D) (u : Value), denB K d u = true → ∃ v, RelV v u ∧ ∀ (Γ : G), Γ.K = K → Γ.mg = mg → ∀ H μ, Den Γ μ H v d
  | .non, u, e => by
    cases u <;> first | (exact ⟨.non, rfl, fun _ _ _ _ _ => rfl⟩) | cases e
  | .bl b, u, e => by
    cases u with
    | bool c => 
      have : b = c := eq_of_beq e
      subst this
      exact ⟨.bl b, rfl, fun _ _ _ _ _ => rfl⟩
    | _ => cases e
  | .int i, u, e => by
    cases u with
    | int j t =>
      have : i = j := of_decide_eq_true e
      subst this
      exact ⟨.int i, ⟨t, rfl⟩, fun _ _ _ _ _ => rfl⟩
    | _ => cases e
  | .str l, u, e => by
    cases u with
    | str x t =>
      have : x = S l := of_decide_eq_true e
      subst this
      exact ⟨.str (S l), ⟨t, rfl⟩, fun _ _ _ _ _ => rfl⟩
    | _ => cases e
  | .tup ds, u, e => by
    cases u with
    | ref a =>
      unfold denB at e
      split at e
      · rename_i c od its n sl q
        simp only [Bool.and_eq_true, decide_eq_true_eq] at e
        obtain ⟨rfl, e2, e3⟩ := e
        obtain ⟨vs, rv, hd⟩ := densB_ok X G0 ds its.toList e3
        exact ⟨.ref a, rfl, fun Γ hK hM H μ => ⟨a, vs, rfl, .inr ⟨_, its, n, by rw [hK]; exact q, rfl, rfl, e2, rv⟩, hd Γ hK hM H μ⟩⟩
      · cases e
    | _ => cases e
  | .lst ds, u, e => by
    cases u with
    | ref a =>
      unfold denB at e
      split at e
      · rename_i c its n sl q
        simp only [Bool.and_eq_true, decide_eq_true_eq] at e
        obtain ⟨rfl, e0, e2, e3⟩ := e
        have e0 : sl = #[] := Array.isEmpty_iff.mp e0
        subst e0
        obtain ⟨vs, rv, hd⟩ := densB_ok X G0 ds its.toList e3
        exact ⟨.ref a, rfl, fun Γ hK hM H μ => ⟨a, vs, rfl, .inr ⟨its, n, by rw [hK]; exact q, e2, rv⟩, hd Γ hK hM H μ⟩⟩
      · cases e
    | _ => cases e
  | .glo x, u, e => by
    cases u with
    | ref a =>
      unfold denB at e
      simp only [Bool.and_eq_true, decide_eq_true_eq] at e
      exact ⟨.ref a, rfl, fun Γ hK hM H μ => ⟨a, rfl, by rw [hM]; exact PySem.W.mg_of X G0 e.1, by rw [hK]; exact e.2⟩⟩
    | _ => cases e
  | .ref i, u, e => by cases u <;> cases e
  | .clo n cs, u, e => by cases u <;> cases e
theorem densB_ok (X : K.In h) (G0 : h.Ns mainGlobals mg) : ∀ (ds : List D) (us : List Value), densB K ds us = true → ∃ vs, Vals vs us ∧ ∀ (Γ : G), Γ.K = K → Γ.mg = mg → ∀ H μ, Dens Γ μ H vs ds
  | [], us, e => by
    cases us with
    | nil => exact ⟨[], .nil, fun _ _ _ _ _ => rfl⟩
    | cons _ _ => cases e
  | d :: ds, us, e => by
    cases us with
    | nil => cases e
    | cons u us =>
      unfold densB at e
      rw [Bool.and_eq_true] at e
      obtain ⟨v, r, hd⟩ := denB_ok X G0 d u e.1
      obtain ⟨vs, rs, hds⟩ := densB_ok X G0 ds us e.2
      exact ⟨v :: vs, .cons r rs, fun Γ hK hM H μ => ⟨v, vs, rfl, hd Γ hK hM H μ, hds Γ hK hM H μ⟩⟩
end
def cstB (K : PySem.W.Frag) (p : Str × D) : Bool := match PySem.W.nsIn K mainGlobals p.1 with
  | some (some u) => denB K p.2 u
  | _ => false
theorem cstB_ok (X : K.In h) (G0 : h.Ns mainGlobals mg) {x : Str} {d : D} (e : cstB K (x, d) = true) : CstOk K mg x d := by
  unfold cstB at e
  split at e
  · rename_i u q
    obtain ⟨v, r, hd⟩ := denB_ok X G0 d u e
    exact ⟨u, v, PySem.W.mg_of X G0 q, r, hd⟩
  · cases e
end
theorem fe_cst {X : Cx} {Γ : G} {W : WX} {x : Str} {d : D} {pos : Pos} (hX : CxG X Γ) (hg : Gl X x) (c : CstOk X.K X.mg x d) (hdb : (x == ("__debug__" : Str)) = false := by decide) : FE X Γ W (.Name x pos) (xC d) := by
  obtain ⟨u, v, hm, r, hd⟩ := c
  exact fe_glob hg hm r (fun H μ => hd Γ hX.k.symm hX.m.symm H μ) hdb
/-! ### captured names, read off -/
theorem slots_by {slots : List Nat} {N caps : List Str} (h : slots.map (fun i => N[i]?) = caps.map some) : ∀ (j i : Nat), slots[j]? = some i → N[i]? = caps[j]? := fun j i e => by
  have e2 : (slots.map (fun i => N[i]?))[j]? = (caps.map some)[j]? := by rw [h]
  rw [List.getElem?_map, List.getElem?_map, e] at e2
  cases q : caps[j]? with
  | none => rw [q] at e2; cases e2
  | some c => rw [q] at e2; exact Option.some.inj e2
theorem vis_by {sc : Scope} {caps : List Str} (h : (caps.all fun y => decide (sc.names.lookup y = some .cell) || decide (sc.names.lookup y = some .free)) = true) : ∀ y ∈ caps, sc.names.lookup y = some .cell ∨ sc.names.lookup y = some .free := fun y m => by
  have := List.all_eq_true.mp h y m
  rw [Bool.or_eq_true, decide_eq_true_eq, decide_eq_true_eq] at this
  exact this
theorem free_by {sc : Scope} {names : List (Str × NameKind)} (h : (names.all fun y => !decide (y.2 = .free) || (decide (sc.names.lookup y.1 = some .cell) || decide (sc.names.lookup y.1 = some .free))) = true) : ∀ y ∈ names, y.2 = .free → sc.names.lookup y.1 = some .cell ∨ sc.names.lookup y.1 = some .free := fun y m e => by
  have := List.all_eq_true.mp h y m
  rw [Bool.or_eq_true, Bool.or_eq_true, decide_eq_true_eq, decide_eq_true_eq, Bool.not_eq_true', decide_eq_false_iff_not] at this
  exact this.resolve_left fun n => n e
/-! ### classes -/
def clsBody (s : Stmt) : List Stmt := match s with
  | .ClassDef _ _ _ b _ _ _ _ _ _ _ => b
  | _ => []
end MP
end
section
set_option Elab.async false
set_option linter.all false
set_option maxRecDepth 100000
set_option maxHeartbeats 2000000
/-! M24: a law's end: from its mirror's answer to its promise. -/
namespace MP
open PySem PySem.Spec PyProof.Rows L2 LamX He
theorem dens_ints {Γ : G} {μ : List Addr} {H : Hp} : ∀ ns : List Int, Dens Γ μ H (ns.map V.int) (ns.map D.int)
  | [] => rfl
  | n :: ns => ⟨.int n, ns.map V.int, rfl, rfl, dens_ints ns⟩
section
variable {lam : Nat → Option LamI} {tf : List Str} {K : PySem.W.Frag} {mg : Str → Option Value}
theorem hsp_of {m : MF} {H : Hp} {a : Addr} {ns : List Int} (hT : ∀ p ∈ tf.map (fun f => cT K (f, none)), H p.2 = some (.tbl #[])) (hS : LsM K H a (ns.map V.int)) (pl : ∃ h, m [.lst (ns.map D.int)] [] = .ok (.bl true) h) :
    spF (Gm lam tf K mg) 1 m [.ref a] H (fun v _ => v = .bl true) fun _ _ _ => False := by
  obtain ⟨h, e⟩ := pl
  refine ⟨rfl, [.lst (ns.map D.int)], [], [], ⟨.ref a, [], rfl, ⟨a, ns.map V.int, rfl, ?_, dens_ints ns⟩, rfl⟩, ⟨rfl, List.nodup_nil, fun i a o z _ => by simp at z, ?_, True.intro⟩, ?_⟩
  · rcases hS with ⟨o, z⟩ | z
    · exact .inl ⟨fun z => (nomatch z), o, z⟩
    · exact .inr z
  · intro p hp
    obtain ⟨f, hf, rfl⟩ := List.mem_map.mp hp
    exact TabS.nil (hT _ (List.mem_map.mpr ⟨f, hf, rfl⟩))
  · rw [e]
    intro v H' μ' _ _ d
    exact d
theorem lawAt_of {l : PySem.W.OpenLaw} {w : World} {h : Heap} {fa : Addr} {x : Str} {fd : FuncData} {k n : Nat} {m : MF} {fa0 : List Fa} {fn : List DefD} {ini : List IniD} {ex : PySem.W.Frag → Bool} (X : K.In h) (c : SaysM fa0 fn ini (tf.map fun f => (f, none)) ex h K)
    (hb : ∀ (s : Shared) (u : Value), BindsTo s fd ⟨[u], []⟩ [(x, u)])
    (F : ∀ base : Heap, (∀ p ∈ tf, TabB base mg (cT K (p, none)).1 (cT K (p, none)).2) → FnOk l.prog w K mg base (L2.CX l.prog w) k fa fd [x] (spF (Gm lam tf K mg) 1 m))
    (pl : ∀ ns : List Int, ns.length ≤ n → (∀ z ∈ ns, Builtin.Int.intBits z ≤ 1048576) → ∃ h, m [.lst (ns.map D.int)] [] = .ok (.bl true) h) :
    LawAtM l w K (L2.CX l.prog w) k n x mg fa h := by
  have mem : ∀ {p : Addr × Addr}, p ∈ tf.map (fun f => cT K (f, none)) → ∃ f, (f, none) ∈ (tf.map fun f => ((f, none) : Defn)) ∧ p = cT K (f, none) := fun {p} hp => by
    obtain ⟨f, hf, rfl⟩ := List.mem_map.mp hp
    exact ⟨f, List.mem_map.mpr ⟨f, hf, rfl⟩, rfl⟩
  refine ⟨fd, tf.map (fun f => cT K (f, none)), spF (Gm lam tf K mg) 1 m, fun p hp => ?_, fun p hp => ?_, fun p hp => ?_, hb, fun H a ns hl hz hT hS => hsp_of hT hS (pl ns hl hz), fun base _ _ tb => F base fun f hf => tb _ (List.mem_map.mpr ⟨f, hf, rfl⟩)⟩
  · obtain ⟨f, hf, rfl⟩ := mem hp; exact c.empty _ hf
  · obtain ⟨f, hf, rfl⟩ := mem hp; exact c.out _ hf
  · obtain ⟨f, hf, rfl⟩ := mem hp; exact PySem.W.codeHd_of_K X (c.hd _ hf)
end
end MP
end
section
set_option Elab.async false
set_option linter.all false
set_option maxRecDepth 100000
set_option maxHeartbeats 2000000
/-! M25: reading a mirror: what an expression and a statement end with. -/
namespace MP
open PySem PySem.Spec PyProof.Rows L2

/-! ### pure and cut promises -/
section
variable {Γ : G} {P : Program} {w : World} {K : PySem.W.Frag} {mg : Str → Option Value} {base : Heap} {CX : CXT} {k n : Nat} {f : Addr} {fd : FuncData} {ps : List Str} {m : MF}
theorem FnOk.pure (F : FnOk P w K mg base CX k f fd ps (spF Γ n m)) : FnOk P w K mg base CX k f fd ps (spF Γ n (pureF m)) :=
  (FnOk.fz F).imp fun _ _ _ _ q => spF_pure q
theorem FnOk.cut (F : FnOk P w K mg base CX k f fd ps (spF Γ n m)) : FnOk P w K mg base CX k f fd ps (spF Γ n (cutF m)) :=
  (FnOk.fz F).imp fun _ _ _ _ q => spF_cut q
end

/-! ### ends -/
/-- a continuation that is not looked into -/
inductive Tg {α : Type} (f : α) : Type
  | u
@[irreducible] def Kp {α : Type} (f : α) (t : Tg f) : α := f
theorem Kp_eq {α : Type} (f : α) (t : Tg f) : Kp f t = f := by unfold Kp; rfl
theorem Kp_app {β : Type} {f : β → List MO → Prop} {t : Tg f} {d : β} {h : List MO} : Kp f t d h = f d h := by rw [Kp_eq]
def Ok {α : Type} (r : Res α) (P : α → List MO → Prop) : Prop := match r with
  | .ok a h => P a h
  | _ => False
/-- an expression that may raise -/
def OkX {α : Type} (r : Res α) (P : α → List MO → Prop) (X : Ex → List MO → Prop) : Prop := match r with
  | .ok a h => P a h
  | .err e h => X e h
  | .stuck => False
structure Po where
  nx : Rho → List MO → Prop
  rt : D → List MO → Prop := fun _ _ => False
  bk : Rho → List MO → Prop := fun _ _ => False
  ct : Rho → List MO → Prop := fun _ _ => False
  er : Ex → List MO → Prop := fun _ _ => False
def OkS (r : RS) (P : Po) : Prop := match r with
  | .nx ρ h => P.nx ρ h
  | .rt d h => P.rt d h
  | .bk ρ h => P.bk ρ h
  | .ct ρ h => P.ct ρ h
  | .err e _ h => P.er e h
  | .stuck => False

section
variable {α β : Type} {P P' : α → List MO → Prop} {X X' : Ex → List MO → Prop} {ρ : Rho} {h : List MO}
theorem OkX.mono {r : Res α} (a : OkX r P X) (b : ∀ d h, P d h → P' d h) (c : ∀ e h, X e h → X' e h) : OkX r P' X' := by
  cases r with
  | ok d h => exact b _ _ a
  | err e h => exact c _ _ a
  | stuck => exact a
theorem OkX.of_eq {r : Res α} {d : α} (e : r = .ok d h) (p : P d h) : OkX r P X := by rw [e]; exact p
theorem OkX.ex {r : Res α} (a : OkX r P fun _ _ => False) : ∃ d h, r = .ok d h ∧ P d h := by
  cases r with
  | ok d h => exact ⟨d, h, rfl, a⟩
  | err e h => exact a.elim
  | stuck => exact a.elim
theorem OkX_ok {d : α} : OkX (.ok d h) P X = P d h := id rfl
theorem OkX_err {e : Ex} : OkX (α := α) (.err e h) P X = X e h := id rfl
theorem OkX_bind {r : Res β} {k : β → List MO → Res α} : OkX (r.bind k) P X = OkX r (fun a h => OkX (k a h) P X) X := by
  cases r <;> rfl
theorem OkS_toS {r : Res α} {k : α → List MO → RS} {N : Po} : OkS (r.toS ρ k) N = OkX r (fun a h => OkS (k a h) N) N.er := by
  cases r <;> rfl
theorem OkX_ite {c : Prop} [Decidable c] {a b : Res α} : OkX (if c then a else b) P X = if c then OkX a P X else OkX b P X := by split <;> rfl
theorem OkS_ite {c : Prop} [Decidable c] {a b : RS} {N : Po} : OkS (if c then a else b) N = if c then OkS a N else OkS b N := by split <;> rfl
end
/-! expressions -/
section
variable {P : D → List MO → Prop} {PB : Bool → List MO → Prop} {PA : List D → List MO → Prop} {X : Ex → List MO → Prop} {N : Po} {ρ : Rho} {h : List MO}
theorem w_var {i : Nat} : OkX (xVar i ρ h) P X = match ρ[i]? with
    | some (some d) => P d h
    | _ => False := by
  unfold xVar
  cases e : ρ[i]? with
  | none => rfl
  | some o => cases o <;> rfl
theorem w_c {d : D} : OkX (xC d ρ h) P X = P d h := id rfl
theorem v_op2 {g : D → D → List MO → Res D} {a b : ME} : OkX (xOp2 g a b ρ h) P X = OkX (a ρ h) (fun x h1 => OkX (b ρ h1) (fun y h2 => OkX (g x y h2) P X) X) X := by
  unfold xOp2; rw [OkX_bind]; congr; funext x h1; rw [OkX_bind]
theorem w_op2 {g : D → D → List MO → Res D} {a b : ME} : OkX (xOp2 g a b ρ h) P X = OkX (a ρ h) (Kp (fun x h1 => OkX (b ρ h1) (Kp (fun y h2 => OkX (g x y h2) P X) .u) X) .u) X := by
  simp only [Kp_eq]; exact v_op2
theorem v_op1 {g : D → List MO → Res D} {a : ME} : OkX (xOp1 g a ρ h) P X = OkX (a ρ h) (fun x h1 => OkX (g x h1) P X) X := by
  unfold xOp1; rw [OkX_bind]
theorem w_op1 {g : D → List MO → Res D} {a : ME} : OkX (xOp1 g a ρ h) P X = OkX (a ρ h) (Kp (fun x h1 => OkX (g x h1) P X) .u) X := by
  simp only [Kp_eq]; exact v_op1
theorem v_cb {g : List D → List MO → Res D} {a : MA} : OkX (xCB g a ρ h) P X = OkX (a ρ h) (fun x h1 => OkX (g x h1) P X) X := by
  unfold xCB; rw [OkX_bind]
theorem w_cb {g : List D → List MO → Res D} {a : MA} : OkX (xCB g a ρ h) P X = OkX (a ρ h) (Kp (fun x h1 => OkX (g x h1) P X) .u) X := by
  simp only [Kp_eq]; exact v_cb
theorem w_nil : OkX (aNil ρ h) PA X = PA [] h := id rfl
theorem v_cons {f : ME} {g : MA} : OkX (aCons f g ρ h) PA X = OkX (f ρ h) (fun d h1 => OkX (g ρ h1) (fun ds h2 => PA (d :: ds) h2) X) X := by
  unfold aCons; rw [OkX_bind]; congr; funext x h1; rw [OkX_bind]; rfl
theorem w_cons {f : ME} {g : MA} : OkX (aCons f g ρ h) PA X = OkX (f ρ h) (Kp (fun d h1 => OkX (g ρ h1) (Kp (fun ds h2 => PA (d :: ds) h2) .u) X) .u) X := by
  simp only [Kp_eq]; exact v_cons
theorem v_tup {f : MA} : OkX (xTup f ρ h) P X = OkX (f ρ h) (fun ds h1 => OkX (if ds.length ≤ LINE then .ok (.tup ds) h1 else .stuck) P X) X := by
  unfold xTup; rw [OkX_bind]
theorem w_tup {f : MA} : OkX (xTup f ρ h) P X = OkX (f ρ h) (Kp (fun ds h1 => OkX (if ds.length ≤ LINE then .ok (.tup ds) h1 else .stuck) P X) .u) X := by
  simp only [Kp_eq]; exact v_tup
theorem v_lst {f : MA} : OkX (xLst f ρ h) P X = OkX (f ρ h) (fun ds h1 => OkX (if ds.length ≤ LINE then .ok (.lst ds) h1 else .stuck) P X) X := by
  unfold xLst; rw [OkX_bind]
theorem w_lst {f : MA} : OkX (xLst f ρ h) P X = OkX (f ρ h) (Kp (fun ds h1 => OkX (if ds.length ≤ LINE then .ok (.lst ds) h1 else .stuck) P X) .u) X := by
  simp only [Kp_eq]; exact v_lst
theorem v_new {f : MA} : OkX (xNew f ρ h) P X = OkX (f ρ h) (fun ds h1 => OkX (if ds.length ≤ LINE then .ok (.ref h1.length) (h1 ++ [.lst ds]) else .stuck) P X) X := by
  unfold xNew; rw [OkX_bind]
theorem w_new {f : MA} : OkX (xNew f ρ h) P X = OkX (f ρ h) (Kp (fun ds h1 => OkX (if ds.length ≤ LINE then .ok (.ref h1.length) (h1 ++ [.lst ds]) else .stuck) P X) .u) X := by
  simp only [Kp_eq]; exact v_new
theorem v_if {c : MT} {a b : ME} : OkX (xIf c a b ρ h) P X = OkX (c ρ h) (fun t h1 => if t then OkX (a ρ h1) P X else OkX (b ρ h1) P X) X := by
  unfold xIf; rw [OkX_bind]; congr; funext x h1; exact OkX_ite
theorem w_if {c : MT} {a b : ME} : OkX (xIf c a b ρ h) P X = OkX (c ρ h) (Kp (fun t h1 => if t then OkX (a ρ h1) P X else OkX (b ρ h1) P X) .u) X := by
  simp only [Kp_eq]; exact v_if
theorem v_test {f : ME} : OkX (xTest f ρ h) PB X = OkX (f ρ h) (fun d h1 => ∃ b, d = .bl b ∧ PB b h1) X := by
  unfold xTest; rw [OkX_bind]; congr; funext d h1
  cases d <;> simp [OkX]
theorem w_test {f : ME} : OkX (xTest f ρ h) PB X = OkX (f ρ h) (Kp (fun d h1 => ∃ b, d = .bl b ∧ PB b h1) .u) X := by
  simp only [Kp_eq]; exact v_test
theorem v_tru {f : ME} : OkX (xTru f ρ h) PB X = OkX (f ρ h) (fun d h1 => ∃ b, truD h1 d = some b ∧ PB b h1) X := by
  unfold xTru; rw [OkX_bind]; congr; funext d h1
  cases truD h1 d <;> simp [OkX]
theorem w_tru {f : ME} : OkX (xTru f ρ h) PB X = OkX (f ρ h) (Kp (fun d h1 => ∃ b, truD h1 d = some b ∧ PB b h1) .u) X := by
  simp only [Kp_eq]; exact v_tru
theorem v_not {a : MT} : OkX (xNot a ρ h) PB X = OkX (a ρ h) (fun c h1 => PB (!c) h1) X := by
  unfold xNot; rw [OkX_bind]; rfl
theorem w_not {a : MT} : OkX (xNot a ρ h) PB X = OkX (a ρ h) (Kp (fun c h1 => PB (!c) h1) .u) X := by
  simp only [Kp_eq]; exact v_not
theorem v_and {a b : MT} : OkX (xAnd a b ρ h) PB X = OkX (a ρ h) (fun c h1 => if c then OkX (b ρ h1) PB X else PB false h1) X := by
  unfold xAnd; rw [OkX_bind]; congr; funext c h1; cases c <;> rfl
theorem w_and {a b : MT} : OkX (xAnd a b ρ h) PB X = OkX (a ρ h) (Kp (fun c h1 => if c then OkX (b ρ h1) PB X else PB false h1) .u) X := by
  simp only [Kp_eq]; exact v_and
theorem v_or {a b : MT} : OkX (xOr a b ρ h) PB X = OkX (a ρ h) (fun c h1 => if c then PB true h1 else OkX (b ρ h1) PB X) X := by
  unfold xOr; rw [OkX_bind]; congr; funext c h1; cases c <;> rfl
theorem w_or {a b : MT} : OkX (xOr a b ρ h) PB X = OkX (a ρ h) (Kp (fun c h1 => if c then PB true h1 else OkX (b ρ h1) PB X) .u) X := by
  simp only [Kp_eq]; exact v_or
theorem v_andV {a b : ME} : OkX (xAndV a b ρ h) P X = OkX (a ρ h) (fun d h1 => ∃ c, d = .bl c ∧ if c then OkX (b ρ h1) P X else P (.bl false) h1) X := by
  unfold xAndV; rw [OkX_bind]; congr; funext d h1
  cases d with
  | bl b => cases b <;> simp [OkX]
  | _ => simp [OkX]
theorem w_andV {a b : ME} : OkX (xAndV a b ρ h) P X = OkX (a ρ h) (Kp (fun d h1 => ∃ c, d = .bl c ∧ if c then OkX (b ρ h1) P X else P (.bl false) h1) .u) X := by
  simp only [Kp_eq]; exact v_andV
theorem v_orV {a b : ME} : OkX (xOrV a b ρ h) P X = OkX (a ρ h) (fun d h1 => ∃ c, d = .bl c ∧ if c then P (.bl true) h1 else OkX (b ρ h1) P X) X := by
  unfold xOrV; rw [OkX_bind]; congr; funext d h1
  cases d with
  | bl b => cases b <;> simp [OkX]
  | _ => simp [OkX]
theorem w_orV {a b : ME} : OkX (xOrV a b ρ h) P X = OkX (a ρ h) (Kp (fun d h1 => ∃ c, d = .bl c ∧ if c then P (.bl true) h1 else OkX (b ρ h1) P X) .u) X := by
  simp only [Kp_eq]; exact v_orV
theorem v_notV {a : ME} : OkX (xNotV a ρ h) P X = OkX (a ρ h) (fun d h1 => ∃ c, d = .bl c ∧ P (.bl (!c)) h1) X := by
  unfold xNotV; rw [OkX_bind]; congr; funext d h1
  cases d <;> simp [OkX]
theorem w_notV {a : ME} : OkX (xNotV a ρ h) P X = OkX (a ρ h) (Kp (fun d h1 => ∃ c, d = .bl c ∧ P (.bl (!c)) h1) .u) X := by
  simp only [Kp_eq]; exact v_notV
theorem v_chain {g g' : D → D → List MO → Res D} {a b c : ME} : OkX (xChain g g' a b c ρ h) P X = OkX (a ρ h) (fun x h1 => OkX (b ρ h1) (fun y h2 => OkX (g x y h2) (fun z h3 => ∃ t, z = .bl t ∧ if t then OkX (c ρ h3) (fun w h4 => OkX (g' y w h4) P X) X else P (.bl false) h3) X) X) X := by
  unfold xChain; rw [OkX_bind]; congr; funext x h1; rw [OkX_bind]; congr; funext y h2; rw [OkX_bind]; congr; funext z h3
  cases z with
  | bl b => cases b <;> simp [OkX_bind, OkX_ok]
  | _ => simp [OkX]
theorem w_chain {g g' : D → D → List MO → Res D} {a b c : ME} : OkX (xChain g g' a b c ρ h) P X = OkX (a ρ h) (Kp (fun x h1 => OkX (b ρ h1) (Kp (fun y h2 => OkX (g x y h2) (Kp (fun z h3 => ∃ t, z = .bl t ∧ if t then OkX (c ρ h3) (Kp (fun w h4 => OkX (g' y w h4) P X) .u) X else P (.bl false) h3) .u) X) .u) X) .u) X := by
  simp only [Kp_eq]; exact v_chain
theorem v_call {g : MF} {dds : List D} {a : MA} : OkX (xCall g dds a ρ h) P X = OkX (a ρ h) (fun ds h1 => OkX (g (ds ++ dds) h1) P X) X := by
  unfold xCall; rw [OkX_bind]
theorem w_call {g : MF} {dds : List D} {a : MA} : OkX (xCall g dds a ρ h) P X = OkX (a ρ h) (Kp (fun ds h1 => OkX (g (ds ++ dds) h1) P X) .u) X := by
  simp only [Kp_eq]; exact v_call
theorem v_callK {g : MF} {src : List Src} {a b : MA} : OkX (xCallK g src a b ρ h) P X = OkX (a ρ h) (fun ds h1 => OkX (b ρ h1) (fun es h2 => OkX (g (src.map (Src.pick ds es)) h2) P X) X) X := by
  unfold xCallK; rw [OkX_bind]; congr; funext x h1; rw [OkX_bind]
theorem w_callK {g : MF} {src : List Src} {a b : MA} : OkX (xCallK g src a b ρ h) P X = OkX (a ρ h) (Kp (fun ds h1 => OkX (b ρ h1) (Kp (fun es h2 => OkX (g (src.map (Src.pick ds es)) h2) P X) .u) X) .u) X := by
  simp only [Kp_eq]; exact v_callK
theorem v_sl {a : ME} {l u : Option ME} : OkX (xSl a l u ρ h) P X = OkX (a ρ h) (fun x h1 => OkX (xPart l ρ h1) (fun i h2 => OkX (xPart u ρ h2) (fun j h3 => OkX (oSl x i j h3) P X) X) X) X := by
  unfold xSl; rw [OkX_bind]; congr; funext x h1; rw [OkX_bind]; congr; funext y h2; rw [OkX_bind]
theorem w_sl {a : ME} {l u : Option ME} : OkX (xSl a l u ρ h) P X = OkX (a ρ h) (Kp (fun x h1 => OkX (xPart l ρ h1) (Kp (fun i h2 => OkX (xPart u ρ h2) (Kp (fun j h3 => OkX (oSl x i j h3) P X) .u) X) .u) X) .u) X := by
  simp only [Kp_eq]; exact v_sl
theorem w_part0 {PO : Option Int → List MO → Prop} : OkX (xPart none ρ h) PO X = PO none h := id rfl
theorem v_part1 {f : ME} {PO : Option Int → List MO → Prop} : OkX (xPart (some f) ρ h) PO X = OkX (f ρ h) (fun d h1 => ∃ i, d = .int i ∧ PO (some i) h1) X := by
  unfold xPart; show OkX ((f ρ h).bind _) PO X = _; rw [OkX_bind]; congr; funext d h1
  cases d <;> simp [OkX]
theorem w_part1 {f : ME} {PO : Option Int → List MO → Prop} : OkX (xPart (some f) ρ h) PO X = OkX (f ρ h) (Kp (fun d h1 => ∃ i, d = .int i ∧ PO (some i) h1) .u) X := by
  simp only [Kp_eq]; exact v_part1
theorem v_isi {ns : List String} {f : ME} : OkX (xIsi ns f ρ h) P X = OkX (f ρ h) (fun d h1 => ∃ b, isiD ns d = some b ∧ P (.bl b) h1) X := by
  unfold xIsi; rw [OkX_bind]; congr; funext d h1
  cases isiD ns d <;> simp [OkX]
theorem w_isi {ns : List String} {f : ME} : OkX (xIsi ns f ρ h) P X = OkX (f ρ h) (Kp (fun d h1 => ∃ b, isiD ns d = some b ∧ P (.bl b) h1) .u) X := by
  simp only [Kp_eq]; exact v_isi
theorem v_join {a b : ME} : OkX (xJoin a b ρ h) P X = OkX (a ρ h) (fun s h1 => ∃ sep, s = .str sep ∧ OkX (b ρ h1) (fun d h2 => OkX (oJoin sep d h2) P X) X) X := by
  unfold xJoin; rw [OkX_bind]; congr; funext d h1
  cases d with
  | str l => simp only [D.str.injEq, exists_eq_left', OkX_bind]
  | _ => simp [OkX]
theorem w_join {a b : ME} : OkX (xJoin a b ρ h) P X = OkX (a ρ h) (Kp (fun s h1 => ∃ sep, s = .str sep ∧ OkX (b ρ h1) (Kp (fun d h2 => OkX (oJoin sep d h2) P X) .u) X) .u) X := by
  simp only [Kp_eq]; exact v_join
theorem v_mt {g : List D → List D → Option (D × List D)} {a : ME} {b : MA} : OkX (xMt g a b ρ h) P X = OkX (a ρ h) (fun o h1 => ∃ i, o = .ref i ∧ OkX (b ρ h1) (fun ds h2 => match hl h2 i with
    | some es => (match g es ds with
      | some (d, es') => P d (h2.set i (.lst es'))
      | none => False)
    | none => False) X) X := by
  unfold xMt; rw [OkX_bind]; congr; funext d h1
  cases d with
  | ref i =>
    simp only [D.ref.injEq, exists_eq_left', OkX_bind]
    apply congrArg (fun z => OkX (b ρ h1) z X)
    funext ds h2
    cases hl h2 i with
    | none => rfl
    | some es =>
      cases e2 : g es ds with
      | none => simp only [e2]; rfl
      | some p => obtain ⟨d, es'⟩ := p; simp only [e2]; rfl
  | _ => simp [OkX]
theorem w_mt {g : List D → List D → Option (D × List D)} {a : ME} {b : MA} : OkX (xMt g a b ρ h) P X = OkX (a ρ h) (Kp (fun o h1 => ∃ i, o = .ref i ∧ OkX (b ρ h1) (Kp (fun ds h2 => match hl h2 i with
    | some es => (match g es ds with
      | some (d, es') => P d (h2.set i (.lst es'))
      | none => False)
    | none => False) .u) X) .u) X := by
  simp only [Kp_eq]; exact v_mt
theorem v_lc {i : MI} {p : Pat} {t : MT} {e : ME} {own : List Nat} : OkX (xLc i p t e own ρ h) P X = OkX (xLcA i p t e own ρ h) (fun ds h1 => P (.lst ds) h1) X := by
  unfold xLc; rw [OkX_bind]; rfl
theorem w_lc {i : MI} {p : Pat} {t : MT} {e : ME} {own : List Nat} : OkX (xLc i p t e own ρ h) P X = OkX (xLcA i p t e own ρ h) (Kp (fun ds h1 => P (.lst ds) h1) .u) X := by
  simp only [Kp_eq]; exact v_lc
theorem v_lcN {i : MI} {p : Pat} {t : MT} {e : ME} {own : List Nat} : OkX (xLcN i p t e own ρ h) P X = OkX (xLcA i p t e own ρ h) (fun ds h1 => P (.ref h1.length) (h1 ++ [.lst ds])) X := by
  unfold xLcN; rw [OkX_bind]; rfl
theorem w_lcN {i : MI} {p : Pat} {t : MT} {e : ME} {own : List Nat} : OkX (xLcN i p t e own ρ h) P X = OkX (xLcA i p t e own ρ h) (Kp (fun ds h1 => P (.ref h1.length) (h1 ++ [.lst ds])) .u) X := by
  simp only [Kp_eq]; exact v_lcN
theorem v_lcA {i : MI} {p : Pat} {t : MT} {e : ME} {own : List Nat} : OkX (xLcA i p t e own ρ h) PA X = OkX (i ρ h) (fun it h1 => OkX (loopC p t e it (wipeD ρ own) it.items [] h1) PA X) X := by
  unfold xLcA; rw [OkX_bind]
theorem w_lcA {i : MI} {p : Pat} {t : MT} {e : ME} {own : List Nat} : OkX (xLcA i p t e own ρ h) PA X = OkX (i ρ h) (Kp (fun it h1 => OkX (loopC p t e it (wipeD ρ own) it.items [] h1) PA X) .u) X := by
  simp only [Kp_eq]; exact v_lcA
/-! what is walked -/
variable {PI : IterD → List MO → Prop}
theorem v_it {f : ME} : OkX (xIt f ρ h) PI X = OkX (f ρ h) (fun d h1 => ∃ it, itemsD h1 d = some it ∧ PI it h1) X := by
  unfold xIt; rw [OkX_bind]; congr; funext d h1
  cases itemsD h1 d <;> simp [OkX]
theorem w_it {f : ME} : OkX (xIt f ρ h) PI X = OkX (f ρ h) (Kp (fun d h1 => ∃ it, itemsD h1 d = some it ∧ PI it h1) .u) X := by
  simp only [Kp_eq]; exact v_it
theorem v_range1 {f : MA} : OkX (xRange1 f ρ h) PI X = OkX (f ρ h) (fun ds h1 => match ds with
    | [.int j] => big62 j ∧ PI ⟨rangeD 0 j.toNat, none⟩ h1
    | _ => False) X := by
  unfold xRange1; rw [OkX_bind]; congr; funext ds h1
  split
  · rename_i j; rw [OkX_ite]; by_cases hb : big62 j
    · rw [if_pos hb]; exact propext ⟨fun z => ⟨hb, z⟩, fun z => z.2⟩
    · rw [if_neg hb]; exact propext ⟨fun z => z.elim, fun z => hb z.1⟩
  · simp_all [OkX, OkS]
theorem w_range1 {f : MA} : OkX (xRange1 f ρ h) PI X = OkX (f ρ h) (Kp (fun ds h1 => match ds with
    | [.int j] => big62 j ∧ PI ⟨rangeD 0 j.toNat, none⟩ h1
    | _ => False) .u) X := by
  simp only [Kp_eq]; exact v_range1
theorem v_range2 {f : MA} : OkX (xRange2 f ρ h) PI X = OkX (f ρ h) (fun ds h1 => match ds with
    | [.int i, .int j] => (big62 i ∧ big62 j) ∧ PI ⟨rangeD i (j - i).toNat, none⟩ h1
    | _ => False) X := by
  unfold xRange2; rw [OkX_bind]; congr; funext ds h1
  split
  · rename_i i j; rw [OkX_ite]; by_cases hb : big62 i ∧ big62 j
    · rw [if_pos hb]; exact propext ⟨fun z => ⟨hb, z⟩, fun z => z.2⟩
    · rw [if_neg hb]; exact propext ⟨fun z => z.elim, fun z => hb z.1⟩
  · simp_all [OkX, OkS]
theorem w_range2 {f : MA} : OkX (xRange2 f ρ h) PI X = OkX (f ρ h) (Kp (fun ds h1 => match ds with
    | [.int i, .int j] => (big62 i ∧ big62 j) ∧ PI ⟨rangeD i (j - i).toNat, none⟩ h1
    | _ => False) .u) X := by
  simp only [Kp_eq]; exact v_range2
theorem v_enum {f : MA} : OkX (xEnum f ρ h) PI X = OkX (f ρ h) (fun ds h1 => match ds with
    | [.lst es] => PI ⟨enumD 0 es, none⟩ h1
    | [.ref i] => (match hl h1 i with
      | some es => PI ⟨enumD 0 es, some (i, es)⟩ h1
      | none => False)
    | _ => False) X := by
  unfold xEnum; rw [OkX_bind]; congr; funext ds h1
  split
  · rfl
  · rename_i i
    cases e : hl h1 i with
    | none => simp only [e]; rfl
    | some es => simp only [e]; rfl
  · simp_all [OkX, OkS]
theorem w_enum {f : MA} : OkX (xEnum f ρ h) PI X = OkX (f ρ h) (Kp (fun ds h1 => match ds with
    | [.lst es] => PI ⟨enumD 0 es, none⟩ h1
    | [.ref i] => (match hl h1 i with
      | some es => PI ⟨enumD 0 es, some (i, es)⟩ h1
      | none => False)
    | _ => False) .u) X := by
  simp only [Kp_eq]; exact v_enum
theorem v_enumS {f : MA} : OkX (xEnumS f ρ h) PI X = OkX (f ρ h) (fun ds h1 => match ds with
    | [.str l] => PI ⟨enumD 0 (l.map fun c => .str [c]), none⟩ h1
    | _ => False) X := by
  unfold xEnumS; rw [OkX_bind]; congr; funext ds h1
  split <;> first | rfl | simp_all [OkX, OkS]
theorem w_enumS {f : MA} : OkX (xEnumS f ρ h) PI X = OkX (f ρ h) (Kp (fun ds h1 => match ds with
    | [.str l] => PI ⟨enumD 0 (l.map fun c => .str [c]), none⟩ h1
    | _ => False) .u) X := by
  simp only [Kp_eq]; exact v_enumS
theorem v_zip {f : MA} : OkX (xZip f ρ h) PI X = OkX (f ρ h) (fun ds h1 => match ds with
    | [.lst a, .lst b] => PI ⟨zipD a b, none⟩ h1
    | [.tup a, .tup b] => PI ⟨zipD a b, none⟩ h1
    | _ => False) X := by
  unfold xZip; rw [OkX_bind]; congr; funext ds h1
  split <;> first | rfl | simp_all [OkX, OkS]
theorem w_zip {f : MA} : OkX (xZip f ρ h) PI X = OkX (f ρ h) (Kp (fun ds h1 => match ds with
    | [.lst a, .lst b] => PI ⟨zipD a b, none⟩ h1
    | [.tup a, .tup b] => PI ⟨zipD a b, none⟩ h1
    | _ => False) .u) X := by
  simp only [Kp_eq]; exact v_zip
/-! statements -/
theorem w_sNil : OkS (sNil ρ h) N = N.nx ρ h := id rfl
theorem v_seq {a b : MS} : OkS (sSeq a b ρ h) N = OkS (a ρ h) { N with nx := fun ρ1 h1 => OkS (b ρ1 h1) N } := by
  unfold sSeq; cases a ρ h <;> rfl
theorem w_seq {a b : MS} : OkS (sSeq a b ρ h) N = OkS (a ρ h) { N with nx := Kp (fun ρ1 h1 => OkS (b ρ1 h1) N) .u } := by
  simp only [Kp_eq]; exact v_seq
theorem w_break : OkS (sBreak ρ h) N = N.bk ρ h := id rfl
theorem w_cont : OkS (sCont ρ h) N = N.ct ρ h := id rfl
theorem v_expr {f : ME} : OkS (sExpr f ρ h) N = OkX (f ρ h) (fun _ h1 => N.nx ρ h1) N.er := by unfold sExpr; rw [OkS_toS]; rfl
theorem w_expr {f : ME} : OkS (sExpr f ρ h) N = OkX (f ρ h) (Kp (fun _ h1 => N.nx ρ h1) .u) N.er := by
  simp only [Kp_eq]; exact v_expr
theorem v_ret {f : ME} : OkS (sRet f ρ h) N = OkX (f ρ h) (fun d h1 => N.rt d h1) N.er := by unfold sRet; rw [OkS_toS]; rfl
theorem w_ret {f : ME} : OkS (sRet f ρ h) N = OkX (f ρ h) (Kp (fun d h1 => N.rt d h1) .u) N.er := by
  simp only [Kp_eq]; exact v_ret
theorem w_retN : OkS (sRetN ρ h) N = N.rt .non h := id rfl
theorem v_sIf {c : MT} {a b : MS} : OkS (sIf c a b ρ h) N = OkX (c ρ h) (fun t h1 => if t then OkS (a ρ h1) N else OkS (b ρ h1) N) N.er := by
  unfold sIf; rw [OkS_toS]; congr; funext t h1; exact OkS_ite
theorem w_sIf {c : MT} {a b : MS} : OkS (sIf c a b ρ h) N = OkX (c ρ h) (Kp (fun t h1 => if t then OkS (a ρ h1) N else OkS (b ρ h1) N) .u) N.er := by
  simp only [Kp_eq]; exact v_sIf
theorem v_set {i : Nat} {f : ME} : OkS (sSet i f ρ h) N = OkX (f ρ h) (fun d h1 => N.nx (ρ.set i (some d)) h1) N.er := by unfold sSet; rw [OkS_toS]; rfl
theorem w_set {i : Nat} {f : ME} : OkS (sSet i f ρ h) N = OkX (f ρ h) (Kp (fun d h1 => N.nx (ρ.set i (some d)) h1) .u) N.er := by
  simp only [Kp_eq]; exact v_set
theorem v_par {i j : Nat} {f : MA} : OkS (sPar i j f ρ h) N = OkX (f ρ h) (fun ds h1 => match ds with
    | [a, b] => N.nx ((ρ.set i (some a)).set j (some b)) h1
    | _ => False) N.er := by
  unfold sPar; rw [OkS_toS]; congr; funext ds h1
  split <;> first | rfl | simp_all [OkX, OkS]
theorem w_par {i j : Nat} {f : MA} : OkS (sPar i j f ρ h) N = OkX (f ρ h) (Kp (fun ds h1 => match ds with
    | [a, b] => N.nx ((ρ.set i (some a)).set j (some b)) h1
    | _ => False) .u) N.er := by
  simp only [Kp_eq]; exact v_par
theorem v_par3 {i j l : Nat} {f : MA} : OkS (sPar3 i j l f ρ h) N = OkX (f ρ h) (fun ds h1 => match ds with
    | [a, b, c] => N.nx (((ρ.set i (some a)).set j (some b)).set l (some c)) h1
    | _ => False) N.er := by
  unfold sPar3; rw [OkS_toS]; congr; funext ds h1
  split <;> first | rfl | simp_all [OkX, OkS]
theorem w_par3 {i j l : Nat} {f : MA} : OkS (sPar3 i j l f ρ h) N = OkX (f ρ h) (Kp (fun ds h1 => match ds with
    | [a, b, c] => N.nx (((ρ.set i (some a)).set j (some b)).set l (some c)) h1
    | _ => False) .u) N.er := by
  simp only [Kp_eq]; exact v_par3
theorem v_asg {p : Pat} {f : ME} : OkS (sAsg p f ρ h) N = OkX (f ρ h) (fun d h1 => match bindP p d ρ with
    | some ρ1 => N.nx ρ1 h1
    | none => False) N.er := by
  unfold sAsg; rw [OkS_toS]; congr; funext d h1
  cases bindP p d ρ <;> rfl
theorem w_asg {p : Pat} {f : ME} : OkS (sAsg p f ρ h) N = OkX (f ρ h) (Kp (fun d h1 => match bindP p d ρ with
    | some ρ1 => N.nx ρ1 h1
    | none => False) .u) N.er := by
  simp only [Kp_eq]; exact v_asg
theorem v_aug {i : Nat} {g : D → D → List MO → Res D} {f : ME} : OkS (sAug i g f ρ h) N = match ρ[i]? with
    | some (some d) => OkX (f ρ h) (fun e h1 => OkX (g d e h1) (fun z h2 => N.nx (ρ.set i (some z)) h2) N.er) N.er
    | _ => False := by
  unfold sAug
  cases e : ρ[i]? with
  | none => rfl
  | some o => cases o with
    | none => rfl
    | some d => simp only [OkS_toS]; rfl
theorem w_aug {i : Nat} {g : D → D → List MO → Res D} {f : ME} : OkS (sAug i g f ρ h) N = match ρ[i]? with
    | some (some d) => OkX (f ρ h) (Kp (fun e h1 => OkX (g d e h1) (Kp (fun z h2 => N.nx (ρ.set i (some z)) h2) .u) N.er) .u) N.er
    | _ => False := by
  simp only [Kp_eq]; exact v_aug
theorem v_sub {f fo fi : ME} : OkS (sSub f fo fi ρ h) N = OkX (f ρ h) (fun d h1 => OkX (fo ρ h1) (fun o h2 => OkX (fi ρ h2) (fun i h3 => match o, i with
    | .ref a, .int k => (match hl h3 a with
      | some ds => (match ixN ds.length k with
        | some j => N.nx ρ (h3.set a (.lst (ds.set j d)))
        | none => False)
      | none => False)
    | _, _ => False) N.er) N.er) N.er := by
  unfold sSub; rw [OkS_toS]; congr; funext d h1; rw [OkS_toS]; congr; funext o h2; rw [OkS_toS]; congr; funext i h3
  split
  · rename_i a k
    cases e0 : hl h3 a with
    | none => simp only [e0]; rfl
    | some ds =>
      simp only [e0]
      cases e : ixN ds.length k with
      | none => simp only [e]; rfl
      | some j => simp only [e]; rfl
  · simp_all [OkX, OkS]
theorem w_sub {f fo fi : ME} : OkS (sSub f fo fi ρ h) N = OkX (f ρ h) (Kp (fun d h1 => OkX (fo ρ h1) (Kp (fun o h2 => OkX (fi ρ h2) (Kp (fun i h3 => match o, i with
    | .ref a, .int k => (match hl h3 a with
      | some ds => (match ixN ds.length k with
        | some j => N.nx ρ (h3.set a (.lst (ds.set j d)))
        | none => False)
      | none => False)
    | _, _ => False) .u) N.er) .u) N.er) .u) N.er := by
  simp only [Kp_eq]; exact v_sub
theorem v_for {i : MI} {p : Pat} {b : MS} : OkS (sFor i p b ρ h) N = OkX (i ρ h) (fun it h1 => OkS (loopF p b it it.items ρ h1) N) N.er := by unfold sFor; rw [OkS_toS]
theorem w_for {i : MI} {p : Pat} {b : MS} : OkS (sFor i p b ρ h) N = OkX (i ρ h) (Kp (fun it h1 => OkS (loopF p b it it.items ρ h1) N) .u) N.er := by
  simp only [Kp_eq]; exact v_for
theorem v_raise {cls : Str} {fs : List Str} {f : MA} : OkS (sRaise cls fs f ρ h) N = OkX (f ρ h) (fun ds h1 => ds.length = fs.length ∧ N.er ⟨cls, fs.zip ds⟩ h1) N.er := by
  unfold sRaise; rw [OkS_toS]; congr; funext ds h1
  rw [OkS_ite]; by_cases e : ds.length = fs.length <;> simp [e, OkS]
theorem w_raise {cls : Str} {fs : List Str} {f : MA} : OkS (sRaise cls fs f ρ h) N = OkX (f ρ h) (Kp (fun ds h1 => ds.length = fs.length ∧ N.er ⟨cls, fs.zip ds⟩ h1) .u) N.er := by
  simp only [Kp_eq]; exact v_raise
theorem v_run {n : Nat} {b : MS} {ds : List D} : OkX (runF n b ds h) P X = OkS (b (ds.map some ++ List.replicate (n - ds.length) none) h) ⟨fun _ h1 => P .non h1, P, fun _ _ => False, fun _ _ => False, X⟩ := by
  unfold runF; cases b (ds.map some ++ List.replicate (n - ds.length) none) h <;> rfl
theorem w_run {n : Nat} {b : MS} {ds : List D} : OkX (runF n b ds h) P X = OkS (b (ds.map some ++ List.replicate (n - ds.length) none) h) ⟨Kp (fun _ h1 => P .non h1) .u, P, fun _ _ => False, fun _ _ => False, X⟩ := by
  simp only [Kp_eq]; exact v_run
theorem w_pure {m : MF} {ds : List D} (hb : belowDs 0 ds = true) (q : OkX (m ds []) (fun d h1 => ∃ d2, deD 0 h1 d = some d2 ∧ P d2 h) (fun e _ => belowDs 0 (e.fs.map (·.2)) = true ∧ X e h)) : OkX (pureF m ds h) P X := by
  unfold pureF; rw [if_pos hb]
  cases e : m ds [] with
  | ok d h1 =>
    rw [e] at q
    obtain ⟨d2, e2, p⟩ := q
    simp only [e2]; exact p
  | err ex h1 =>
    rw [e] at q
    obtain ⟨e2, p⟩ := q
    simp only [e2]; exact p
  | stuck => rw [e] at q; exact q.elim
theorem w_cut {m : MF} {ds : List D} (q : OkX (m ds h) (fun d h1 => ∃ d2, deD h.length h1 d = some d2 ∧ (h1.take h.length).all (belowM h.length) = true ∧ P d2 (h1.take h.length)) (fun e h1 => (h1.take h.length).all (belowM h.length) = true ∧ belowDs h.length (e.fs.map (·.2)) = true ∧ X e (h1.take h.length))) : OkX (cutF m ds h) P X := by
  unfold cutF
  cases e : m ds h with
  | ok d h1 =>
    rw [e] at q
    obtain ⟨d2, e2, e3, p⟩ := q
    simp only [e2, e3]; exact p
  | err ex h1 =>
    rw [e] at q
    obtain ⟨e2, e3, p⟩ := q
    simp only [e2, e3]; exact p
  | stuck => rw [e] at q; exact q.elim
/-! loops -/
theorem OkS.mono {r : RS} {N N' : Po} (a : OkS r N) (b1 : ∀ ρ h, N.nx ρ h → N'.nx ρ h) (b2 : ∀ ρ h, N.rt ρ h → N'.rt ρ h) (b3 : ∀ ρ h, N.bk ρ h → N'.bk ρ h) (b4 : ∀ ρ h, N.ct ρ h → N'.ct ρ h) (b5 : ∀ ρ h, N.er ρ h → N'.er ρ h) : OkS r N' := by
  cases r with
  | nx ρ h => exact b1 _ _ a
  | rt d h => exact b2 _ _ a
  | bk ρ h => exact b3 _ _ a
  | ct ρ h => exact b4 _ _ a
  | err e ρ h => exact b5 _ _ a
  | stuck => exact a
/-- a for: what holds, by what was taken -/
theorem w_loopF {p : Pat} {b : MS} {it : IterD} (I : List D → Rho → List MO → Prop) (ck : ∀ l ρ h, I l ρ h → ckOk it h = true) : ∀ (pre ds : List D) (ρ : Rho) (h : List MO), I pre ρ h →
    (∀ l d r ρ h, pre ++ ds = l ++ d :: r → I l ρ h → ∃ ρ1, bindP p d ρ = some ρ1 ∧ OkS (b ρ1 h) ⟨I (l ++ [d]), N.rt, N.nx, I (l ++ [d]), N.er⟩) →
    (∀ ρ h, I (pre ++ ds) ρ h → N.nx ρ h) → OkS (loopF p b it ds ρ h) N
  | pre, [], ρ, h, i, _, e => by
    unfold loopF; rw [if_pos (ck _ _ _ i)]
    exact e ρ h (by rw [List.append_nil]; exact i)
  | pre, d :: ds, ρ, h, i, t, e => by
    unfold loopF; rw [if_pos (ck _ _ _ i)]
    obtain ⟨ρ1, e1, q⟩ := t pre d ds ρ h rfl i
    have ea : pre ++ d :: ds = (pre ++ [d]) ++ ds := by simp
    have next := fun ρ h (i : I (pre ++ [d]) ρ h) => w_loopF I ck (pre ++ [d]) ds ρ h i (fun l d' r ρ h e' => t l d' r ρ h (ea.trans e')) (fun ρ h j => e ρ h (by rw [ea]; exact j))
    simp only [e1]
    cases eb : b ρ1 h with
    | nx ρ2 h2 => rw [eb] at q; exact next _ _ q
    | ct ρ2 h2 => rw [eb] at q; exact next _ _ q
    | bk ρ2 h2 => rw [eb] at q; exact q
    | rt d h2 => rw [eb] at q; exact q
    | err ex ρ2 h2 => rw [eb] at q; exact q
    | stuck => rw [eb] at q; exact q.elim
/-- a for over things of a row in plain Lean -/
theorem w_loopFm {α : Type} {p : Pat} {b : MS} {it : IterD} (f : α → D) (I : List α → Rho → List MO → Prop) (ck : ∀ l ρ h, I l ρ h → ckOk it h = true) (xs : List α) (ρ : Rho) (h : List MO) (i0 : I [] ρ h)
    (t : ∀ l x r ρ h, xs = l ++ x :: r → I l ρ h → ∃ ρ1, bindP p (f x) ρ = some ρ1 ∧ OkS (b ρ1 h) ⟨I (l ++ [x]), N.rt, N.nx, I (l ++ [x]), N.er⟩)
    (e : ∀ ρ h, I xs ρ h → N.nx ρ h) : OkS (loopF p b it (xs.map f) ρ h) N := by
  have gen : ∀ (ys pre : List α) (ρ : Rho) (h : List MO), pre ++ ys = xs → I pre ρ h → OkS (loopF p b it (ys.map f) ρ h) N := by
    intro ys
    induction ys with
    | nil => intro pre ρ h e1 i; rw [List.append_nil] at e1; subst e1; unfold loopF; rw [List.map_nil]; simp only [ck _ _ _ i, if_true]; exact e ρ h i
    | cons x ys ih =>
      intro pre ρ h e1 i
      unfold loopF; rw [List.map_cons]; simp only [ck _ _ _ i, if_true]
      obtain ⟨ρ1, e2, q⟩ := t pre x ys ρ h e1.symm i
      have next := fun ρ h (i : I (pre ++ [x]) ρ h) => ih (pre ++ [x]) ρ h (by rw [← e1]; simp) i
      simp only [e2]
      cases eb : b ρ1 h with
      | nx ρ2 h2 => rw [eb] at q; exact next _ _ q
      | ct ρ2 h2 => rw [eb] at q; exact next _ _ q
      | bk ρ2 h2 => rw [eb] at q; exact q
      | rt d h2 => rw [eb] at q; exact q
      | err ex ρ2 h2 => rw [eb] at q; exact q
      | stuck => rw [eb] at q; exact q.elim
  exact gen xs [] ρ h rfl i0
/-- a while: what holds, a number that falls -/
theorem w_loopW {c : MT} {b : MS} (I : Nat → Rho → List MO → Prop) (t : ∀ k ρ h, I k ρ h → OkX (c ρ h) (fun t h1 => if t then OkS (b ρ h1) ⟨fun ρ2 h2 => ∃ j, j < k ∧ I j ρ2 h2, N.rt, N.nx, fun ρ2 h2 => ∃ j, j < k ∧ I j ρ2 h2, N.er⟩ else N.nx ρ h1) N.er) :
    ∀ (n k : Nat) (ρ : Rho) (h : List MO), k < n → I k ρ h → OkS (loopW c b n ρ h) N
  | 0, k, _, _, hk, _ => absurd hk (Nat.not_lt_zero _)
  | n + 1, k, ρ, h, hk, i => by
    unfold loopW; rw [OkS_toS]
    refine (t k ρ h i).mono (fun tt h1 q => ?_) fun e h q => q
    cases tt with
    | false => exact q
    | true =>
      rw [if_pos rfl] at q ⊢
      cases eb : b ρ h1 with
      | nx ρ2 h2 => rw [eb] at q; obtain ⟨j, hj, i2⟩ := q; exact w_loopW I t n j ρ2 h2 (by omega) i2
      | ct ρ2 h2 => rw [eb] at q; obtain ⟨j, hj, i2⟩ := q; exact w_loopW I t n j ρ2 h2 (by omega) i2
      | bk ρ2 h2 => rw [eb] at q; exact q
      | rt d h2 => rw [eb] at q; exact q
      | err ex ρ2 h2 => rw [eb] at q; exact q
      | stuck => rw [eb] at q; exact q.elim
/-- a comprehension: what holds, by what was taken -/
theorem w_loopC {p : Pat} {ft : MT} {fe : ME} {it : IterD} {ρ0 : Rho} {α : Type} (f : α → D) (I : List α → List D → List MO → Prop) (ck : ∀ l a h, I l a h → ckOk it h = true) (xs : List α) (h : List MO) (i0 : I [] [] h)
    (t : ∀ l x r a h, xs = l ++ x :: r → I l a h → ∃ ρ1, bindP p (f x) ρ0 = some ρ1 ∧ OkX (ft ρ1 h) (fun c h1 => if c then OkX (fe ρ1 h1) (fun y h2 => a.length < LINE ∧ I (l ++ [x]) (a ++ [y]) h2) (fun _ _ => False) else I (l ++ [x]) a h1) fun _ _ => False)
    (e : ∀ a h, I xs a h → PA a h) : OkX (loopC p ft fe it ρ0 (xs.map f) [] h) PA X := by
  have gen : ∀ (ys pre : List α) (a : List D) (h : List MO), pre ++ ys = xs → I pre a h → OkX (loopC p ft fe it ρ0 (ys.map f) a h) PA X := by
    intro ys
    induction ys with
    | nil => intro pre a h e1 i; rw [List.append_nil] at e1; subst e1; unfold loopC; rw [List.map_nil]; simp only [ck _ _ _ i, if_true]; exact e a h i
    | cons x ys ih =>
      intro pre a h e1 i
      unfold loopC; rw [List.map_cons]; simp only [ck _ _ _ i, if_true]
      obtain ⟨ρ1, e2, q⟩ := t pre x ys a h e1.symm i
      have next := fun a h (i : I (pre ++ [x]) a h) => ih (pre ++ [x]) a h (by rw [← e1]; simp) i
      simp only [e2]
      obtain ⟨c, h1, e3, q⟩ := q.ex
      rw [e3]
      cases c with
      | false => exact next _ _ q
      | true =>
        rw [if_pos rfl] at q
        obtain ⟨y, h2, e4, hl, q⟩ := q.ex
        simp only [e4, hl, if_true]
        exact next _ _ q
  exact gen xs [] [] h rfl i0
end
end MP
end
section
set_option Elab.async false
set_option linter.all false
set_option maxRecDepth 100000
set_option maxHeartbeats 2000000
/-! M26: the reading as rules. -/
namespace MP
open PySem PySem.Spec PyProof.Rows L2
section
variable {P : D → List MO → Prop} {PA : List D → List MO → Prop} {X : Ex → List MO → Prop} {h : List MO}
theorem OkX_stuck {α : Type} {P : α → List MO → Prop} : OkX (Res.stuck : Res α) P X = False := id rfl
theorem OkX_guard {α : Type} {P : α → List MO → Prop} {c : Prop} [Decidable c] {d : α} : OkX (if c then .ok d h else .stuck) P X = (c ∧ P d h) := by
  by_cases e : c <;> simp [e, OkX]
theorem o_addS {a b : List Nat} : OkX (oAdd (.str a) (.str b) h) P X = (a.length + b.length ≤ LINE ∧ P (.str (a ++ b)) h) := OkX_guard
theorem o_addT {a b : List D} : OkX (oAdd (.tup a) (.tup b) h) P X = (a.length + b.length ≤ LINE ∧ P (.tup (a ++ b)) h) := OkX_guard
theorem o_addLr {a b : D} (ha : ∀ i, a ≠ .int i) (hs : ∀ i, a ≠ .str i) (ht : ∀ i, a ≠ .tup i) {x y : List D} (e1 : getL h a = some x) (e2 : getL h b = some y) : OkX (oAdd a b h) P X = (x.length + y.length ≤ LINE ∧ P (.lst (x ++ y)) h) := by
  unfold oAdd
  split
  · exact absurd rfl (ha _)
  · exact absurd rfl (hs _)
  · exact absurd rfl (ht _)
  · rw [e1, e2]; exact OkX_guard
theorem o_addLL {a b : List D} : OkX (oAdd (.lst a) (.lst b) h) P X = (a.length + b.length ≤ LINE ∧ P (.lst (a ++ b)) h) := o_addLr (fun _ z => by cases z) (fun _ z => by cases z) (fun _ z => by cases z) rfl rfl
theorem o_addRL {i : Nat} {b : List D} : OkX (oAdd (.ref i) (.lst b) h) P X = match hl h i with
    | some a => (a.length + b.length ≤ LINE ∧ P (.lst (a ++ b)) h)
    | none => False := by
  cases e : hl h i with
  | none => unfold oAdd; simp only [getL, e]; rfl
  | some a => simp only [o_addLr (a := .ref i) (b := .lst b) (fun _ z => by cases z) (fun _ z => by cases z) (fun _ z => by cases z) (h := h) e rfl]
theorem o_addII {i j : Int} : OkX (oAdd (.int i) (.int j) h) P X = P (.int (i + j)) h := id rfl
theorem o_subI {i j : Int} : OkX (oSub (.int i) (.int j) h) P X = P (.int (i - j)) h := id rfl
theorem o_mulI {i j : Int} : OkX (oMul (.int i) (.int j) h) P X = (mulOk i j ∧ P (.int (i * j)) h) := OkX_guard
theorem o_mulS {l : List Nat} {k : Int} : OkX (oMul (.str l) (.int k) h) P X = ((k < 2 ^ 40 ∧ - 2 ^ 40 < k ∧ l.length * k.toNat ≤ LINE) ∧ P (.str (repS k.toNat l)) h) := OkX_guard
theorem o_fdivI {i j : Int} : OkX (oFdiv (.int i) (.int j) h) P X = ((j ≠ 0 ∧ j.natAbs.log2 < 9000) ∧ P (.int (i.fdiv j)) h) := OkX_guard
theorem o_modI {i j : Int} : OkX (oMod (.int i) (.int j) h) P X = (j ≠ 0 ∧ P (.int (i.fmod j)) h) := OkX_guard
theorem o_powI {i j : Int} : OkX (oPow (.int i) (.int j) h) P X = ((0 ≤ j ∧ j ≤ 1000000 ∧ i.natAbs < 2 ^ 64) ∧ P (.int (i ^ j.toNat)) h) := OkX_guard
theorem o_negI {i : Int} : OkX (oNeg (.int i) h) P X = P (.int (-i)) h := id rfl
theorem o_ltI {i j : Int} : OkX (oLt (.int i) (.int j) h) P X = P (.bl (decide (i < j))) h := id rfl
theorem o_leI {i j : Int} : OkX (oLe (.int i) (.int j) h) P X = P (.bl (decide (i ≤ j))) h := id rfl
theorem o_gtI {i j : Int} : OkX (oGt (.int i) (.int j) h) P X = P (.bl (decide (j < i))) h := id rfl
theorem o_geI {i j : Int} : OkX (oGe (.int i) (.int j) h) P X = P (.bl (decide (j ≤ i))) h := id rfl
theorem o_ltS {i j : List Nat} : OkX (oLt (.str i) (.str j) h) P X = P (.bl (decide (i < j))) h := id rfl
theorem o_leS {i j : List Nat} : OkX (oLe (.str i) (.str j) h) P X = P (.bl (!decide (j < i))) h := id rfl
theorem o_gtS {i j : List Nat} : OkX (oGt (.str i) (.str j) h) P X = P (.bl (decide (j < i))) h := id rfl
theorem o_geS {i j : List Nat} : OkX (oGe (.str i) (.str j) h) P X = P (.bl (!decide (i < j))) h := id rfl
theorem o_eqI {i j : Int} : OkX (oEq (.int i) (.int j) h) P X = P (.bl (decide (i = j))) h := by
  show P (.bl (decide (D.int i = .int j))) h = _
  rw [show decide (D.int i = .int j) = decide (i = j) from by simp]
theorem o_eqS {i j : List Nat} : OkX (oEq (.str i) (.str j) h) P X = P (.bl (decide (i = j))) h := by
  show P (.bl (decide (D.str i = .str j))) h = _
  rw [show decide (D.str i = .str j) = decide (i = j) from by simp]
theorem o_neI {i j : Int} : OkX (oNe (.int i) (.int j) h) P X = P (.bl (!decide (i = j))) h := by
  show P (.bl (!decide (D.int i = .int j))) h = _
  rw [show decide (D.int i = .int j) = decide (i = j) from by simp]
theorem o_neS {i j : List Nat} : OkX (oNe (.str i) (.str j) h) P X = P (.bl (!decide (i = j))) h := by
  show P (.bl (!decide (D.str i = .str j))) h = _
  rw [show decide (D.str i = .str j) = decide (i = j) from by simp]
theorem o_eqD {a b : D} : OkX (oEq a b h) P X = match eqD h a b with
    | some c => P (.bl c) h
    | none => False := by unfold oEq; cases eqD h a b <;> rfl
theorem o_neD {a b : D} : OkX (oNe a b h) P X = match eqD h a b with
    | some c => P (.bl (!c)) h
    | none => False := by unfold oNe; cases eqD h a b <;> rfl
theorem o_isD {a b : D} : OkX (oIs a b h) P X = (isK b ∧ P (.bl (decide (a = b))) h) := OkX_guard
theorem o_isnotD {a b : D} : OkX (oIsNot a b h) P X = (isK b ∧ P (.bl (!decide (a = b))) h) := OkX_guard
theorem o_inS {neg : Bool} {c : Nat} {l : List Nat} : OkX (oIn neg (.str [c]) (.str l) h) P X = P (.bl (if neg then !decide (c ∈ l) else decide (c ∈ l))) h := id rfl
theorem o_inT {neg : Bool} {a : D} {ds : List D} : OkX (oIn neg a (.tup ds) h) P X = ((flatD a && ds.all flatD) = true ∧ P (.bl (if neg then !(ds.any fun y => eqF y a) else ds.any fun y => eqF y a)) h) := by
  unfold oIn; split
  · rename_i e; cases e
  · simp only [getQ, getL]; exact OkX_guard
theorem o_inL {neg : Bool} {a : D} {ds : List D} : OkX (oIn neg a (.lst ds) h) P X = ((flatD a && ds.all flatD) = true ∧ P (.bl (if neg then !(ds.any fun y => eqF y a) else ds.any fun y => eqF y a)) h) := by
  unfold oIn; split
  · rename_i e; cases e
  · simp only [getQ, getL]; exact OkX_guard
theorem o_ixS {l : List Nat} {i : Int} : OkX (oIx (.str l) (.int i) h) P X = (l.length ≤ LINE ∧ match atI l i with
    | some c => P (.str [c]) h
    | none => False) := by
  unfold oIx
  by_cases e : l.length ≤ LINE
  · simp only [e, if_true, true_and]; cases atI l i <;> rfl
  · simp [e, OkX]
theorem o_ixT {l : List D} {i : Int} : OkX (oIx (.tup l) (.int i) h) P X = match atI l i with
    | some c => P c h
    | none => False := by
  unfold oIx; simp only [getQ]; cases atI l i <;> rfl
theorem o_ixL {l : List D} {i : Int} : OkX (oIx (.lst l) (.int i) h) P X = match atI l i with
    | some c => P c h
    | none => False := by
  unfold oIx; simp only [getQ, getL]; cases atI l i <;> rfl
theorem o_ixR {a : Nat} {i : Int} : OkX (oIx (.ref a) (.int i) h) P X = match hl h a with
    | some l => (match atI l i with
      | some c => P c h
      | none => False)
    | none => False := by
  unfold oIx; simp only [getQ, getL]
  cases hl h a with
  | none => rfl
  | some l => simp only; cases atI l i <;> rfl
theorem o_slS {l : List Nat} {a b : Option Int} : OkX (oSl (.str l) a b h) P X = (l.length ≤ LINE ∧ P (.str (cutD l a b)) h) := OkX_guard
theorem o_slT {l : List D} {a b : Option Int} : OkX (oSl (.tup l) a b h) P X = P (.tup (cutD l a b)) h := id rfl
theorem o_slL {l : List D} {a b : Option Int} : OkX (oSl (.lst l) a b h) P X = P (.lst (cutD l a b)) h := id rfl
theorem o_slR {i : Nat} {a b : Option Int} : OkX (oSl (.ref i) a b h) P X = match hl h i with
    | some l => P (.lst (cutD l a b)) h
    | none => False := by
  unfold oSl; simp only [getL]; cases hl h i <;> rfl
theorem o_lenS {l : List Nat} : OkX (oLen [.str l] h) P X = (l.length ≤ LINE ∧ P (.int l.length) h) := OkX_guard
theorem o_lenT {l : List D} : OkX (oLen [.tup l] h) P X = P (.int l.length) h := id rfl
theorem o_lenL {l : List D} : OkX (oLen [.lst l] h) P X = P (.int l.length) h := id rfl
theorem o_lenR {i : Nat} : OkX (oLen [.ref i] h) P X = match hl h i with
    | some l => P (.int l.length) h
    | none => False := by
  unfold oLen; simp only [getQ, getL]; cases hl h i <;> rfl
theorem o_absI {i : Int} : OkX (oAbs [.int i] h) P X = P (.int i.natAbs) h := id rfl
theorem o_intI {i : Int} : OkX (oInt [.int i] h) P X = P (.int i) h := id rfl
theorem o_intB {b : Bool} : OkX (oInt [.bl b] h) P X = P (.int (if b then 1 else 0)) h := id rfl
theorem o_tupT {l : List D} : OkX (oTuple [.tup l] h) P X = P (.tup l) h := id rfl
theorem o_tupL {l : List D} : OkX (oTuple [.lst l] h) P X = P (.tup l) h := id rfl
theorem o_tupR {i : Nat} : OkX (oTuple [.ref i] h) P X = match hl h i with
    | some l => P (.tup l) h
    | none => False := by
  unfold oTuple; simp only [getL]; cases hl h i <;> rfl
theorem o_maxI {i j : Int} : OkX (oMax [.int i, .int j] h) P X = P (.int (max i j)) h := id rfl
theorem o_minI {i j : Int} : OkX (oMin [.int i, .int j] h) P X = P (.int (min i j)) h := id rfl
end
/-! places in rows -/
theorem atI_nat {α : Type} (l : List α) (k : Nat) : atI l (k : Int) = l[k]? := by
  unfold atI ixN
  by_cases e : (k : Int) < (l.length : Int)
  · simp [e]
  · simp only [Int.natCast_nonneg, if_true, e, if_false, Option.bind_none]
    rw [List.getElem?_eq_none (by omega)]
theorem atI_of {α : Type} {l : List α} {i : Int} {k : Nat} (e : i = (k : Int)) : atI l i = l[k]? := by rw [e]; exact atI_nat l k
theorem atI_0 {α : Type} {l : List α} : atI l 0 = l[0]? := atI_nat l 0
theorem atI_1 {α : Type} {l : List α} : atI l 1 = l[1]? := atI_nat l 1
theorem atI_2 {α : Type} {l : List α} : atI l 2 = l[2]? := atI_nat l 2
theorem atI_3 {α : Type} {l : List α} : atI l 3 = l[3]? := atI_nat l 3
theorem ixN_0 {n : Nat} : ixN (n + 1) 0 = some 0 := by
  unfold ixN
  rw [if_pos (by omega), if_pos (by omega)]; rfl
theorem ixN_1 {n : Nat} : ixN (n + 2) 1 = some 1 := by
  unfold ixN
  rw [if_pos (by omega), if_pos (by omega)]; rfl
theorem cut_to {α : Type} (xs : List α) (k : Nat) : cutD xs none (some (k : Int)) = xs.take k := by
  unfold cutD
  rw [HT.sIx_none, HT.sIx_nat]
  simp only [List.drop_zero, Nat.sub_zero]
  rcases Nat.le_total k xs.length with h | h
  · rw [Nat.min_eq_left h]
  · rw [Nat.min_eq_right h, List.take_length, List.take_of_length_le h]
theorem cut_from {α : Type} (xs : List α) (k : Nat) : cutD xs (some (k : Int)) none = xs.drop k := by
  unfold cutD
  rw [HT.sIx_none, HT.sIx_nat]
  rcases Nat.le_total k xs.length with h | h
  · rw [Nat.min_eq_left h]; exact List.take_of_length_le (by rw [List.length_drop]; exact Nat.le_refl _)
  · rw [Nat.min_eq_right h, Nat.sub_self, List.take_zero, List.drop_eq_nil_of_le h]
theorem cut_mid {α : Type} (xs : List α) (i j : Nat) : cutD xs (some (i : Int)) (some (j : Int)) = (xs.drop i).take (j - i) := by
  unfold cutD
  rw [HT.sIx_nat, HT.sIx_nat]
  rcases Nat.le_total i xs.length with h | h
  · rw [Nat.min_eq_left h]
    rcases Nat.le_total j xs.length with h2 | h2
    · rw [Nat.min_eq_left h2]
    · rw [Nat.min_eq_right h2, List.take_of_length_le (by rw [List.length_drop]; exact Nat.le_refl _), List.take_of_length_le (by rw [List.length_drop]; omega)]
  · rw [Nat.min_eq_right h, List.drop_eq_nil_of_le (Nat.le_refl xs.length), List.drop_eq_nil_of_le h]; simp
theorem hl_app {h : List MO} {ds : List D} : hl (h ++ [.lst ds]) h.length = some ds := hl_iff.mpr (by simp)
theorem set_app {h : List MO} {a b : MO} : (h ++ [a]).set h.length b = h ++ [b] := by simp
theorem app_append {es : List D} {d : D} (e : es.length < LINE) : gAppend es [d] = some (.non, es ++ [d]) := by unfold gAppend; simp only [e, if_true]
theorem w_lf_nil {p : Pat} {b : MS} {it : IterD} {ρ : Rho} {h : List MO} {N : Po} : OkS (loopF p b it [] ρ h) N = (ckOk it h = true ∧ N.nx ρ h) := by
  unfold loopF; by_cases e : ckOk it h = true <;> simp [e, OkS]
theorem v_lf_cons {p : Pat} {b : MS} {it : IterD} {d : D} {ds : List D} {ρ : Rho} {h : List MO} {N : Po} : OkS (loopF p b it (d :: ds) ρ h) N = (ckOk it h = true ∧ match bindP p d ρ with
    | some ρ1 => OkS (b ρ1 h) ⟨fun ρ2 h2 => OkS (loopF p b it ds ρ2 h2) N, N.rt, N.nx, fun ρ2 h2 => OkS (loopF p b it ds ρ2 h2) N, N.er⟩
    | none => False) := by
  by_cases e : ckOk it h = true
  · simp only [loopF, e, if_true, true_and]
    cases bindP p d ρ with
    | none => rfl
    | some ρ1 =>
      simp only
      generalize b ρ1 h = r
      cases r <;> rfl
  · simp [loopF, e, OkS]
theorem w_lf_cons {p : Pat} {b : MS} {it : IterD} {d : D} {ds : List D} {ρ : Rho} {h : List MO} {N : Po} : OkS (loopF p b it (d :: ds) ρ h) N = (ckOk it h = true ∧ match bindP p d ρ with
    | some ρ1 => OkS (b ρ1 h) ⟨Kp (fun ρ2 h2 => OkS (loopF p b it ds ρ2 h2) N) .u, N.rt, N.nx, Kp (fun ρ2 h2 => OkS (loopF p b it ds ρ2 h2) N) .u, N.er⟩
    | none => False) := by
  simp only [Kp_eq]; exact v_lf_cons
end MP
end
section
set_option Elab.async false
set_option linter.all false
set_option maxRecDepth 100000
set_option maxHeartbeats 2000000
/-! M27: the helpers of the laws. -/
namespace MP
open PySem PySem.Spec PyProof.Rows L2

/-! ### == of plain data -/
def niceD : Nat → D → Bool
  | _, .non => true
  | _, .int _ => true
  | _, .str l => l.all (· < 1114112)
  | k + 1, .tup ds => ds.all (niceD k)
  | k + 1, .lst ds => ds.all (niceD k)
  | _, _ => false
theorem nice_ps {k : Nat} (ih : ∀ d, niceD k d = true → ∃ p, toP d = some p ∧ p.canLay0 = true ∧ p.depth ≤ k) : ∀ ds : List D, ds.all (niceD k) = true → ∃ ps, toPs ds = some ps ∧ PyData.canLayAll0 ps = true ∧ PyData.depthAll ps ≤ k
  | [], _ => ⟨[], rfl, rfl, Nat.zero_le _⟩
  | d :: ds, h => by
    rw [List.all_cons, Bool.and_eq_true] at h
    obtain ⟨p, e1, e2, e3⟩ := ih d h.1
    obtain ⟨ps, f1, f2, f3⟩ := nice_ps ih ds h.2
    refine ⟨p :: ps, by unfold toPs; rw [e1, f1], by unfold PyData.canLayAll0; rw [e2, f2]; rfl, ?_⟩
    unfold PyData.depthAll; omega
theorem nice_p : ∀ (k : Nat) (d : D), niceD k d = true → ∃ p, toP d = some p ∧ p.canLay0 = true ∧ p.depth ≤ k
  | k, .non, _ => ⟨_, rfl, rfl, Nat.zero_le _⟩
  | k, .int i, _ => ⟨_, rfl, rfl, Nat.zero_le _⟩
  | k, .str l, h => ⟨_, rfl, by
      unfold niceD at h
      unfold PyData.canLay0 PyData.strOk
      simpa using h, Nat.zero_le _⟩
  | k + 1, .tup ds, h => by
    unfold niceD at h
    obtain ⟨ps, e1, e2, e3⟩ := nice_ps (nice_p k) ds h
    exact ⟨.tuple ps, by unfold toP; rw [e1]; rfl, e2, by unfold PyData.depth; omega⟩
  | k + 1, .lst ds, h => by
    unfold niceD at h
    obtain ⟨ps, e1, e2, e3⟩ := nice_ps (nice_p k) ds h
    exact ⟨.list ps, by unfold toP; rw [e1]; rfl, e2, by unfold PyData.depth; omega⟩
  | 0, .tup ds, h => by unfold niceD at h; cases h
  | 0, .lst ds, h => by unfold niceD at h; cases h
  | k, .bl _, h => by unfold niceD at h; cases h
  | k, .ref _, h => by unfold niceD at h; cases h
  | k, .glo _, h => by unfold niceD at h; cases h
  | k, .clo _ _, h => by unfold niceD at h; cases h
theorem nice_evs {k : Nat} (ih : ∀ a b p q, niceD k a = true → niceD k b = true → toP a = some p → toP b = some q → PyData.eqv p q = decide (a = b)) :
    ∀ (as bs : List D) ps qs, as.all (niceD k) = true → bs.all (niceD k) = true → toPs as = some ps → toPs bs = some qs → PyData.eqvAll ps qs = decide (as = bs)
  | [], [], ps, qs, _, _, e1, e2 => by cases e1; cases e2; rfl
  | [], b :: bs, ps, qs, _, hb, e1, e2 => by
    cases e1
    rw [List.all_cons, Bool.and_eq_true] at hb
    obtain ⟨q, f1, _, _⟩ := nice_p k b hb.1
    obtain ⟨r, f2, _, _⟩ := nice_ps (nice_p k) bs hb.2
    unfold toPs at e2; rw [f1, f2] at e2; cases e2; rfl
  | a :: as, [], ps, qs, hb, _, e2, e1 => by
    cases e1
    rw [List.all_cons, Bool.and_eq_true] at hb
    obtain ⟨q, f1, _, _⟩ := nice_p k a hb.1
    obtain ⟨r, f2, _, _⟩ := nice_ps (nice_p k) as hb.2
    unfold toPs at e2; rw [f1, f2] at e2; cases e2; rfl
  | a :: as, b :: bs, ps, qs, ha, hb, e1, e2 => by
    rw [List.all_cons, Bool.and_eq_true] at ha hb
    obtain ⟨p, f1, _, _⟩ := nice_p k a ha.1
    obtain ⟨r, f2, _, _⟩ := nice_ps (nice_p k) as ha.2
    obtain ⟨q, g1, _, _⟩ := nice_p k b hb.1
    obtain ⟨t, g2, _, _⟩ := nice_ps (nice_p k) bs hb.2
    unfold toPs at e1 e2; rw [f1, f2] at e1; rw [g1, g2] at e2; cases e1; cases e2
    have h1 := ih a b p q ha.1 hb.1 f1 g1
    have h2 := nice_evs ih as bs r t ha.2 hb.2 f2 g2
    unfold PyData.eqvAll; rw [h1, h2]
    by_cases c1 : a = b <;> by_cases c2 : as = bs <;> simp [c1, c2]
theorem S_beq (a b : List Nat) : (S a == S b) = decide (a = b) := by
  by_cases e : a = b
  · subst e; simp
  · have : S a ≠ S b := fun z => e (S_inj z)
    simp [e, this]
theorem nice_ev : ∀ (k : Nat) (a b : D) p q, niceD k a = true → niceD k b = true → toP a = some p → toP b = some q → PyData.eqv p q = decide (a = b) := by
  intro k
  induction k with
  | zero =>
    intro a b p q ha hb e1 e2
    cases a <;> simp [niceD] at ha <;> cases b <;> simp [niceD] at hb <;> cases e1 <;> cases e2 <;> first | rfl | (unfold PyData.eqv; rw [S_beq]; simp; done) | (unfold PyData.eqv; simp; done) | (unfold PyData.eqv; simp; exact rfl) | skip
  | succ k ih =>
    intro a b p q ha hb e1 e2
    have hT : ∀ {ds : List D} {p : PyData}, toP (.tup ds) = some p → ∃ ps, toPs ds = some ps ∧ p = .tuple ps := fun {ds p} e => by
      unfold toP at e
      cases f : toPs ds with
      | none => rw [f] at e; cases e
      | some ps => rw [f] at e; cases e; exact ⟨ps, rfl, rfl⟩
    have hL : ∀ {ds : List D} {p : PyData}, toP (.lst ds) = some p → ∃ ps, toPs ds = some ps ∧ p = .list ps := fun {ds p} e => by
      unfold toP at e
      cases f : toPs ds with
      | none => rw [f] at e; cases e
      | some ps => rw [f] at e; cases e; exact ⟨ps, rfl, rfl⟩
    cases a with
    | tup as =>
      obtain ⟨ps, f1, rfl⟩ := hT e1
      cases b with
      | tup bs =>
        obtain ⟨qs, f2, rfl⟩ := hT e2
        unfold PyData.eqv
        rw [nice_evs ih as bs ps qs (by simpa [niceD] using ha) (by simpa [niceD] using hb) f1 f2]
        simp
      | lst bs => obtain ⟨qs, f2, rfl⟩ := hL e2; unfold PyData.eqv; simp
      | non => cases e2; unfold PyData.eqv; simp
      | int _ => cases e2; unfold PyData.eqv; simp
      | str _ => cases e2; unfold PyData.eqv; simp
      | _ => simp [niceD] at hb
    | lst as =>
      obtain ⟨ps, f1, rfl⟩ := hL e1
      cases b with
      | lst bs =>
        obtain ⟨qs, f2, rfl⟩ := hL e2
        unfold PyData.eqv
        rw [nice_evs ih as bs ps qs (by simpa [niceD] using ha) (by simpa [niceD] using hb) f1 f2]
        simp
      | tup bs => obtain ⟨qs, f2, rfl⟩ := hT e2; unfold PyData.eqv; simp
      | non => cases e2; unfold PyData.eqv; simp
      | int _ => cases e2; unfold PyData.eqv; simp
      | str _ => cases e2; unfold PyData.eqv; simp
      | _ => simp [niceD] at hb
    | non =>
      cases e1
      cases b with
      | tup bs => obtain ⟨qs, f2, rfl⟩ := hT e2; unfold PyData.eqv; simp
      | lst bs => obtain ⟨qs, f2, rfl⟩ := hL e2; unfold PyData.eqv; simp
      | non => cases e2; unfold PyData.eqv; simp
      | int _ => cases e2; unfold PyData.eqv; simp
      | str _ => cases e2; unfold PyData.eqv; simp
      | _ => simp [niceD] at hb
    | int i =>
      cases e1
      cases b with
      | tup bs => obtain ⟨qs, f2, rfl⟩ := hT e2; unfold PyData.eqv; simp
      | lst bs => obtain ⟨qs, f2, rfl⟩ := hL e2; unfold PyData.eqv; simp
      | non => cases e2; unfold PyData.eqv; simp
      | int j => cases e2; unfold PyData.eqv; by_cases c : i = j <;> simp [c]
      | str _ => cases e2; unfold PyData.eqv; simp
      | _ => simp [niceD] at hb
    | str l =>
      cases e1
      cases b with
      | tup bs => obtain ⟨qs, f2, rfl⟩ := hT e2; unfold PyData.eqv; simp
      | lst bs => obtain ⟨qs, f2, rfl⟩ := hL e2; unfold PyData.eqv; simp
      | non => cases e2; unfold PyData.eqv; simp
      | int j => cases e2; unfold PyData.eqv; simp
      | str _ => cases e2; unfold PyData.eqv; rw [S_beq]; simp
      | _ => simp [niceD] at hb
    | _ => simp [niceD] at ha
theorem nice_nf {k : Nat} {d : D} (h : List MO) (n : niceD k d = true) : nf h d = d := by
  cases d with
  | ref _ => unfold niceD at n; cases n
  | _ => rfl
theorem eqD_nice {k : Nat} {a b : D} {h : List MO} (ha : niceD k a = true) (hb : niceD k b = true) (hk : k ≤ 64 := by decide) : eqD h a b = some (decide (a = b)) := by
  unfold eqD
  split
  · rfl
  · rw [nice_nf h ha, nice_nf h hb]
    obtain ⟨p, e1, e2, e3⟩ := nice_p k a ha
    obtain ⟨q, f1, f2, f3⟩ := nice_p k b hb
    rw [e1, f1]
    have s1 : SeqAt.shaped p = true := by unfold SeqAt.shaped; rw [e2]; simp; omega
    have s2 : SeqAt.shaped q = true := by unfold SeqAt.shaped; rw [f2]; simp; omega
    simp only [s1, s2, Bool.and_self, if_true]
    rw [nice_ev k a b p q ha hb e1 f1]
theorem nice_ints {k : Nat} (l : List Int) : niceD (k + 1) (.lst (l.map .int)) = true := by
  unfold niceD; rw [List.all_map]; exact List.all_eq_true.mpr fun _ _ => by cases k <;> rfl

/-! ### the box of draws -/
def bTake : MS := (sSeq (sIf (xTest (xOp2 oNe (xOp2 oIx (xVar 0) (xC (.int 0))) (xLst aNil))) (sSeq (sSet 2 (xOp2 oIx (xOp2 oIx (xVar 0) (xC (.int 0))) (xC (.int 0)))) (sSeq (sSub (xOp2 oAdd (xIf (xTest (xOp2 oGe (xVar 2) (xVar 1))) (xLst (aCons (xOp2 oFdiv (xVar 2) (xVar 1)) aNil)) (xLst aNil)) (xSl (xOp2 oIx (xVar 0) (xC (.int 0))) (some (xC (.int 1))) none)) (xVar 0) (xC (.int 0))) (sSeq (sRet (xOp2 oMod (xCB oInt (aCons (xVar 2) aNil)) (xVar 1))) sNil))) sNil) (sSeq (sSub (xOp2 oMod (xCB oInt (aCons (xOp2 oMul (xOp2 oIx (xVar 0) (xC (.int 1))) (xC (.int 48271))) aNil)) (xC (.int 2147483647))) (xVar 0) (xC (.int 1))) (sSeq (sRet (xOp2 oMod (xCB oInt (aCons (xOp2 oFdiv (xOp2 oAdd (xOp2 oMul (xOp2 oIx (xVar 0) (xC (.int 1))) (xC (.int 69621))) (xC (.int 7))) (xC (.int 1013))) aNil)) (xVar 1))) sNil)))
def bPick : MS := (sSeq (sRet (xOp2 oIx (xVar 1) (xCall (runF 3 bTake) [] (aCons (xVar 0) (aCons (xCB oLen (aCons (xVar 1) aNil)) aNil))))) sNil)
def bBoxP (s0 c0 : Int) : MS := (sSeq (sPar 1 2 (aCons (xNew aNil) (aCons (xC (.int s0)) aNil))) (sSeq (sFor (xEnum (aCons (xSl (xVar 0) none (some (xC (.int 63)))) aNil)) (.tp [(.nm 3), (.nm 4)]) (sSeq (sSet 5 (xOp2 oAdd (xOp2 oMul (xCB oAbs (aCons (xVar 4) aNil)) (xC (.int 2))) (xCB oInt (aCons (xOp2 oLt (xVar 4) (xC (.int 0))) aNil)))) (sSeq (sIf (xTest (xOp2 oGe (xCB oAbs (aCons (xVar 4) aNil)) (xOp2 oPow (xC (.int 10)) (xC (.int 18))))) (sSeq (sExpr (xMt gAppend (xVar 1) (aCons (xCB oAbs (aCons (xVar 4) aNil)) aNil))) sNil) sNil) (sSeq (sSet 2 (xOp2 oAdd (xOp2 oMod (xCB oInt (aCons (xOp2 oAdd (xOp2 oAdd (xOp2 oMul (xVar 2) (xC (.int 48271))) (xOp2 oMul (xOp2 oMod (xCB oInt (aCons (xVar 5) aNil)) (xC (.int 2147483629))) (xOp2 oAdd (xOp2 oMul (xC (.int 2)) (xVar 3)) (xC (.int c0))))) (xC (.int 17))) aNil)) (xC (.int 2147483629))) (xC (.int 1)))) sNil)))) (sSeq (sRet (xNew (aCons (xVar 1) (aCons (xVar 2) aNil)))) sNil)))
abbrev bBox : MS := bBoxP 20887 50021
def bIs (rec_ : MF) : MS := (sSeq (sIf (xTru (xIsi ["tuple"] (xVar 1))) (sSeq (sIf (xOr (xNot (xTru (xIsi ["tuple"] (xVar 0)))) (xTest (xOp2 oNe (xCB oLen (aCons (xVar 0) aNil)) (xCB oLen (aCons (xVar 1) aNil))))) (sSeq (sRet (xC (.bl false))) sNil) sNil) (sSeq (sRet (xOp2 oEq (xLc (xZip (aCons (xVar 0) (aCons (xVar 1) aNil))) (.tp [(.nm 2), (.nm 3)]) (xNot (xTru (xCall rec_ [] (aCons (xVar 2) (aCons (xVar 3) aNil))))) (xC (.int 1)) [2, 3]) (xLst aNil))) sNil)) sNil) (sSeq (sIf (xOr (xTest (xOp2 oIs (xVar 1) (xC .non))) (xOr (xTest (xOp2 oIs (xVar 1) (xC (.bl true)))) (xTest (xOp2 oIs (xVar 1) (xC (.bl false)))))) (sSeq (sRet (xIf (xTest (xOp2 oIs (xVar 1) (xC .non))) (xOp2 oIs (xVar 0) (xC .non)) (xIf (xTest (xOp2 oIs (xVar 1) (xC (.bl true)))) (xOp2 oIs (xVar 0) (xC (.bl true))) (xOp2 oIs (xVar 0) (xC (.bl false)))))) sNil) sNil) (sSeq (sIf (xTru (xIsi ["int"] (xVar 1))) (sSeq (sRet (xAndV (xIsi ["int"] (xVar 0)) (xAndV (xNotV (xIsi ["bool"] (xVar 0))) (xOp2 oEq (xVar 0) (xVar 1))))) sNil) sNil) (sSeq (sRet (xAndV (xIsi ["str"] (xVar 1)) (xAndV (xIsi ["str"] (xVar 0)) (xOp2 oEq (xVar 0) (xVar 1))))) sNil))))

theorem hl_some {h : List MO} {i : Nat} {ds : List D} (e : hl h i = some ds) : i < h.length := by
  have := hl_iff.mp e
  exact (List.getElem?_eq_some_iff.mp this).1
theorem hl_set {h : List MO} {i : Nat} {ds : List D} (l : i < h.length) : hl (h.set i (.lst ds)) i = some ds := hl_iff.mpr (by simp [l])
theorem hl_ne {h : List MO} {i j : Nat} {o : MO} (n : i ≠ j) : hl (h.set i o) j = hl h j := by
  unfold hl; rw [List.getElem?_set_ne n]
/-- where the great cells stand: a list by itself, or the first list, ahead of the box -/
def CellsAt (h : List MO) (b : Nat) (c : D) (cells : List Int) : Prop := c = .lst (cells.map .int) ∨ ∃ r, r < b ∧ c = .ref r ∧ hl h r = some (cells.map .int)
/-- a box: great cells, a state -/
structure BoxIs (h : List MO) (b : Nat) (cells : List Int) (st : Int) : Prop where
  at_ : ∃ c, hl h b = some [c, .int st] ∧ CellsAt h b c cells
  pos : ∀ c ∈ cells, 0 ≤ c
  few : cells.length ≤ 63
  st0 : 0 ≤ st
  st1 : st < 2147483648
def Box (h : List MO) (b : Nat) : Prop := ∃ cells st, BoxIs h b cells st
/-- but for the box all stays -/
structure Bx (b : Nat) (h h' : List MO) : Prop where
  len : h'.length = h.length
  off : ∀ i, i ≠ b → h'[i]? = h[i]?
  box : Box h' b
theorem Bx.refl {b : Nat} {h : List MO} (x : Box h b) : Bx b h h := ⟨rfl, fun _ _ => rfl, x⟩
theorem Bx.trans {b : Nat} {h h1 h2 : List MO} (x : Bx b h h1) (y : Bx b h1 h2) : Bx b h h2 := ⟨y.len.trans x.len, fun i n => (y.off i n).trans (x.off i n), y.box⟩
theorem Bx.hl {b : Nat} {h h' : List MO} (x : Bx b h h') {i : Nat} (n : i ≠ b) : MP.hl h' i = MP.hl h i := by unfold MP.hl; rw [x.off i n]
theorem Box.keep {b : Nat} {h h' : List MO} (x : Box h b) (e : ∀ i, i ≤ b → h'[i]? = h[i]?) : Box h' b := by
  obtain ⟨cells, st, ⟨c, e1, e2⟩, a1, a2, a3, a4⟩ := x
  refine ⟨cells, st, ⟨c, by unfold hl; rw [e b (Nat.le_refl _)]; exact e1, ?_⟩, a1, a2, a3, a4⟩
  rcases e2 with e2 | ⟨r, h1, h2, h3⟩
  · exact .inl e2
  · exact .inr ⟨r, h1, h2, by unfold hl; rw [e r (Nat.le_of_lt h1)]; exact h3⟩
theorem Box.app {b : Nat} {h l : List MO} (x : Box h b) : Box (h ++ l) b := x.keep fun i hi => by
  obtain ⟨cells, st, ⟨c, e1, e2⟩, _⟩ := x
  exact List.getElem?_append_left (Nat.lt_of_le_of_lt hi (hl_some e1))
theorem Box.set {b i : Nat} {h : List MO} {o : MO} (x : Box h b) (n : b < i) : Box (h.set i o) b := x.keep fun j hj => List.getElem?_set_ne (by omega)
theorem Box.lt {b : Nat} {h : List MO} (x : Box h b) : b < h.length := by
  obtain ⟨cells, st, ⟨c, e1, e2⟩, _⟩ := x
  exact hl_some e1
theorem mulOk_of {i j : Int} (a b : Nat) (ha : i.natAbs < 2 ^ a) (hb : j.natAbs < 2 ^ b) (h : a + b ≤ 134217728 := by decide) : mulOk i j := mulx_ok ha hb h
theorem take_ok {h : List MO} {b : Nat} {n : Int} {P : D → List MO → Prop} {X : Ex → List MO → Prop} (x : Box h b) (h0 : 0 < n) (h1 : n.natAbs.log2 < 9000)
    (q : ∀ k h', 0 ≤ k → k < n → Bx b h h' → P (.int k) h') : OkX (runF 3 bTake [.ref b, .int n] h) P X := by
  obtain ⟨cells, st, ⟨c0, e, ca⟩, hp, hf, hs0, hs1⟩ := x
  have hb := hl_some e
  have eqn : eqD h c0 (.lst []) = some (decide (D.lst (cells.map .int) = .lst [])) := by
    rcases ca with rfl | ⟨r, hr, rfl, er⟩
    · exact eqD_nice (k := 1) (nice_ints cells) (show niceD 1 (.lst []) = true from rfl)
    · have : eqD h (.ref r) (.lst []) = eqD h (.lst (cells.map .int)) (.lst []) := by
        show (match toP (nf h (.ref r)), toP (nf h (.lst [])) with | some p, some q => _ | _, _ => none) = (match toP (nf h (.lst (cells.map .int))), toP (nf h (.lst [])) with | some p, some q => _ | _, _ => none)
        have : nf h (.ref r) = nf h (.lst (cells.map .int)) := by simp only [nf, er]
        rw [this]
      rw [this]
      exact eqD_nice (k := 1) (nice_ints cells) (show niceD 1 (.lst []) = true from rfl)
  have ixn : ∀ (i : Int) (P : D → List MO → Prop) (X : Ex → List MO → Prop), OkX (oIx c0 (.int i) h) P X = match atI (cells.map D.int) i with
      | some c => P c h
      | none => False := fun i P X => by
    rcases ca with rfl | ⟨r, hr, rfl, er⟩
    · exact o_ixL
    · rw [o_ixR]; simp only [er]; try (cases atI (cells.map D.int) i <;> rfl)
  have sln : ∀ (i j : Option Int) (P : D → List MO → Prop) (X : Ex → List MO → Prop), OkX (oSl c0 i j h) P X = P (.lst (cutD (cells.map D.int) i j)) h := fun i j P X => by
    rcases ca with rfl | ⟨r, hr, rfl, er⟩
    · exact o_slL
    · rw [o_slR]; simp only [er]
  have hn := h1
  have hne : ∀ {c : List Int}, ((D.lst (c.map .int) = .lst []) ↔ c = []) := fun {c} => by simp
  rw [w_run]
  unfold bTake
  simp (dsimp := false) only [e, o_neD, eqn, ↓Kp_app, ↓w_seq, ↓w_sNil, ↓w_set, ↓w_ret, ↓w_retN, ↓w_sIf, ↓w_expr, ↓w_par, ↓w_par3, ↓w_asg, ↓w_aug, ↓w_sub, ↓w_for, ↓w_raise, ↓w_break, ↓w_cont, ↓w_op2, ↓w_op1, ↓w_cb, ↓w_c, ↓w_var, ↓w_nil, ↓w_cons, ↓w_tup, ↓w_lst, ↓w_new, ↓w_if, ↓w_test, ↓w_tru, ↓w_not, ↓w_and, ↓w_or, ↓w_andV, ↓w_orV, ↓w_notV, ↓w_chain, ↓w_call, ↓w_callK, ↓w_sl, ↓w_part0, ↓w_part1, ↓w_isi, ↓w_join, ↓w_mt, ↓w_lc, ↓w_lcN, ↓w_lcA, ↓w_it, ↓w_range1, ↓w_range2, ↓w_enum, ↓w_enumS, ↓w_zip,   OkX_ok, OkX_err, OkX_stuck, OkX_guard, o_addS, o_addT, o_addLL, o_addRL, o_addII, o_subI, o_mulI, o_mulS, o_fdivI, o_modI, o_powI, o_negI, o_ltI, o_leI, o_gtI, o_geI, o_ltS, o_leS, o_gtS, o_geS, o_eqI, o_eqS, o_neI, o_neS, o_isD, o_isnotD, o_inS, o_ixS, o_ixT, o_ixL, o_ixR, o_slS, o_slT, o_slL, o_slR, o_lenS, o_lenT, o_lenL, o_lenR, o_absI, o_intI, o_intB, o_tupT, o_tupL, o_tupR, o_maxI, o_minI,   List.set_cons_zero, List.set_cons_succ, List.getElem?_cons_zero, List.getElem?_cons_succ, List.map_cons, List.map_nil, List.length_cons, List.length_nil, List.replicate_succ, List.replicate_zero, List.cons_append, List.nil_append, Nat.reduceSub, Nat.reduceAdd, Nat.reduceLeDiff, exists_eq_left', D.bl.injEq, D.int.injEq, D.str.injEq, D.ref.injEq, D.tup.injEq, true_and, and_true, if_true, if_false, Bool.false_eq_true, Bool.not_true, Bool.not_false, decide_true, decide_false, bindP, bindPs, isK, atI_0, atI_1, atI_2, atI_3, ixN_0, ixN_1, Nat.zero_add, LINE, Nat.zero_le, truD, wipeD, Option.some.injEq]
  cases cells with
  | nil =>
    simp only [List.map_nil, decide_true, Bool.not_true, Bool.false_eq_true, if_false]
    have hm := Int.fmod_eq_emod_of_nonneg (a := st * 48271) (b := 2147483647) (by omega)
    have hl1 : hl (h.set b (.lst [c0, .int ((st * 48271).fmod 2147483647)])) b = some [c0, .int ((st * 48271).fmod 2147483647)] := hl_set hb
    simp (dsimp := false) only [e, hl1, ↓Kp_app, ↓w_seq, ↓w_sNil, ↓w_set, ↓w_ret, ↓w_retN, ↓w_sIf, ↓w_expr, ↓w_par, ↓w_par3, ↓w_asg, ↓w_aug, ↓w_sub, ↓w_for, ↓w_raise, ↓w_break, ↓w_cont, ↓w_op2, ↓w_op1, ↓w_cb, ↓w_c, ↓w_var, ↓w_nil, ↓w_cons, ↓w_tup, ↓w_lst, ↓w_new, ↓w_if, ↓w_test, ↓w_tru, ↓w_not, ↓w_and, ↓w_or, ↓w_andV, ↓w_orV, ↓w_notV, ↓w_chain, ↓w_call, ↓w_callK, ↓w_sl, ↓w_part0, ↓w_part1, ↓w_isi, ↓w_join, ↓w_mt, ↓w_lc, ↓w_lcN, ↓w_lcA, ↓w_it, ↓w_range1, ↓w_range2, ↓w_enum, ↓w_enumS, ↓w_zip,   OkX_ok, OkX_err, OkX_stuck, OkX_guard, o_addS, o_addT, o_addLL, o_addRL, o_addII, o_subI, o_mulI, o_mulS, o_fdivI, o_modI, o_powI, o_negI, o_ltI, o_leI, o_gtI, o_geI, o_ltS, o_leS, o_gtS, o_geS, o_eqI, o_eqS, o_neI, o_neS, o_isD, o_isnotD, o_inS, o_ixS, o_ixT, o_ixL, o_ixR, o_slS, o_slT, o_slL, o_slR, o_lenS, o_lenT, o_lenL, o_lenR, o_absI, o_intI, o_intB, o_tupT, o_tupL, o_tupR, o_maxI, o_minI,   List.set_cons_zero, List.set_cons_succ, List.getElem?_cons_zero, List.getElem?_cons_succ, List.map_cons, List.map_nil, List.length_cons, List.length_nil, List.replicate_succ, List.replicate_zero, List.cons_append, List.nil_append, Nat.reduceSub, Nat.reduceAdd, Nat.reduceLeDiff, exists_eq_left', D.bl.injEq, D.int.injEq, D.str.injEq, D.ref.injEq, D.tup.injEq, true_and, and_true, if_true, if_false, Bool.false_eq_true, Bool.not_true, Bool.not_false, decide_true, decide_false, bindP, bindPs, isK, atI_0, atI_1, atI_2, atI_3, ixN_0, ixN_1, Nat.zero_add, LINE, Nat.zero_le, truD, wipeD, Option.some.injEq]
    have m1 : mulOk st 48271 := mulOk_of 40 40 (by omega) (by omega)
    rw [hm] at *
    have r0 := Int.emod_nonneg (st * 48271) (show (2147483647 : Int) ≠ 0 by omega)
    have r1 := Int.emod_lt_of_pos (st * 48271) (show (0 : Int) < 2147483647 by omega)
    have m2 : mulOk (st * 48271 % 2147483647) 69621 := mulOk_of 40 40 (by omega) (by omega)
    refine ⟨m1, by omega, m2, ⟨by omega, by decide +kernel⟩, by omega, ?_⟩
    rw [Int.fmod_eq_emod_of_nonneg _ (by omega)]
    refine q _ _ (Int.emod_nonneg _ (by omega)) (Int.emod_lt_of_pos _ h0) ⟨by simp, fun i hi => List.getElem?_set_ne (Ne.symm hi), [], _, ⟨c0, hl1, ?_⟩, fun c m => (nomatch m), by decide, r0, by omega⟩
    rcases ca with ca | ⟨r, hr, h2, h3⟩
    · exact .inl ca
    · exact .inr ⟨r, hr, h2, by rw [hl_ne (by omega)]; exact h3⟩
  | cons c cs =>
    have c0 : 0 ≤ c := hp c List.mem_cons_self
    have e0 : decide ((D.lst ((c :: cs).map .int)) = .lst []) = false := by simp
    simp only [e0, Bool.not_false, if_true]
    simp (dsimp := false) only [e, ixn, sln, ↓Kp_app, ↓w_seq, ↓w_sNil, ↓w_set, ↓w_ret, ↓w_retN, ↓w_sIf, ↓w_expr, ↓w_par, ↓w_par3, ↓w_asg, ↓w_aug, ↓w_sub, ↓w_for, ↓w_raise, ↓w_break, ↓w_cont, ↓w_op2, ↓w_op1, ↓w_cb, ↓w_c, ↓w_var, ↓w_nil, ↓w_cons, ↓w_tup, ↓w_lst, ↓w_new, ↓w_if, ↓w_test, ↓w_tru, ↓w_not, ↓w_and, ↓w_or, ↓w_andV, ↓w_orV, ↓w_notV, ↓w_chain, ↓w_call, ↓w_callK, ↓w_sl, ↓w_part0, ↓w_part1, ↓w_isi, ↓w_join, ↓w_mt, ↓w_lc, ↓w_lcN, ↓w_lcA, ↓w_it, ↓w_range1, ↓w_range2, ↓w_enum, ↓w_enumS, ↓w_zip,   OkX_ok, OkX_err, OkX_stuck, OkX_guard, o_addS, o_addT, o_addLL, o_addRL, o_addII, o_subI, o_mulI, o_mulS, o_fdivI, o_modI, o_powI, o_negI, o_ltI, o_leI, o_gtI, o_geI, o_ltS, o_leS, o_gtS, o_geS, o_eqI, o_eqS, o_neI, o_neS, o_isD, o_isnotD, o_inS, o_ixS, o_ixT, o_ixL, o_ixR, o_slS, o_slT, o_slL, o_slR, o_lenS, o_lenT, o_lenL, o_lenR, o_absI, o_intI, o_intB, o_tupT, o_tupL, o_tupR, o_maxI, o_minI,   List.set_cons_zero, List.set_cons_succ, List.getElem?_cons_zero, List.getElem?_cons_succ, List.map_cons, List.map_nil, List.length_cons, List.length_nil, List.replicate_succ, List.replicate_zero, List.cons_append, List.nil_append, Nat.reduceSub, Nat.reduceAdd, Nat.reduceLeDiff, exists_eq_left', D.bl.injEq, D.int.injEq, D.str.injEq, D.ref.injEq, D.tup.injEq, true_and, and_true, if_true, if_false, Bool.false_eq_true, Bool.not_true, Bool.not_false, decide_true, decide_false, bindP, bindPs, isK, atI_0, atI_1, atI_2, atI_3, ixN_0, ixN_1, Nat.zero_add, LINE, Nat.zero_le, truD, wipeD, Option.some.injEq]
    have cf := cut_from (D.int c :: cs.map .int) 1
    rw [show ((1 : Nat) : Int) = 1 from rfl] at cf
    have fl : ∀ l : List Int, (∀ c ∈ l, 0 ≤ c) → l.length ≤ 63 → Bx b h (h.set b (.lst [.lst (l.map .int), .int st])) := fun l h1 h2 => ⟨by simp, fun i hi => List.getElem?_set_ne (Ne.symm hi), l, st, ⟨_, hl_set hb, .inl rfl⟩, h1, h2, hs0, hs1⟩
    have last : ∀ h', Bx b h h' → P (.int (c.fmod n)) h' := fun h' x => by
      rw [Int.fmod_eq_emod_of_nonneg _ (by omega)]
      exact q _ _ (Int.emod_nonneg _ (by omega)) (Int.emod_lt_of_pos _ h0) x
    have hcs : ∀ c ∈ cs, 0 ≤ c := fun d m => hp d (List.mem_cons_of_mem _ m)
    have hlen : cs.length ≤ 62 := by simp at hf; omega
    by_cases g : n ≤ c
    · simp only [g, decide_true, if_true]
      simp (dsimp := false) only [e, cf, ixn, sln, ↓Kp_app, ↓w_seq, ↓w_sNil, ↓w_set, ↓w_ret, ↓w_retN, ↓w_sIf, ↓w_expr, ↓w_par, ↓w_par3, ↓w_asg, ↓w_aug, ↓w_sub, ↓w_for, ↓w_raise, ↓w_break, ↓w_cont, ↓w_op2, ↓w_op1, ↓w_cb, ↓w_c, ↓w_var, ↓w_nil, ↓w_cons, ↓w_tup, ↓w_lst, ↓w_new, ↓w_if, ↓w_test, ↓w_tru, ↓w_not, ↓w_and, ↓w_or, ↓w_andV, ↓w_orV, ↓w_notV, ↓w_chain, ↓w_call, ↓w_callK, ↓w_sl, ↓w_part0, ↓w_part1, ↓w_isi, ↓w_join, ↓w_mt, ↓w_lc, ↓w_lcN, ↓w_lcA, ↓w_it, ↓w_range1, ↓w_range2, ↓w_enum, ↓w_enumS, ↓w_zip,   OkX_ok, OkX_err, OkX_stuck, OkX_guard, o_addS, o_addT, o_addLL, o_addRL, o_addII, o_subI, o_mulI, o_mulS, o_fdivI, o_modI, o_powI, o_negI, o_ltI, o_leI, o_gtI, o_geI, o_ltS, o_leS, o_gtS, o_geS, o_eqI, o_eqS, o_neI, o_neS, o_isD, o_isnotD, o_inS, o_ixS, o_ixT, o_ixL, o_ixR, o_slS, o_slT, o_slL, o_slR, o_lenS, o_lenT, o_lenL, o_lenR, o_absI, o_intI, o_intB, o_tupT, o_tupL, o_tupR, o_maxI, o_minI,   List.set_cons_zero, List.set_cons_succ, List.getElem?_cons_zero, List.getElem?_cons_succ, List.map_cons, List.map_nil, List.length_cons, List.length_nil, List.replicate_succ, List.replicate_zero, List.cons_append, List.nil_append, Nat.reduceSub, Nat.reduceAdd, Nat.reduceLeDiff, exists_eq_left', D.bl.injEq, D.int.injEq, D.str.injEq, D.ref.injEq, D.tup.injEq, true_and, and_true, if_true, if_false, Bool.false_eq_true, Bool.not_true, Bool.not_false, decide_true, decide_false, bindP, bindPs, isK, atI_0, atI_1, atI_2, atI_3, ixN_0, ixN_1, Nat.zero_add, LINE, Nat.zero_le, truD, wipeD, Option.some.injEq]
      simp only [List.drop_succ_cons, List.drop_zero]
      refine ⟨⟨by omega, hn⟩, by simp; omega, by omega, ?_⟩
      rw [Int.fdiv_eq_ediv_of_nonneg _ (by omega)]
      refine last _ (fl (c / n :: cs) (fun d m => ?_) (by simp; omega))
      rcases List.mem_cons.mp m with rfl | m
      · exact Int.ediv_nonneg c0 (by omega)
      · exact hcs d m
    · simp only [g, decide_false, Bool.false_eq_true, if_false]
      simp (dsimp := false) only [e, cf, ixn, sln, ↓Kp_app, ↓w_seq, ↓w_sNil, ↓w_set, ↓w_ret, ↓w_retN, ↓w_sIf, ↓w_expr, ↓w_par, ↓w_par3, ↓w_asg, ↓w_aug, ↓w_sub, ↓w_for, ↓w_raise, ↓w_break, ↓w_cont, ↓w_op2, ↓w_op1, ↓w_cb, ↓w_c, ↓w_var, ↓w_nil, ↓w_cons, ↓w_tup, ↓w_lst, ↓w_new, ↓w_if, ↓w_test, ↓w_tru, ↓w_not, ↓w_and, ↓w_or, ↓w_andV, ↓w_orV, ↓w_notV, ↓w_chain, ↓w_call, ↓w_callK, ↓w_sl, ↓w_part0, ↓w_part1, ↓w_isi, ↓w_join, ↓w_mt, ↓w_lc, ↓w_lcN, ↓w_lcA, ↓w_it, ↓w_range1, ↓w_range2, ↓w_enum, ↓w_enumS, ↓w_zip,   OkX_ok, OkX_err, OkX_stuck, OkX_guard, o_addS, o_addT, o_addLL, o_addRL, o_addII, o_subI, o_mulI, o_mulS, o_fdivI, o_modI, o_powI, o_negI, o_ltI, o_leI, o_gtI, o_geI, o_ltS, o_leS, o_gtS, o_geS, o_eqI, o_eqS, o_neI, o_neS, o_isD, o_isnotD, o_inS, o_ixS, o_ixT, o_ixL, o_ixR, o_slS, o_slT, o_slL, o_slR, o_lenS, o_lenT, o_lenL, o_lenR, o_absI, o_intI, o_intB, o_tupT, o_tupL, o_tupR, o_maxI, o_minI,   List.set_cons_zero, List.set_cons_succ, List.getElem?_cons_zero, List.getElem?_cons_succ, List.map_cons, List.map_nil, List.length_cons, List.length_nil, List.replicate_succ, List.replicate_zero, List.cons_append, List.nil_append, Nat.reduceSub, Nat.reduceAdd, Nat.reduceLeDiff, exists_eq_left', D.bl.injEq, D.int.injEq, D.str.injEq, D.ref.injEq, D.tup.injEq, true_and, and_true, if_true, if_false, Bool.false_eq_true, Bool.not_true, Bool.not_false, decide_true, decide_false, bindP, bindPs, isK, atI_0, atI_1, atI_2, atI_3, ixN_0, ixN_1, Nat.zero_add, LINE, Nat.zero_le, truD, wipeD, Option.some.injEq]
      simp only [List.drop_succ_cons, List.drop_zero]
      refine ⟨by simp; omega, by omega, last _ (fl cs hcs (by omega))⟩
end MP
end
section
set_option Elab.async false
set_option linter.all false
set_option maxRecDepth 100000
set_option maxHeartbeats 2000000
/-! M28: pick, is, error. -/
namespace MP
open PySem PySem.Spec PyProof.Rows L2
section
variable {ds : List D} {i : Int} {l : List Nat} {b : Bool}
theorem isi_tt : isiD ["tuple"] (.tup ds) = some true := by rfl
theorem isi_ti : isiD ["tuple"] (.int i) = some false := by rfl
theorem isi_ts : isiD ["tuple"] (.str l) = some false := by rfl
theorem isi_tb : isiD ["tuple"] (.bl b) = some false := by rfl
theorem isi_tn : isiD ["tuple"] .non = some false := by rfl
theorem isi_tl : isiD ["tuple"] (.lst ds) = some false := by rfl
theorem isi_ii : isiD ["int"] (.int i) = some true := by rfl
theorem isi_is : isiD ["int"] (.str l) = some false := by rfl
theorem isi_it : isiD ["int"] (.tup ds) = some false := by rfl
theorem isi_il : isiD ["int"] (.lst ds) = some false := by rfl
theorem isi_ib : isiD ["int"] (.bl b) = some true := by rfl
theorem isi_in : isiD ["int"] .non = some false := by rfl
theorem isi_bi : isiD ["bool"] (.int i) = some false := by rfl
theorem isi_bb : isiD ["bool"] (.bl b) = some true := by rfl
theorem isi_ss : isiD ["str"] (.str l) = some true := by rfl
theorem isi_si : isiD ["str"] (.int i) = some false := by rfl
theorem isi_sb : isiD ["str"] (.bl b) = some false := by rfl
theorem isi_sn : isiD ["str"] .non = some false := by rfl
theorem isi_st : isiD ["str"] (.tup ds) = some false := by rfl
theorem isi_sl : isiD ["str"] (.lst ds) = some false := by rfl
end
theorem zip_self : ∀ ds : List D, zipD ds ds = ds.map fun d => .tup [d, d]
  | [] => rfl
  | d :: ds => by unfold zipD; rw [zip_self ds]; rfl
def sameD : Nat → D → Bool
  | _, .non => true
  | _, .bl _ => true
  | _, .int _ => true
  | _, .str _ => true
  | k + 1, .tup ds => ds.all (sameD k)
  | _, _ => false
def mIs : Nat → MF
  | 0 => fun _ _ => .stuck
  | n + 1 => runF 4 (bIs (mIs n))
theorem eqD_self_lst {h : List MO} : eqD h (.lst []) (.lst []) = some true := eqD_nice (k := 1) rfl rfl
theorem is_ok : ∀ (n : Nat) (d : D) (h : List MO) (P : D → List MO → Prop) (X : Ex → List MO → Prop), sameD n d = true → P (.bl true) h → OkX (mIs (n + 1) [d, d] h) P X
  | n, .non, h, P, X, _, q => by
    unfold mIs; rw [w_run]; unfold bIs
    simp (dsimp := false) only [isi_tn, ↓Kp_app, ↓w_seq, ↓w_sNil, ↓w_set, ↓w_ret, ↓w_retN, ↓w_sIf, ↓w_expr, ↓w_par, ↓w_par3, ↓w_asg, ↓w_aug, ↓w_sub, ↓w_for, ↓w_raise, ↓w_break, ↓w_cont, ↓w_op2, ↓w_op1, ↓w_cb, ↓w_c, ↓w_var, ↓w_nil, ↓w_cons, ↓w_tup, ↓w_lst, ↓w_new, ↓w_if, ↓w_test, ↓w_tru, ↓w_not, ↓w_and, ↓w_or, ↓w_andV, ↓w_orV, ↓w_notV, ↓w_chain, ↓w_call, ↓w_callK, ↓w_sl, ↓w_part0, ↓w_part1, ↓w_isi, ↓w_join, ↓w_mt, ↓w_lc, ↓w_lcN, ↓w_lcA, ↓w_it, ↓w_range1, ↓w_range2, ↓w_enum, ↓w_enumS, ↓w_zip,   OkX_ok, OkX_err, OkX_stuck, OkX_guard, o_addS, o_addT, o_addLL, o_addRL, o_addII, o_subI, o_mulI, o_mulS, o_fdivI, o_modI, o_powI, o_negI, o_ltI, o_leI, o_gtI, o_geI, o_ltS, o_leS, o_gtS, o_geS, o_eqI, o_eqS, o_neI, o_neS, o_isD, o_isnotD, o_inS, o_ixS, o_ixT, o_ixL, o_ixR, o_slS, o_slT, o_slL, o_slR, o_lenS, o_lenT, o_lenL, o_lenR, o_absI, o_intI, o_intB, o_tupT, o_tupL, o_tupR, o_maxI, o_minI,   List.set_cons_zero, List.set_cons_succ, List.getElem?_cons_zero, List.getElem?_cons_succ, List.map_cons, List.map_nil, List.length_cons, List.length_nil, List.replicate_succ, List.replicate_zero, List.cons_append, List.nil_append, Nat.reduceSub, Nat.reduceAdd, Nat.reduceLeDiff, exists_eq_left', D.bl.injEq, D.int.injEq, D.str.injEq, D.ref.injEq, D.tup.injEq, true_and, and_true, if_true, if_false, Bool.false_eq_true, Bool.not_true, Bool.not_false, decide_true, decide_false, bindP, bindPs, isK, atI_0, atI_1, atI_2, atI_3, ixN_0, ixN_1, Nat.zero_add, LINE, Nat.zero_le, truD, wipeD, Option.some.injEq]
    simpa using q
  | n, .bl b, h, P, X, _, q => by
    unfold mIs; rw [w_run]; unfold bIs
    simp (dsimp := false) only [isi_tb, ↓Kp_app, ↓w_seq, ↓w_sNil, ↓w_set, ↓w_ret, ↓w_retN, ↓w_sIf, ↓w_expr, ↓w_par, ↓w_par3, ↓w_asg, ↓w_aug, ↓w_sub, ↓w_for, ↓w_raise, ↓w_break, ↓w_cont, ↓w_op2, ↓w_op1, ↓w_cb, ↓w_c, ↓w_var, ↓w_nil, ↓w_cons, ↓w_tup, ↓w_lst, ↓w_new, ↓w_if, ↓w_test, ↓w_tru, ↓w_not, ↓w_and, ↓w_or, ↓w_andV, ↓w_orV, ↓w_notV, ↓w_chain, ↓w_call, ↓w_callK, ↓w_sl, ↓w_part0, ↓w_part1, ↓w_isi, ↓w_join, ↓w_mt, ↓w_lc, ↓w_lcN, ↓w_lcA, ↓w_it, ↓w_range1, ↓w_range2, ↓w_enum, ↓w_enumS, ↓w_zip,   OkX_ok, OkX_err, OkX_stuck, OkX_guard, o_addS, o_addT, o_addLL, o_addRL, o_addII, o_subI, o_mulI, o_mulS, o_fdivI, o_modI, o_powI, o_negI, o_ltI, o_leI, o_gtI, o_geI, o_ltS, o_leS, o_gtS, o_geS, o_eqI, o_eqS, o_neI, o_neS, o_isD, o_isnotD, o_inS, o_ixS, o_ixT, o_ixL, o_ixR, o_slS, o_slT, o_slL, o_slR, o_lenS, o_lenT, o_lenL, o_lenR, o_absI, o_intI, o_intB, o_tupT, o_tupL, o_tupR, o_maxI, o_minI,   List.set_cons_zero, List.set_cons_succ, List.getElem?_cons_zero, List.getElem?_cons_succ, List.map_cons, List.map_nil, List.length_cons, List.length_nil, List.replicate_succ, List.replicate_zero, List.cons_append, List.nil_append, Nat.reduceSub, Nat.reduceAdd, Nat.reduceLeDiff, exists_eq_left', D.bl.injEq, D.int.injEq, D.str.injEq, D.ref.injEq, D.tup.injEq, true_and, and_true, if_true, if_false, Bool.false_eq_true, Bool.not_true, Bool.not_false, decide_true, decide_false, bindP, bindPs, isK, atI_0, atI_1, atI_2, atI_3, ixN_0, ixN_1, Nat.zero_add, LINE, Nat.zero_le, truD, wipeD, Option.some.injEq]
    cases b <;> simp <;> exact q
  | n, .int i, h, P, X, _, q => by
    unfold mIs; rw [w_run]; unfold bIs
    simp (dsimp := false) only [isi_ti, isi_ii, isi_bi, ↓Kp_app, ↓w_seq, ↓w_sNil, ↓w_set, ↓w_ret, ↓w_retN, ↓w_sIf, ↓w_expr, ↓w_par, ↓w_par3, ↓w_asg, ↓w_aug, ↓w_sub, ↓w_for, ↓w_raise, ↓w_break, ↓w_cont, ↓w_op2, ↓w_op1, ↓w_cb, ↓w_c, ↓w_var, ↓w_nil, ↓w_cons, ↓w_tup, ↓w_lst, ↓w_new, ↓w_if, ↓w_test, ↓w_tru, ↓w_not, ↓w_and, ↓w_or, ↓w_andV, ↓w_orV, ↓w_notV, ↓w_chain, ↓w_call, ↓w_callK, ↓w_sl, ↓w_part0, ↓w_part1, ↓w_isi, ↓w_join, ↓w_mt, ↓w_lc, ↓w_lcN, ↓w_lcA, ↓w_it, ↓w_range1, ↓w_range2, ↓w_enum, ↓w_enumS, ↓w_zip,   OkX_ok, OkX_err, OkX_stuck, OkX_guard, o_addS, o_addT, o_addLL, o_addRL, o_addII, o_subI, o_mulI, o_mulS, o_fdivI, o_modI, o_powI, o_negI, o_ltI, o_leI, o_gtI, o_geI, o_ltS, o_leS, o_gtS, o_geS, o_eqI, o_eqS, o_neI, o_neS, o_isD, o_isnotD, o_inS, o_ixS, o_ixT, o_ixL, o_ixR, o_slS, o_slT, o_slL, o_slR, o_lenS, o_lenT, o_lenL, o_lenR, o_absI, o_intI, o_intB, o_tupT, o_tupL, o_tupR, o_maxI, o_minI,   List.set_cons_zero, List.set_cons_succ, List.getElem?_cons_zero, List.getElem?_cons_succ, List.map_cons, List.map_nil, List.length_cons, List.length_nil, List.replicate_succ, List.replicate_zero, List.cons_append, List.nil_append, Nat.reduceSub, Nat.reduceAdd, Nat.reduceLeDiff, exists_eq_left', D.bl.injEq, D.int.injEq, D.str.injEq, D.ref.injEq, D.tup.injEq, true_and, and_true, if_true, if_false, Bool.false_eq_true, Bool.not_true, Bool.not_false, decide_true, decide_false, bindP, bindPs, isK, atI_0, atI_1, atI_2, atI_3, ixN_0, ixN_1, Nat.zero_add, LINE, Nat.zero_le, truD, wipeD, Option.some.injEq]
    simpa using q
  | n, .str i, h, P, X, _, q => by
    unfold mIs; rw [w_run]; unfold bIs
    simp (dsimp := false) only [isi_ts, isi_ss, isi_is, ↓Kp_app, ↓w_seq, ↓w_sNil, ↓w_set, ↓w_ret, ↓w_retN, ↓w_sIf, ↓w_expr, ↓w_par, ↓w_par3, ↓w_asg, ↓w_aug, ↓w_sub, ↓w_for, ↓w_raise, ↓w_break, ↓w_cont, ↓w_op2, ↓w_op1, ↓w_cb, ↓w_c, ↓w_var, ↓w_nil, ↓w_cons, ↓w_tup, ↓w_lst, ↓w_new, ↓w_if, ↓w_test, ↓w_tru, ↓w_not, ↓w_and, ↓w_or, ↓w_andV, ↓w_orV, ↓w_notV, ↓w_chain, ↓w_call, ↓w_callK, ↓w_sl, ↓w_part0, ↓w_part1, ↓w_isi, ↓w_join, ↓w_mt, ↓w_lc, ↓w_lcN, ↓w_lcA, ↓w_it, ↓w_range1, ↓w_range2, ↓w_enum, ↓w_enumS, ↓w_zip,   OkX_ok, OkX_err, OkX_stuck, OkX_guard, o_addS, o_addT, o_addLL, o_addRL, o_addII, o_subI, o_mulI, o_mulS, o_fdivI, o_modI, o_powI, o_negI, o_ltI, o_leI, o_gtI, o_geI, o_ltS, o_leS, o_gtS, o_geS, o_eqI, o_eqS, o_neI, o_neS, o_isD, o_isnotD, o_inS, o_ixS, o_ixT, o_ixL, o_ixR, o_slS, o_slT, o_slL, o_slR, o_lenS, o_lenT, o_lenL, o_lenR, o_absI, o_intI, o_intB, o_tupT, o_tupL, o_tupR, o_maxI, o_minI,   List.set_cons_zero, List.set_cons_succ, List.getElem?_cons_zero, List.getElem?_cons_succ, List.map_cons, List.map_nil, List.length_cons, List.length_nil, List.replicate_succ, List.replicate_zero, List.cons_append, List.nil_append, Nat.reduceSub, Nat.reduceAdd, Nat.reduceLeDiff, exists_eq_left', D.bl.injEq, D.int.injEq, D.str.injEq, D.ref.injEq, D.tup.injEq, true_and, and_true, if_true, if_false, Bool.false_eq_true, Bool.not_true, Bool.not_false, decide_true, decide_false, bindP, bindPs, isK, atI_0, atI_1, atI_2, atI_3, ixN_0, ixN_1, Nat.zero_add, LINE, Nat.zero_le, truD, wipeD, Option.some.injEq]
    simpa using q
  | 0, .tup _, _, _, _, s, _ => by unfold sameD at s; cases s
  | _, .lst _, _, _, _, s, _ => by unfold sameD at s; cases s
  | _, .ref _, _, _, _, s, _ => by unfold sameD at s; cases s
  | _, .glo _, _, _, _, s, _ => by unfold sameD at s; cases s
  | _, .clo _ _, _, _, _, s, _ => by unfold sameD at s; cases s
  | n + 1, .tup ds, h, P, X, s, q => by
    unfold sameD at s
    unfold mIs; rw [w_run]; unfold bIs
    simp (dsimp := false) only [isi_tt, zip_self, ↓Kp_app, ↓w_seq, ↓w_sNil, ↓w_set, ↓w_ret, ↓w_retN, ↓w_sIf, ↓w_expr, ↓w_par, ↓w_par3, ↓w_asg, ↓w_aug, ↓w_sub, ↓w_for, ↓w_raise, ↓w_break, ↓w_cont, ↓w_op2, ↓w_op1, ↓w_cb, ↓w_c, ↓w_var, ↓w_nil, ↓w_cons, ↓w_tup, ↓w_lst, ↓w_new, ↓w_if, ↓w_test, ↓w_tru, ↓w_not, ↓w_and, ↓w_or, ↓w_andV, ↓w_orV, ↓w_notV, ↓w_chain, ↓w_call, ↓w_callK, ↓w_sl, ↓w_part0, ↓w_part1, ↓w_isi, ↓w_join, ↓w_mt, ↓w_lc, ↓w_lcN, ↓w_lcA, ↓w_it, ↓w_range1, ↓w_range2, ↓w_enum, ↓w_enumS, ↓w_zip,   OkX_ok, OkX_err, OkX_stuck, OkX_guard, o_addS, o_addT, o_addLL, o_addRL, o_addII, o_subI, o_mulI, o_mulS, o_fdivI, o_modI, o_powI, o_negI, o_ltI, o_leI, o_gtI, o_geI, o_ltS, o_leS, o_gtS, o_geS, o_eqI, o_eqS, o_neI, o_neS, o_isD, o_isnotD, o_inS, o_ixS, o_ixT, o_ixL, o_ixR, o_slS, o_slT, o_slL, o_slR, o_lenS, o_lenT, o_lenL, o_lenR, o_absI, o_intI, o_intB, o_tupT, o_tupL, o_tupR, o_maxI, o_minI,   List.set_cons_zero, List.set_cons_succ, List.getElem?_cons_zero, List.getElem?_cons_succ, List.map_cons, List.map_nil, List.length_cons, List.length_nil, List.replicate_succ, List.replicate_zero, List.cons_append, List.nil_append, Nat.reduceSub, Nat.reduceAdd, Nat.reduceLeDiff, exists_eq_left', D.bl.injEq, D.int.injEq, D.str.injEq, D.ref.injEq, D.tup.injEq, true_and, and_true, if_true, if_false, Bool.false_eq_true, Bool.not_true, Bool.not_false, decide_true, decide_false, bindP, bindPs, isK, atI_0, atI_1, atI_2, atI_3, ixN_0, ixN_1, Nat.zero_add, LINE, Nat.zero_le, truD, wipeD, Option.some.injEq]
    refine w_loopC (fun d => D.tup [d, d]) (fun _ a h' => a = [] ∧ h' = h) (fun _ _ _ _ => by rfl) ds h ⟨rfl, rfl⟩ (fun l x r a h' e i => ?_) (fun a h' i => ?_)
    · obtain ⟨rfl, rfl⟩ := i
      refine ⟨_, rfl, ?_⟩
      simp (dsimp := false) only [↓Kp_app, ↓w_seq, ↓w_sNil, ↓w_set, ↓w_ret, ↓w_retN, ↓w_sIf, ↓w_expr, ↓w_par, ↓w_par3, ↓w_asg, ↓w_aug, ↓w_sub, ↓w_for, ↓w_raise, ↓w_break, ↓w_cont, ↓w_op2, ↓w_op1, ↓w_cb, ↓w_c, ↓w_var, ↓w_nil, ↓w_cons, ↓w_tup, ↓w_lst, ↓w_new, ↓w_if, ↓w_test, ↓w_tru, ↓w_not, ↓w_and, ↓w_or, ↓w_andV, ↓w_orV, ↓w_notV, ↓w_chain, ↓w_call, ↓w_callK, ↓w_sl, ↓w_part0, ↓w_part1, ↓w_isi, ↓w_join, ↓w_mt, ↓w_lc, ↓w_lcN, ↓w_lcA, ↓w_it, ↓w_range1, ↓w_range2, ↓w_enum, ↓w_enumS, ↓w_zip,   OkX_ok, OkX_err, OkX_stuck, OkX_guard, o_addS, o_addT, o_addLL, o_addRL, o_addII, o_subI, o_mulI, o_mulS, o_fdivI, o_modI, o_powI, o_negI, o_ltI, o_leI, o_gtI, o_geI, o_ltS, o_leS, o_gtS, o_geS, o_eqI, o_eqS, o_neI, o_neS, o_isD, o_isnotD, o_inS, o_ixS, o_ixT, o_ixL, o_ixR, o_slS, o_slT, o_slL, o_slR, o_lenS, o_lenT, o_lenL, o_lenR, o_absI, o_intI, o_intB, o_tupT, o_tupL, o_tupR, o_maxI, o_minI,   List.set_cons_zero, List.set_cons_succ, List.getElem?_cons_zero, List.getElem?_cons_succ, List.map_cons, List.map_nil, List.length_cons, List.length_nil, List.replicate_succ, List.replicate_zero, List.cons_append, List.nil_append, Nat.reduceSub, Nat.reduceAdd, Nat.reduceLeDiff, exists_eq_left', D.bl.injEq, D.int.injEq, D.str.injEq, D.ref.injEq, D.tup.injEq, true_and, and_true, if_true, if_false, Bool.false_eq_true, Bool.not_true, Bool.not_false, decide_true, decide_false, bindP, bindPs, isK, atI_0, atI_1, atI_2, atI_3, ixN_0, ixN_1, Nat.zero_add, LINE, Nat.zero_le, truD, wipeD, Option.some.injEq]
      refine is_ok n x _ _ _ (List.all_eq_true.mp s x (by rw [e]; simp)) ?_
      simp (dsimp := false) only [↓Kp_app, ↓w_seq, ↓w_sNil, ↓w_set, ↓w_ret, ↓w_retN, ↓w_sIf, ↓w_expr, ↓w_par, ↓w_par3, ↓w_asg, ↓w_aug, ↓w_sub, ↓w_for, ↓w_raise, ↓w_break, ↓w_cont, ↓w_op2, ↓w_op1, ↓w_cb, ↓w_c, ↓w_var, ↓w_nil, ↓w_cons, ↓w_tup, ↓w_lst, ↓w_new, ↓w_if, ↓w_test, ↓w_tru, ↓w_not, ↓w_and, ↓w_or, ↓w_andV, ↓w_orV, ↓w_notV, ↓w_chain, ↓w_call, ↓w_callK, ↓w_sl, ↓w_part0, ↓w_part1, ↓w_isi, ↓w_join, ↓w_mt, ↓w_lc, ↓w_lcN, ↓w_lcA, ↓w_it, ↓w_range1, ↓w_range2, ↓w_enum, ↓w_enumS, ↓w_zip,   OkX_ok, OkX_err, OkX_stuck, OkX_guard, o_addS, o_addT, o_addLL, o_addRL, o_addII, o_subI, o_mulI, o_mulS, o_fdivI, o_modI, o_powI, o_negI, o_ltI, o_leI, o_gtI, o_geI, o_ltS, o_leS, o_gtS, o_geS, o_eqI, o_eqS, o_neI, o_neS, o_isD, o_isnotD, o_inS, o_ixS, o_ixT, o_ixL, o_ixR, o_slS, o_slT, o_slL, o_slR, o_lenS, o_lenT, o_lenL, o_lenR, o_absI, o_intI, o_intB, o_tupT, o_tupL, o_tupR, o_maxI, o_minI,   List.set_cons_zero, List.set_cons_succ, List.getElem?_cons_zero, List.getElem?_cons_succ, List.map_cons, List.map_nil, List.length_cons, List.length_nil, List.replicate_succ, List.replicate_zero, List.cons_append, List.nil_append, Nat.reduceSub, Nat.reduceAdd, Nat.reduceLeDiff, exists_eq_left', D.bl.injEq, D.int.injEq, D.str.injEq, D.ref.injEq, D.tup.injEq, true_and, and_true, if_true, if_false, Bool.false_eq_true, Bool.not_true, Bool.not_false, decide_true, decide_false, bindP, bindPs, isK, atI_0, atI_1, atI_2, atI_3, ixN_0, ixN_1, Nat.zero_add, LINE, Nat.zero_le, truD, wipeD, Option.some.injEq]
    · obtain ⟨rfl, rfl⟩ := i
      simp (dsimp := false) only [o_eqD, eqD_self_lst, ↓Kp_app, ↓w_seq, ↓w_sNil, ↓w_set, ↓w_ret, ↓w_retN, ↓w_sIf, ↓w_expr, ↓w_par, ↓w_par3, ↓w_asg, ↓w_aug, ↓w_sub, ↓w_for, ↓w_raise, ↓w_break, ↓w_cont, ↓w_op2, ↓w_op1, ↓w_cb, ↓w_c, ↓w_var, ↓w_nil, ↓w_cons, ↓w_tup, ↓w_lst, ↓w_new, ↓w_if, ↓w_test, ↓w_tru, ↓w_not, ↓w_and, ↓w_or, ↓w_andV, ↓w_orV, ↓w_notV, ↓w_chain, ↓w_call, ↓w_callK, ↓w_sl, ↓w_part0, ↓w_part1, ↓w_isi, ↓w_join, ↓w_mt, ↓w_lc, ↓w_lcN, ↓w_lcA, ↓w_it, ↓w_range1, ↓w_range2, ↓w_enum, ↓w_enumS, ↓w_zip,   OkX_ok, OkX_err, OkX_stuck, OkX_guard, o_addS, o_addT, o_addLL, o_addRL, o_addII, o_subI, o_mulI, o_mulS, o_fdivI, o_modI, o_powI, o_negI, o_ltI, o_leI, o_gtI, o_geI, o_ltS, o_leS, o_gtS, o_geS, o_eqI, o_eqS, o_neI, o_neS, o_isD, o_isnotD, o_inS, o_ixS, o_ixT, o_ixL, o_ixR, o_slS, o_slT, o_slL, o_slR, o_lenS, o_lenT, o_lenL, o_lenR, o_absI, o_intI, o_intB, o_tupT, o_tupL, o_tupR, o_maxI, o_minI,   List.set_cons_zero, List.set_cons_succ, List.getElem?_cons_zero, List.getElem?_cons_succ, List.map_cons, List.map_nil, List.length_cons, List.length_nil, List.replicate_succ, List.replicate_zero, List.cons_append, List.nil_append, Nat.reduceSub, Nat.reduceAdd, Nat.reduceLeDiff, exists_eq_left', D.bl.injEq, D.int.injEq, D.str.injEq, D.ref.injEq, D.tup.injEq, true_and, and_true, if_true, if_false, Bool.false_eq_true, Bool.not_true, Bool.not_false, decide_true, decide_false, bindP, bindPs, isK, atI_0, atI_1, atI_2, atI_3, ixN_0, ixN_1, Nat.zero_add, LINE, Nat.zero_le, truD, wipeD, Option.some.injEq]
      exact q
theorem pick_ok {h : List MO} {b : Nat} {ds : List D} {P : D → List MO → Prop} {X : Ex → List MO → Prop} (x : Box h b) (h0 : ds ≠ []) (h1 : ds.length < 2 ^ 60)
    (q : ∀ d h', d ∈ ds → Bx b h h' → P d h') : OkX (runF 2 bPick [.ref b, .lst ds] h) P X := by
  rw [w_run]; unfold bPick
  simp (dsimp := false) only [↓Kp_app, ↓w_seq, ↓w_sNil, ↓w_set, ↓w_ret, ↓w_retN, ↓w_sIf, ↓w_expr, ↓w_par, ↓w_par3, ↓w_asg, ↓w_aug, ↓w_sub, ↓w_for, ↓w_raise, ↓w_break, ↓w_cont, ↓w_op2, ↓w_op1, ↓w_cb, ↓w_c, ↓w_var, ↓w_nil, ↓w_cons, ↓w_tup, ↓w_lst, ↓w_new, ↓w_if, ↓w_test, ↓w_tru, ↓w_not, ↓w_and, ↓w_or, ↓w_andV, ↓w_orV, ↓w_notV, ↓w_chain, ↓w_call, ↓w_callK, ↓w_sl, ↓w_part0, ↓w_part1, ↓w_isi, ↓w_join, ↓w_mt, ↓w_lc, ↓w_lcN, ↓w_lcA, ↓w_it, ↓w_range1, ↓w_range2, ↓w_enum, ↓w_enumS, ↓w_zip,   OkX_ok, OkX_err, OkX_stuck, OkX_guard, o_addS, o_addT, o_addLL, o_addRL, o_addII, o_subI, o_mulI, o_mulS, o_fdivI, o_modI, o_powI, o_negI, o_ltI, o_leI, o_gtI, o_geI, o_ltS, o_leS, o_gtS, o_geS, o_eqI, o_eqS, o_neI, o_neS, o_isD, o_isnotD, o_inS, o_ixS, o_ixT, o_ixL, o_ixR, o_slS, o_slT, o_slL, o_slR, o_lenS, o_lenT, o_lenL, o_lenR, o_absI, o_intI, o_intB, o_tupT, o_tupL, o_tupR, o_maxI, o_minI,   List.set_cons_zero, List.set_cons_succ, List.getElem?_cons_zero, List.getElem?_cons_succ, List.map_cons, List.map_nil, List.length_cons, List.length_nil, List.replicate_succ, List.replicate_zero, List.cons_append, List.nil_append, Nat.reduceSub, Nat.reduceAdd, Nat.reduceLeDiff, exists_eq_left', D.bl.injEq, D.int.injEq, D.str.injEq, D.ref.injEq, D.tup.injEq, true_and, and_true, if_true, if_false, Bool.false_eq_true, Bool.not_true, Bool.not_false, decide_true, decide_false, bindP, bindPs, isK, atI_0, atI_1, atI_2, atI_3, ixN_0, ixN_1, Nat.zero_add, LINE, Nat.zero_le, truD, wipeD, Option.some.injEq]
  have h2 := List.length_pos_iff.mpr h0
  refine take_ok (n := (ds.length : Int)) x (by omega) ?_ fun k h' k0 k1 hx => ?_
  · rw [Int.natAbs_natCast]
    have : ds.length.log2 < 60 := (Nat.log2_lt (by omega)).mpr h1
    omega
  obtain ⟨m, rfl⟩ := Int.eq_ofNat_of_zero_le k0
  have hm : m < ds.length := by omega
  simp (dsimp := false) only [atI_nat, List.getElem?_eq_getElem hm, ↓Kp_app, ↓w_seq, ↓w_sNil, ↓w_set, ↓w_ret, ↓w_retN, ↓w_sIf, ↓w_expr, ↓w_par, ↓w_par3, ↓w_asg, ↓w_aug, ↓w_sub, ↓w_for, ↓w_raise, ↓w_break, ↓w_cont, ↓w_op2, ↓w_op1, ↓w_cb, ↓w_c, ↓w_var, ↓w_nil, ↓w_cons, ↓w_tup, ↓w_lst, ↓w_new, ↓w_if, ↓w_test, ↓w_tru, ↓w_not, ↓w_and, ↓w_or, ↓w_andV, ↓w_orV, ↓w_notV, ↓w_chain, ↓w_call, ↓w_callK, ↓w_sl, ↓w_part0, ↓w_part1, ↓w_isi, ↓w_join, ↓w_mt, ↓w_lc, ↓w_lcN, ↓w_lcA, ↓w_it, ↓w_range1, ↓w_range2, ↓w_enum, ↓w_enumS, ↓w_zip,   OkX_ok, OkX_err, OkX_stuck, OkX_guard, o_addS, o_addT, o_addLL, o_addRL, o_addII, o_subI, o_mulI, o_mulS, o_fdivI, o_modI, o_powI, o_negI, o_ltI, o_leI, o_gtI, o_geI, o_ltS, o_leS, o_gtS, o_geS, o_eqI, o_eqS, o_neI, o_neS, o_isD, o_isnotD, o_inS, o_ixS, o_ixT, o_ixL, o_ixR, o_slS, o_slT, o_slL, o_slR, o_lenS, o_lenT, o_lenL, o_lenR, o_absI, o_intI, o_intB, o_tupT, o_tupL, o_tupR, o_maxI, o_minI,   List.set_cons_zero, List.set_cons_succ, List.getElem?_cons_zero, List.getElem?_cons_succ, List.map_cons, List.map_nil, List.length_cons, List.length_nil, List.replicate_succ, List.replicate_zero, List.cons_append, List.nil_append, Nat.reduceSub, Nat.reduceAdd, Nat.reduceLeDiff, exists_eq_left', D.bl.injEq, D.int.injEq, D.str.injEq, D.ref.injEq, D.tup.injEq, true_and, and_true, if_true, if_false, Bool.false_eq_true, Bool.not_true, Bool.not_false, decide_true, decide_false, bindP, bindPs, isK, atI_0, atI_1, atI_2, atI_3, ixN_0, ixN_1, Nat.zero_add, LINE, Nat.zero_le, truD, wipeD, Option.some.injEq]
  exact q _ _ (List.getElem_mem hm) hx
theorem enum_at {α : Type} (f : α → D) {xs : List α} {n : Nat} {l r : List D} {d : D} (e : enumD n (xs.map f) = l ++ d :: r) : ∃ x, xs[l.length]? = some x ∧ d = .tup [.int ((n + l.length : Nat) : Int), f x] := by
  have h := congrArg (fun z => z[l.length]?) e
  simp only [enumD_get] at h
  rw [List.getElem?_append_right (Nat.le_refl _), Nat.sub_self, List.getElem?_cons_zero, List.getElem?_map] at h
  cases e2 : xs[l.length]? with
  | none => rw [e2] at h; cases h
  | some x =>
    rw [e2] at h
    simp only [Option.map_some, Option.some.injEq] at h
    exact ⟨x, rfl, h.symm⟩
theorem bits_lt {z : Int} (h : Builtin.Int.intBits z ≤ 1048576) : ∃ a, a ≤ 1048576 ∧ z.natAbs < 2 ^ a := by
  unfold Builtin.Int.intBits at h
  by_cases e : z = 0
  · subst e; exact ⟨0, Nat.zero_le _, by decide⟩
  · rw [if_neg (by simpa using e)] at h
    exact ⟨_, h, (Nat.log2_lt (by omega)).mp (Nat.lt_succ_self _)⟩
/-- the box is made -/
theorem box_okP {ns : List Int} {h : List MO} {P : D → List MO → Prop} {X : Ex → List MO → Prop} {s0 c0 : Int} (hs0' : 0 ≤ s0 ∧ s0 < 2147483648) (hc0' : 0 ≤ c0 ∧ c0 < 1000000) (hl0 : ns.length ≤ 63) (hz : ∀ z ∈ ns, Builtin.Int.intBits z ≤ 1048576)
    (q : ∀ b h', b = h.length + 1 → h'.length = h.length + 2 → (∀ i, i < h.length → h'[i]? = h[i]?) → Box h' b → P (.ref b) h') : OkX (runF 6 (bBoxP s0 c0) [.lst (ns.map .int)] h) P X := by
  rw [w_run]; unfold bBoxP
  simp (dsimp := false) only [↓Kp_app, ↓w_seq, ↓w_sNil, ↓w_set, ↓w_ret, ↓w_retN, ↓w_sIf, ↓w_expr, ↓w_par, ↓w_par3, ↓w_asg, ↓w_aug, ↓w_sub, ↓w_for, ↓w_raise, ↓w_break, ↓w_cont, ↓w_op2, ↓w_op1, ↓w_cb, ↓w_c, ↓w_var, ↓w_nil, ↓w_cons, ↓w_tup, ↓w_lst, ↓w_new, ↓w_if, ↓w_test, ↓w_tru, ↓w_not, ↓w_and, ↓w_or, ↓w_andV, ↓w_orV, ↓w_notV, ↓w_chain, ↓w_call, ↓w_callK, ↓w_sl, ↓w_part0, ↓w_part1, ↓w_isi, ↓w_join, ↓w_mt, ↓w_lc, ↓w_lcN, ↓w_lcA, ↓w_it, ↓w_range1, ↓w_range2, ↓w_enum, ↓w_enumS, ↓w_zip,   OkX_ok, OkX_err, OkX_stuck, OkX_guard, o_addS, o_addT, o_addLL, o_addRL, o_addII, o_subI, o_mulI, o_mulS, o_fdivI, o_modI, o_powI, o_negI, o_ltI, o_leI, o_gtI, o_geI, o_ltS, o_leS, o_gtS, o_geS, o_eqI, o_eqS, o_neI, o_neS, o_isD, o_isnotD, o_inS, o_ixS, o_ixT, o_ixL, o_ixR, o_slS, o_slT, o_slL, o_slR, o_lenS, o_lenT, o_lenL, o_lenR, o_absI, o_intI, o_intB, o_tupT, o_tupL, o_tupR, o_maxI, o_minI,   List.set_cons_zero, List.set_cons_succ, List.getElem?_cons_zero, List.getElem?_cons_succ, List.map_cons, List.map_nil, List.length_cons, List.length_nil, List.replicate_succ, List.replicate_zero, List.cons_append, List.nil_append, Nat.reduceSub, Nat.reduceAdd, Nat.reduceLeDiff, exists_eq_left', D.bl.injEq, D.int.injEq, D.str.injEq, D.ref.injEq, D.tup.injEq, true_and, and_true, if_true, if_false, Bool.false_eq_true, Bool.not_true, Bool.not_false, decide_true, decide_false, bindP, bindPs, isK, atI_0, atI_1, atI_2, atI_3, ixN_0, ixN_1, Nat.zero_add, LINE, Nat.zero_le, truD, wipeD, Option.some.injEq]
  have ct : cutD (ns.map D.int) none (some 63) = ns.map D.int := by
    have := cut_to (ns.map D.int) 63
    rw [show ((63 : Nat) : Int) = 63 from rfl] at this
    rw [this, List.take_of_length_le (by simpa using hl0)]
  rw [ct]
  refine w_loopF (fun pre ρ h' => ∃ cells st x y z, ρ = [some (D.lst (ns.map .int)), some (.ref h.length), some (.int st), x, y, z] ∧ h' = h ++ [.lst (cells.map .int)] ∧ (∀ c ∈ cells, 0 ≤ c) ∧ cells.length ≤ pre.length ∧ 0 ≤ st ∧ st < 2147483648)
    (fun _ _ _ _ => rfl) [] _ _ _ ⟨[], s0, none, none, none, rfl, rfl, fun _ m => (nomatch m), Nat.le_refl _, by omega, by omega⟩ (fun l d r ρ h' e i => ?_) (fun ρ h' i => ?_)
  · obtain ⟨cells, st, x, y, z, rfl, rfl, hc, hcl, s0, s1⟩ := i
    rw [List.nil_append] at e
    obtain ⟨c, e1, rfl⟩ := enum_at D.int e
    have hm : c ∈ ns := List.mem_of_getElem? e1
    have hk : l.length < ns.length := (List.getElem?_eq_some_iff.mp e1).1
    obtain ⟨a, ha, hca⟩ := bits_lt (hz c hm)
    refine ⟨_, rfl, ?_⟩
    have m0 : mulOk (c.natAbs : Int) 2 := mulx_ok (a := a) (b := 40) (by simpa using hca) (by omega) (by omega)
    have hcl2 : cells.length ≤ 62 := by omega
    have fin : ∀ (t : Int) (cells2 : List Int), (∀ c ∈ cells2, 0 ≤ c) → cells2.length ≤ l.length + 1 → 0 ≤ t → (∀ u : Int, u = (st * 48271 + t.fmod 2147483629 * (2 * (l.length : Int) + c0) + 17).fmod 2147483629 + 1 → 
      mulOk st 48271 ∧ 2147483629 ≠ (0 : Int) ∧ mulOk 2 (l.length : Int) ∧ mulOk (t.fmod 2147483629) (2 * (l.length : Int) + c0) ∧ 2147483629 ≠ (0 : Int) ∧ ∃ (cells_1 : List Int) (st_1 : Int) (x y z : Option D), [some (D.lst (ns.map .int)), some (.ref h.length), some (.int u), some (.int (l.length : Int)), some (.int c), some (.int t)] = [some (D.lst (ns.map .int)), some (.ref h.length), some (.int st_1), x, y, z] ∧ h ++ [MO.lst (cells2.map .int)] = h ++ [.lst (cells_1.map .int)] ∧ (∀ c ∈ cells_1, 0 ≤ c) ∧ cells_1.length ≤ l.length + 1 ∧ 0 ≤ st_1 ∧ st_1 < 2147483648) := fun t cells2 h1 h2 t0 u hu => by
      have r0 := Int.emod_nonneg t (show (2147483629 : Int) ≠ 0 by omega)
      have r1 := Int.emod_lt_of_pos t (show (0 : Int) < 2147483629 by omega)
      rw [Int.fmod_eq_emod_of_nonneg t (by omega)] at *
      have hp : 0 ≤ t % 2147483629 * (2 * (l.length : Int) + c0) := Int.mul_nonneg r0 (by omega)
      have r2 := Int.emod_nonneg (st * 48271 + t % 2147483629 * (2 * (l.length : Int) + c0) + 17) (show (2147483629 : Int) ≠ 0 by omega)
      have r3 := Int.emod_lt_of_pos (st * 48271 + t % 2147483629 * (2 * (l.length : Int) + c0) + 17) (show (0 : Int) < 2147483629 by omega)
      rw [Int.fmod_eq_emod_of_nonneg _ (by omega)] at hu
      exact ⟨mulOk_of 40 40 (by omega) (by omega), by omega, mulOk_of 40 40 (by omega) (by omega), mulOk_of 40 40 (by omega) (by omega), by omega, cells2, u, _, _, _, rfl, rfl, h1, h2, by omega, by omega⟩
    have tt : 0 ≤ ((c.natAbs : Int) * 2 + if decide (c < 0) = true then 1 else 0) := by split <;> omega
    simp (dsimp := false) only [hl_app, set_app, ↓Kp_app, ↓w_seq, ↓w_sNil, ↓w_set, ↓w_ret, ↓w_retN, ↓w_sIf, ↓w_expr, ↓w_par, ↓w_par3, ↓w_asg, ↓w_aug, ↓w_sub, ↓w_for, ↓w_raise, ↓w_break, ↓w_cont, ↓w_op2, ↓w_op1, ↓w_cb, ↓w_c, ↓w_var, ↓w_nil, ↓w_cons, ↓w_tup, ↓w_lst, ↓w_new, ↓w_if, ↓w_test, ↓w_tru, ↓w_not, ↓w_and, ↓w_or, ↓w_andV, ↓w_orV, ↓w_notV, ↓w_chain, ↓w_call, ↓w_callK, ↓w_sl, ↓w_part0, ↓w_part1, ↓w_isi, ↓w_join, ↓w_mt, ↓w_lc, ↓w_lcN, ↓w_lcA, ↓w_it, ↓w_range1, ↓w_range2, ↓w_enum, ↓w_enumS, ↓w_zip,   OkX_ok, OkX_err, OkX_stuck, OkX_guard, o_addS, o_addT, o_addLL, o_addRL, o_addII, o_subI, o_mulI, o_mulS, o_fdivI, o_modI, o_powI, o_negI, o_ltI, o_leI, o_gtI, o_geI, o_ltS, o_leS, o_gtS, o_geS, o_eqI, o_eqS, o_neI, o_neS, o_isD, o_isnotD, o_inS, o_ixS, o_ixT, o_ixL, o_ixR, o_slS, o_slT, o_slL, o_slR, o_lenS, o_lenT, o_lenL, o_lenR, o_absI, o_intI, o_intB, o_tupT, o_tupL, o_tupR, o_maxI, o_minI,   List.set_cons_zero, List.set_cons_succ, List.getElem?_cons_zero, List.getElem?_cons_succ, List.map_cons, List.map_nil, List.length_cons, List.length_nil, List.replicate_succ, List.replicate_zero, List.cons_append, List.nil_append, Nat.reduceSub, Nat.reduceAdd, Nat.reduceLeDiff, exists_eq_left', D.bl.injEq, D.int.injEq, D.str.injEq, D.ref.injEq, D.tup.injEq, true_and, and_true, if_true, if_false, Bool.false_eq_true, Bool.not_true, Bool.not_false, decide_true, decide_false, bindP, bindPs, isK, atI_0, atI_1, atI_2, atI_3, ixN_0, ixN_1, Nat.zero_add, LINE, Nat.zero_le, truD, wipeD, Option.some.injEq]
    refine ⟨m0, by decide, ?_⟩
    by_cases g : decide ((10 : Int) ^ Int.toNat 18 ≤ (c.natAbs : Int)) = true
    · rw [if_pos g]
      simp (dsimp := false) only [app_append (show (cells.map D.int).length < LINE by simp [LINE]; omega), set_app, ↓Kp_app, ↓w_seq, ↓w_sNil, ↓w_set, ↓w_ret, ↓w_retN, ↓w_sIf, ↓w_expr, ↓w_par, ↓w_par3, ↓w_asg, ↓w_aug, ↓w_sub, ↓w_for, ↓w_raise, ↓w_break, ↓w_cont, ↓w_op2, ↓w_op1, ↓w_cb, ↓w_c, ↓w_var, ↓w_nil, ↓w_cons, ↓w_tup, ↓w_lst, ↓w_new, ↓w_if, ↓w_test, ↓w_tru, ↓w_not, ↓w_and, ↓w_or, ↓w_andV, ↓w_orV, ↓w_notV, ↓w_chain, ↓w_call, ↓w_callK, ↓w_sl, ↓w_part0, ↓w_part1, ↓w_isi, ↓w_join, ↓w_mt, ↓w_lc, ↓w_lcN, ↓w_lcA, ↓w_it, ↓w_range1, ↓w_range2, ↓w_enum, ↓w_enumS, ↓w_zip,   OkX_ok, OkX_err, OkX_stuck, OkX_guard, o_addS, o_addT, o_addLL, o_addRL, o_addII, o_subI, o_mulI, o_mulS, o_fdivI, o_modI, o_powI, o_negI, o_ltI, o_leI, o_gtI, o_geI, o_ltS, o_leS, o_gtS, o_geS, o_eqI, o_eqS, o_neI, o_neS, o_isD, o_isnotD, o_inS, o_ixS, o_ixT, o_ixL, o_ixR, o_slS, o_slT, o_slL, o_slR, o_lenS, o_lenT, o_lenL, o_lenR, o_absI, o_intI, o_intB, o_tupT, o_tupL, o_tupR, o_maxI, o_minI,   List.set_cons_zero, List.set_cons_succ, List.getElem?_cons_zero, List.getElem?_cons_succ, List.map_cons, List.map_nil, List.length_cons, List.length_nil, List.replicate_succ, List.replicate_zero, List.cons_append, List.nil_append, Nat.reduceSub, Nat.reduceAdd, Nat.reduceLeDiff, exists_eq_left', D.bl.injEq, D.int.injEq, D.str.injEq, D.ref.injEq, D.tup.injEq, true_and, and_true, if_true, if_false, Bool.false_eq_true, Bool.not_true, Bool.not_false, decide_true, decide_false, bindP, bindPs, isK, atI_0, atI_1, atI_2, atI_3, ixN_0, ixN_1, Nat.zero_add, LINE, Nat.zero_le, truD, wipeD, Option.some.injEq]
      have ea : cells.map D.int ++ [D.int (c.natAbs : Int)] = (cells ++ [(c.natAbs : Int)]).map .int := by simp
      rw [ea]
      have := fin _ (cells ++ [(c.natAbs : Int)]) (fun d m => by
        rcases List.mem_append.mp m with m | m
        · exact hc d m
        · rw [List.mem_singleton.mp m]; omega) (by simp; omega) tt _ rfl
      simpa using this
    · rw [if_neg g]
      have := fin _ cells hc (by omega) tt _ rfl
      simpa using this
  · obtain ⟨cells, st, x, y, z, rfl, rfl, hc, hcl, s0, s1⟩ := i
    simp (dsimp := false) only [↓Kp_app, ↓w_seq, ↓w_sNil, ↓w_set, ↓w_ret, ↓w_retN, ↓w_sIf, ↓w_expr, ↓w_par, ↓w_par3, ↓w_asg, ↓w_aug, ↓w_sub, ↓w_for, ↓w_raise, ↓w_break, ↓w_cont, ↓w_op2, ↓w_op1, ↓w_cb, ↓w_c, ↓w_var, ↓w_nil, ↓w_cons, ↓w_tup, ↓w_lst, ↓w_new, ↓w_if, ↓w_test, ↓w_tru, ↓w_not, ↓w_and, ↓w_or, ↓w_andV, ↓w_orV, ↓w_notV, ↓w_chain, ↓w_call, ↓w_callK, ↓w_sl, ↓w_part0, ↓w_part1, ↓w_isi, ↓w_join, ↓w_mt, ↓w_lc, ↓w_lcN, ↓w_lcA, ↓w_it, ↓w_range1, ↓w_range2, ↓w_enum, ↓w_enumS, ↓w_zip,   OkX_ok, OkX_err, OkX_stuck, OkX_guard, o_addS, o_addT, o_addLL, o_addRL, o_addII, o_subI, o_mulI, o_mulS, o_fdivI, o_modI, o_powI, o_negI, o_ltI, o_leI, o_gtI, o_geI, o_ltS, o_leS, o_gtS, o_geS, o_eqI, o_eqS, o_neI, o_neS, o_isD, o_isnotD, o_inS, o_ixS, o_ixT, o_ixL, o_ixR, o_slS, o_slT, o_slL, o_slR, o_lenS, o_lenT, o_lenL, o_lenR, o_absI, o_intI, o_intB, o_tupT, o_tupL, o_tupR, o_maxI, o_minI,   List.set_cons_zero, List.set_cons_succ, List.getElem?_cons_zero, List.getElem?_cons_succ, List.map_cons, List.map_nil, List.length_cons, List.length_nil, List.replicate_succ, List.replicate_zero, List.cons_append, List.nil_append, Nat.reduceSub, Nat.reduceAdd, Nat.reduceLeDiff, exists_eq_left', D.bl.injEq, D.int.injEq, D.str.injEq, D.ref.injEq, D.tup.injEq, true_and, and_true, if_true, if_false, Bool.false_eq_true, Bool.not_true, Bool.not_false, decide_true, decide_false, bindP, bindPs, isK, atI_0, atI_1, atI_2, atI_3, ixN_0, ixN_1, Nat.zero_add, LINE, Nat.zero_le, truD, wipeD, Option.some.injEq]
    have hlen : (h ++ [MO.lst (cells.map D.int)]).length = h.length + 1 := by simp
    refine q _ _ (by simp) (by simp) (fun i hi => ?_) ⟨cells, st, ⟨_, hl_app, .inr ⟨h.length, by simp, rfl, ?_⟩⟩, hc, ?_, s0, s1⟩
    · rw [List.append_assoc, List.getElem?_append_left hi]
    · rw [hl_iff, List.append_assoc, List.getElem?_append_right (Nat.le_refl _)]; simp
    · have : ([] ++ enumD 0 (ns.map D.int)).length = ns.length := by simp [enumD_len]
      omega
theorem box_ok {ns : List Int} {h : List MO} {P : D → List MO → Prop} {X : Ex → List MO → Prop} (hl0 : ns.length ≤ 63) (hz : ∀ z ∈ ns, Builtin.Int.intBits z ≤ 1048576)
    (q : ∀ b h', b = h.length + 1 → h'.length = h.length + 2 → (∀ i, i < h.length → h'[i]? = h[i]?) → Box h' b → P (.ref b) h') : OkX (runF 6 bBox [.lst (ns.map .int)] h) P X := box_okP (by omega) (by omega) hl0 hz q
end MP
end
section
set_option Elab.async false
set_option linter.all false
set_option maxRecDepth 100000
set_option maxHeartbeats 2000000
/-! M29: Euclid, plain. -/
namespace MP
open PySem PySem.Spec PyProof.Rows L2
theorem half_step {a b : Nat} (h : b ≤ a) (hb : 0 < b) : b * (a % b) * 2 ≤ a * b := by
  have h1 := Nat.mod_lt a hb
  have h2 := Nat.div_add_mod a b
  have h3 : 1 ≤ a / b := Nat.div_pos h hb
  have h4 : b * 1 ≤ b * (a / b) := Nat.mul_le_mul_left b h3
  have h5 : a % b * 2 ≤ a := by omega
  have h6 := Nat.mul_le_mul_left b h5
  rw [Nat.mul_comm a b, Nat.mul_assoc]; exact h6
/-- how far Euclid has to go -/
def EuI (k a b : Nat) : Prop := (b ≤ a ∧ a * b < 2 ^ k) ∨ (a < b ∧ a * b < 2 ^ (k - 1) ∧ 1 ≤ k)
theorem EuI.step {k a b : Nat} (h : EuI k a b) (hb : 0 < b) : ∃ j, j < k ∧ EuI j b (a % b) := by
  rcases h with ⟨h1, h2⟩ | ⟨h1, h2, h3⟩
  · have hs := half_step h1 hb
    have hk : k ≠ 0 := fun z => by
      subst z
      have : 1 ≤ a * b := Nat.mul_pos (by omega) hb
      simp at h2; omega
    refine ⟨k - 1, by omega, .inl ⟨Nat.le_of_lt (Nat.mod_lt a hb), ?_⟩⟩
    have e : 2 ^ k = 2 ^ (k - 1) * 2 := by rw [← Nat.pow_succ]; congr 1; omega
    omega
  · refine ⟨k - 1, by omega, .inl ⟨?_, ?_⟩⟩
    · rw [Nat.mod_eq_of_lt h1]; omega
    · rw [Nat.mod_eq_of_lt h1, Nat.mul_comm]; exact h2
theorem EuI.start {a b m n : Nat} (ha : a < 2 ^ m) (hb : b < 2 ^ n) : EuI (m + n + 1) a b := by
  have h : a * b < 2 ^ (m + n) := by
    rw [Nat.pow_add]
    exact Nat.mul_lt_mul'' ha hb
  rcases Nat.lt_or_ge a b with z | z
  · exact .inr ⟨z, by simpa using h, by omega⟩
  · exact .inl ⟨z, Nat.lt_of_lt_of_le h (Nat.pow_le_pow_right (by decide) (by omega))⟩
theorem fmodN (a b : Nat) : ((a : Int).fmod (b : Int)) = ((a % b : Nat) : Int) := by
  rw [Int.fmod_eq_emod_of_nonneg _ (by omega)]; rfl
theorem fdivN (a b : Nat) : ((a : Int).fdiv (b : Int)) = ((a / b : Nat) : Int) := by
  rw [Int.fdiv_eq_ediv_of_nonneg _ (by omega)]; rfl
/-- the loop of the greatest divisor: two names at i, j -/
abbrev bGcd (i j : Nat) : MS := loopW (xTru (xVar j)) (sSeq (sPar i j (aCons (xVar j) (aCons (xOp2 oMod (xVar i) (xVar j)) aNil))) sNil) 100000
theorem gcd_loop {a b k : Nat} {x0 : Option D} {h : List MO} {N : Po} (hk : k < 100000) (i : EuI k a b) (q : N.nx [x0, some (.int (Nat.gcd a b : Nat)), some (.int 0)] h) : OkS (bGcd 1 2 [x0, some (.int (a : Nat)), some (.int (b : Nat))] h) N := by
  refine w_loopW (fun k ρ h' => ∃ c d : Nat, ρ = [x0, some (.int (c : Nat)), some (.int (d : Nat))] ∧ h' = h ∧ EuI k c d ∧ Nat.gcd c d = Nat.gcd a b) (fun k ρ h' i => ?_) 100000 k _ _ hk ⟨a, b, rfl, rfl, i, rfl⟩
  obtain ⟨c, d, rfl, rfl, i, e⟩ := i
  simp (dsimp := false) only [↓Kp_app, ↓w_seq, ↓w_sNil, ↓w_set, ↓w_ret, ↓w_retN, ↓w_sIf, ↓w_expr, ↓w_par, ↓w_par3, ↓w_asg, ↓w_aug, ↓w_sub, ↓w_for, ↓w_raise, ↓w_break, ↓w_cont, ↓w_op2, ↓w_op1, ↓w_cb, ↓w_c, ↓w_var, ↓w_nil, ↓w_cons, ↓w_tup, ↓w_lst, ↓w_new, ↓w_if, ↓w_test, ↓w_tru, ↓w_not, ↓w_and, ↓w_or, ↓w_andV, ↓w_orV, ↓w_notV, ↓w_chain, ↓w_call, ↓w_callK, ↓w_sl, ↓w_part0, ↓w_part1, ↓w_isi, ↓w_join, ↓w_mt, ↓w_lc, ↓w_lcN, ↓w_lcA, ↓w_it, ↓w_range1, ↓w_range2, ↓w_enum, ↓w_enumS, ↓w_zip,   OkX_ok, OkX_err, OkX_stuck, OkX_guard, o_addS, o_addT, o_addLL, o_addRL, o_addII, o_subI, o_mulI, o_mulS, o_fdivI, o_modI, o_powI, o_negI, o_ltI, o_leI, o_gtI, o_geI, o_ltS, o_leS, o_gtS, o_geS, o_eqI, o_eqS, o_neI, o_neS, o_isD, o_isnotD, o_inS, o_ixS, o_ixT, o_ixL, o_ixR, o_slS, o_slT, o_slL, o_slR, o_lenS, o_lenT, o_lenL, o_lenR, o_absI, o_intI, o_intB, o_tupT, o_tupL, o_tupR, o_maxI, o_minI,   List.set_cons_zero, List.set_cons_succ, List.getElem?_cons_zero, List.getElem?_cons_succ, List.map_cons, List.map_nil, List.length_cons, List.length_nil, List.replicate_succ, List.replicate_zero, List.cons_append, List.nil_append, Nat.reduceSub, Nat.reduceAdd, Nat.reduceLeDiff, exists_eq_left', D.bl.injEq, D.int.injEq, D.str.injEq, D.ref.injEq, D.tup.injEq, true_and, and_true, if_true, if_false, Bool.false_eq_true, Bool.not_true, Bool.not_false, decide_true, decide_false, bindP, bindPs, isK, atI_0, atI_1, atI_2, atI_3, ixN_0, ixN_1, Nat.zero_add, LINE, Nat.zero_le, truD, wipeD, Option.some.injEq]
  by_cases z : d = 0
  · subst z
    rw [if_neg (by simp)]
    have : c = Nat.gcd a b := by rw [← e]; simp
    rw [this]; exact q
  · rw [if_pos (by simp; omega)]
    try simp (dsimp := false) only [↓Kp_app, ↓w_seq, ↓w_sNil, ↓w_set, ↓w_ret, ↓w_retN, ↓w_sIf, ↓w_expr, ↓w_par, ↓w_par3, ↓w_asg, ↓w_aug, ↓w_sub, ↓w_for, ↓w_raise, ↓w_break, ↓w_cont, ↓w_op2, ↓w_op1, ↓w_cb, ↓w_c, ↓w_var, ↓w_nil, ↓w_cons, ↓w_tup, ↓w_lst, ↓w_new, ↓w_if, ↓w_test, ↓w_tru, ↓w_not, ↓w_and, ↓w_or, ↓w_andV, ↓w_orV, ↓w_notV, ↓w_chain, ↓w_call, ↓w_callK, ↓w_sl, ↓w_part0, ↓w_part1, ↓w_isi, ↓w_join, ↓w_mt, ↓w_lc, ↓w_lcN, ↓w_lcA, ↓w_it, ↓w_range1, ↓w_range2, ↓w_enum, ↓w_enumS, ↓w_zip,   OkX_ok, OkX_err, OkX_stuck, OkX_guard, o_addS, o_addT, o_addLL, o_addRL, o_addII, o_subI, o_mulI, o_mulS, o_fdivI, o_modI, o_powI, o_negI, o_ltI, o_leI, o_gtI, o_geI, o_ltS, o_leS, o_gtS, o_geS, o_eqI, o_eqS, o_neI, o_neS, o_isD, o_isnotD, o_inS, o_ixS, o_ixT, o_ixL, o_ixR, o_slS, o_slT, o_slL, o_slR, o_lenS, o_lenT, o_lenL, o_lenR, o_absI, o_intI, o_intB, o_tupT, o_tupL, o_tupR, o_maxI, o_minI,   List.set_cons_zero, List.set_cons_succ, List.getElem?_cons_zero, List.getElem?_cons_succ, List.map_cons, List.map_nil, List.length_cons, List.length_nil, List.replicate_succ, List.replicate_zero, List.cons_append, List.nil_append, Nat.reduceSub, Nat.reduceAdd, Nat.reduceLeDiff, exists_eq_left', D.bl.injEq, D.int.injEq, D.str.injEq, D.ref.injEq, D.tup.injEq, true_and, and_true, if_true, if_false, Bool.false_eq_true, Bool.not_true, Bool.not_false, decide_true, decide_false, bindP, bindPs, isK, atI_0, atI_1, atI_2, atI_3, ixN_0, ixN_1, Nat.zero_add, LINE, Nat.zero_le, truD, wipeD, Option.some.injEq]
    refine ⟨by omega, ?_⟩
    obtain ⟨j, hj, i2⟩ := i.step (by omega)
    refine ⟨j, hj, d, c % d, by rw [fmodN], i2, ?_⟩
    rw [← e, Nat.gcd_comm d, ← Nat.gcd_rec, Nat.gcd_comm]
/-- the number that turns n within m -/
noncomputable def invOf (n m : Int) : Int := open Classical in if h : ∃ r, 0 ≤ r ∧ r < m ∧ m ∣ r * n - 1 then h.choose else 0
theorem inv_uniq {n m r s : Int} (hr : 0 ≤ r ∧ r < m ∧ m ∣ r * n - 1) (hs : 0 ≤ s ∧ s < m ∧ m ∣ s * n - 1) : r = s := by
  have h : m ∣ r - s := by
    have := Int.dvd_sub (Int.dvd_trans hs.2.2 (Int.dvd_mul_left r _)) (Int.dvd_trans hr.2.2 (Int.dvd_mul_left s _))
    have e : r * (s * n - 1) - s * (r * n - 1) = s - r := by grind
    rw [e] at this
    have := Int.dvd_neg.mpr this
    rwa [Int.neg_sub] at this
  obtain ⟨k, e⟩ := h
  have h1 : -m < m * k := by omega
  have h2 : m * k < m := by omega
  have hm : 0 < m := by omega
  have : k = 0 := by
    rcases Int.lt_trichotomy k 0 with z | z | z
    · have : m * k ≤ m * (-1) := Int.mul_le_mul_of_nonneg_left (by omega) (by omega)
      omega
    · exact z
    · have : m * 1 ≤ m * k := Int.mul_le_mul_of_nonneg_left (by omega) (by omega)
      omega
  subst this; omega
theorem inv_eq {n m r : Int} (hr : 0 ≤ r ∧ r < m ∧ m ∣ r * n - 1) : invOf n m = r := by
  unfold invOf
  have hex : ∃ r, 0 ≤ r ∧ r < m ∧ m ∣ r * n - 1 := ⟨r, hr⟩
  rw [dif_pos hex]
  exact inv_uniq hex.choose_spec hr
theorem bezout : ∀ (m n : Nat), ∃ s t : Int, (m : Int) * s + n * t = (Nat.gcd m n : Nat) := by
  intro m n
  induction m, n using Nat.gcd.induction with
  | H0 n => exact ⟨0, 1, by simp⟩
  | H1 m n h ih =>
    obtain ⟨s, t, e⟩ := ih
    refine ⟨t - ((n / m : Nat) : Int) * s, s, ?_⟩
    rw [Nat.gcd_rec, ← e]
    have h3 : ((m * (n / m) + n % m : Nat) : Int) = (n : Int) := by rw [Nat.div_add_mod]
    rw [Int.natCast_add, Int.natCast_mul] at h3
    rw [← h3]
    grind
theorem bezoutZ (x y : Int) : ∃ s t : Int, x * s + y * t = (Int.gcd x y : Nat) := by
  obtain ⟨s, t, e⟩ := bezout x.natAbs y.natAbs
  have e2 : (Nat.gcd x.natAbs y.natAbs : Nat) = Int.gcd x y := rfl
  rw [e2] at e
  rcases Int.natAbs_eq x with hx | hx <;> rcases Int.natAbs_eq y with hy | hy
  · exact ⟨s, t, by rw [← e]; rw [← hx, ← hy]⟩
  · refine ⟨s, -t, ?_⟩
    rw [← e]
    have : y * -t = (y.natAbs : Int) * t := by
      have : (y.natAbs : Int) = -y := by omega
      rw [this]; grind
    rw [this, ← hx]
  · refine ⟨-s, t, ?_⟩
    rw [← e]
    have : x * -s = (x.natAbs : Int) * s := by
      have : (x.natAbs : Int) = -x := by omega
      rw [this]; grind
    rw [this, ← hy]
  · refine ⟨-s, -t, ?_⟩
    rw [← e]
    have h1 : x * -s = (x.natAbs : Int) * s := by
      have : (x.natAbs : Int) = -x := by omega
      rw [this]; grind
    have h2 : y * -t = (y.natAbs : Int) * t := by
      have : (y.natAbs : Int) = -y := by omega
      rw [this]; grind
    rw [h1, h2]
theorem inv_exists {x : Int} {many : Nat} (h0 : 0 < many) (hg : Int.gcd x many = 1) : ∃ r, 0 ≤ r ∧ r < (many : Int) ∧ (many : Int) ∣ r * x - 1 := by
  obtain ⟨s, t, e⟩ := bezoutZ x many
  rw [hg] at e
  refine ⟨s % many, Int.emod_nonneg _ (by omega), Int.emod_lt_of_pos _ (by omega), ?_⟩
  have h1 : (many : Int) ∣ s % many - s := Int.dvd_sub_self_of_emod_eq rfl
  have h2 := Int.dvd_sub (Int.dvd_trans h1 (Int.dvd_mul_right _ x)) (Int.dvd_mul_right (many : Int) t)
  have e2 : (s % many - s) * x - many * t = s % many * x - 1 := by
    have : x * s + many * t = 1 := by rw [e]; rfl
    grind
  rwa [e2] at h2
end MP
namespace MP
open PySem PySem.Spec PyProof.Rows L2
/-! sizes -/
def Sm (n : Nat) (i : Int) : Prop := i.natAbs < 2 ^ n
theorem Sm.mono {m n : Nat} {i : Int} (h : Sm m i) (k : m ≤ n) : Sm n i := Nat.lt_of_lt_of_le h (Nat.pow_le_pow_right (by decide) k)
theorem Sm.mul {m n : Nat} {i j : Int} (h : Sm m i) (k : Sm n j) : Sm (m + n) (i * j) := by
  unfold Sm at *
  rw [Int.natAbs_mul, Nat.pow_add]
  exact Nat.mul_lt_mul'' h k
theorem Sm.add {m : Nat} {i j : Int} (h : Sm m i) (k : Sm m j) : Sm (m + 1) (i + j) := by
  unfold Sm at *
  rw [Nat.pow_succ]; omega
theorem Sm.sub {m : Nat} {i j : Int} (h : Sm m i) (k : Sm m j) : Sm (m + 1) (i - j) := by
  unfold Sm at *
  rw [Nat.pow_succ]; omega
theorem Sm.neg {m : Nat} {i : Int} (h : Sm m i) : Sm m (-i) := by unfold Sm at *; omega
theorem Sm.ok {m n : Nat} {i j : Int} (h : Sm m i) (k : Sm n j) (l : m + n ≤ 134217728 := by omega) : mulOk i j := mulx_ok h k l
theorem Sm.of {m : Nat} {i : Int} {b : Int} (h1 : -b < i) (h2 : i < b) (h3 : b ≤ 2 ^ m) : Sm m i := by
  unfold Sm
  have : ((2 ^ m : Nat) : Int) = 2 ^ m := by simp
  omega
/-! tables -/
abbrev Tb := Int × Int × Int × Int
abbrev dT (t : Tb) : D := .tup [.int t.1, .int t.2.1, .int t.2.2.1, .int t.2.2.2]
abbrev dP (p : Int × Int) : D := .tup [.int p.1, .int p.2]
def mulT (s t : Tb) : Tb := (s.1 * t.1 + s.2.1 * t.2.2.1, s.1 * t.2.1 + s.2.1 * t.2.2.2, s.2.2.1 * t.1 + s.2.2.2 * t.2.2.1, s.2.2.1 * t.2.1 + s.2.2.2 * t.2.2.2)
def undT (t : Tb) : Tb := (t.2.2.2, -t.2.1, -t.2.2.1, t.1)
def ledP (p : Int × Int) (t : Tb) : Int × Int := (p.1 * t.1 + p.2 * t.2.2.1, p.1 * t.2.1 + p.2 * t.2.2.2)
def detT (t : Tb) : Int := t.1 * t.2.2.2 - t.2.1 * t.2.2.1
structure SmT (n : Nat) (t : Tb) : Prop where
  a : Sm n t.1
  b : Sm n t.2.1
  c : Sm n t.2.2.1
  d : Sm n t.2.2.2
theorem SmT.mono {m n : Nat} {t : Tb} (h : SmT m t) (k : m ≤ n) : SmT n t := ⟨h.a.mono k, h.b.mono k, h.c.mono k, h.d.mono k⟩
theorem SmT.mul {m n : Nat} {s t : Tb} (h : SmT m s) (k : SmT n t) : SmT (m + n + 1) (mulT s t) :=
  ⟨(h.a.mul k.a).add (h.b.mul k.c), (h.a.mul k.b).add (h.b.mul k.d), (h.c.mul k.a).add (h.d.mul k.c), (h.c.mul k.b).add (h.d.mul k.d)⟩
theorem SmT.und {m : Nat} {t : Tb} (h : SmT m t) : SmT m (undT t) := ⟨h.d, h.b.neg, h.c.neg, h.a⟩
theorem mulT_assoc (r s t : Tb) : mulT (mulT r s) t = mulT r (mulT s t) := by
  unfold mulT
  refine Prod.ext ?_ (Prod.ext ?_ (Prod.ext ?_ ?_)) <;> simp only <;> grind
theorem led_mul (p : Int × Int) (s t : Tb) : ledP p (mulT s t) = ledP (ledP p s) t := by
  unfold ledP mulT
  refine Prod.ext ?_ ?_ <;> simp only <;> grind
theorem det_mul (s t : Tb) : detT (mulT s t) = detT s * detT t := by unfold detT mulT; simp only; grind
theorem det_und (t : Tb) : detT (undT t) = detT t := by unfold detT undT; simp only; grind
theorem und_mul {t : Tb} (h : detT t = 1) : mulT (undT t) t = (1, 0, 0, 1) := by
  unfold detT at h
  unfold mulT undT
  refine Prod.ext ?_ (Prod.ext ?_ (Prod.ext ?_ ?_)) <;> simp only <;> grind
theorem mul_und {t : Tb} (h : detT t = 1) : mulT t (undT t) = (1, 0, 0, 1) := by
  unfold detT at h
  unfold mulT undT
  refine Prod.ext ?_ (Prod.ext ?_ (Prod.ext ?_ ?_)) <;> simp only <;> grind
theorem one_mul (t : Tb) : mulT (1, 0, 0, 1) t = t := by
  unfold mulT
  refine Prod.ext ?_ (Prod.ext ?_ (Prod.ext ?_ ?_)) <;> simp only <;> grind
theorem mul_one (t : Tb) : mulT t (1, 0, 0, 1) = t := by
  unfold mulT
  refine Prod.ext ?_ (Prod.ext ?_ (Prod.ext ?_ ?_)) <;> simp only <;> grind
theorem und_mulT (s t : Tb) : undT (mulT s t) = mulT (undT t) (undT s) := by
  unfold mulT undT
  refine Prod.ext ?_ (Prod.ext ?_ (Prod.ext ?_ ?_)) <;> simp only <;> grind
theorem und_und (t : Tb) : undT (undT t) = t := by
  unfold undT
  refine Prod.ext ?_ (Prod.ext ?_ (Prod.ext ?_ ?_)) <;> simp
end MP
end
section
set_option Elab.async false
set_option linter.all false
set_option maxRecDepth 100000
set_option maxHeartbeats 2000000
/-! M30: insert. -/
namespace MP
open PySem PySem.Spec PyProof.Rows L2
abbrev rInsert : V → List V → Hp → VK → Prop := fun x vs H Q => ∃ (l : Addr) (xs : List V) (i : Int) (y : V), x = .ref l ∧ vs = [.int i, y] ∧ H l = some (.lst xs) ∧ xs.length < sizeLine ∧ 0 ≤ i ∧ i < 2 ^ 63 ∧
    Q .non (upd H l (.lst (xs.take i.toNat ++ [y] ++ xs.drop i.toNat)))
def gInsert : List D → List D → Option (D × List D) := fun es ds => match ds with
  | [.int i, d] => if es.length < LINE ∧ 0 ≤ i ∧ i < 1099511627776 then some (.non, es.take i.toNat ++ [d] ++ es.drop i.toNat) else none
  | _ => none
theorem ok_insert {Γ : G} : MtOk Γ rInsert gInsert := by
  intro μ H l vs ws es ds d es' hl k1 k2 e
  unfold gInsert at e
  split at e
  · rename_i i d0
    split at e
    · rename_i hn
      cases e
      obtain ⟨v, w, rfl, k3, k4⟩ := dens2 k2
      cases (show v = _ from k3)
      exact ⟨.non, vs.take i.toNat ++ [w] ++ vs.drop i.toNat, rfl, ((k1.take _).append (Dens.one k4)).append (k1.drop _), fun Q q => ⟨l, vs, i, w, rfl, rfl, hl, by rw [line_eq, k1.length]; exact hn.1, hn.2.1, by omega, q⟩⟩
    · cases e
  · cases e
end MP
end
section
set_option Elab.async false
set_option linter.all false
set_option maxRecDepth 100000
set_option maxHeartbeats 2000000
/-! M31: defs that raise nothing, called where an exception may be handled; suites whose row has a call. -/
namespace MP
open PySem PySem.Spec PyProof.Rows L2
abbrev noE : XK := fun _ _ _ => False
/-- what a def promises that raises nothing, whatever is handled -/
structure FnQ (P : Program) (w : World) (K : PySem.W.Frag) (mg : Str → Option Value) (base : Heap) (k : Nat) (f : Addr) (fd : FuncData) (ps : List Str) (sp : Sp) : Prop where
  len : ∀ vs H Q E, sp vs H Q E → vs.length = ps.length
  run : ∀ (A : Around) (outer : List Env) (s : Shared) (H : Hp) (args : Args) (us : List Value) (vs : List V) (Q : VK), L2H.RoomH k A → Env0 P w K mg base A outer s H → BindsTo s fd args (ps.zip us) → Vals vs us → sp vs H Q noE →
    codeAny (model P w) A (.call (.ref f) args) (CR (CX P w) outer P w H s Q noE) s
theorem FnQ.mono {P : Program} {w : World} {K : PySem.W.Frag} {mg : Str → Option Value} {base : Heap} {j k : Nat} {f : Addr} {fd : FuncData} {ps : List Str} {sp : Sp} (F : FnQ P w K mg base j f fd ps sp) (h : j ≤ k) :
    FnQ P w K mg base k f fd ps sp := ⟨F.len, fun A outer s H args us vs Q hr => F.run A outer s H args us vs Q (hr.mono h)⟩
/-- the context of such a def's body -/
def cxQ (P : Program) (w : World) (K : PySem.W.Frag) (mg : Str → Option Value) (base : Heap) (N : List Str) (qual : Str) (scope : Scope) (f : Addr) (cd : Value) (A : Around) (outer : List Env) (s : Shared) (H : Hp) : Cx :=
  { cxOf (CX P w) P w K mg base N qual scope f cd A outer s H noE with calm := false }
/-- what is handled does not matter where nothing is raised -/
theorem inv_q {X : Cx} {A : Around} {xe : Value → Shared → Prop} {pins : List (Addr × Obj)} {σ : L2.St} {H : Hp} {s : Shared} (hf : A.frames = some X.stack) (I : Inv X pins σ H s) : Inv { X with A := A, calm := false, xe := xe } pins σ H s :=
  ⟨⟨I.ok.mod, I.ok.kind, I.ok.glob, I.ok.blt, I.ok.above, I.ok.inj, I.ok.has, I.ok.cab, (fun z => Bool.noConfusion (show false = true from z)), hf, I.ok.stk, I.ok.exf, I.ok.bs, I.ok.bsz, I.ok.noex, I.ok.exfs, I.ok.funs, I.ok.frf⟩,
    I.os, I.bare, I.base, I.loc, I.cell, I.free, I.freeC, I.pin, I.hok, I.len⟩
theorem fn_ofQ {P : Program} {w : World} {K : PySem.W.Frag} {mg : Str → Option Value} {base : Heap} {k : Nat} {f : Addr} {name qual : Str} {params : Arguments} {body : List Stmt} {scope : Scope} {dV kV doc pm cdv ct oc : Value} {an od : Option Addr}
    {osl : Array (Option Value)} {N ps : List Str} {sp : Sp} (lk : K.lookup f = some ⟨oc, od, .func (PySem.W.fnOf name qual params body scope dV kV doc pm an cdv ct), osl⟩) (hcd : PySem.W.codeIn K cdv qual = true) (S : FnScope N ps scope)
    (len : ∀ vs H Q E, sp vs H Q E → vs.length = ps.length)
    (hbody : ∀ (A : Around) (outer : List Env) (s : Shared) (H : Hp) (vs : List V) (Q : VK), L2H.RoomH k (A.deeper (envOfC qual scope s.heap.objs.size f cdv)) → sp vs H Q noE →
      ∃ t, PSs (cxQ P w K mg base N qual scope f cdv A outer s H) body t ∧ t { nx := fun _ H' => Q .non H', rt := Q } (L2.start N vs) H) :
    FnQ P w K mg base (k + 1) f (PySem.W.fnOf name qual params body scope dV kV doc pm an cdv ct) ps sp := by
  refine ⟨len, fun A outer s H args us vs Q hr e0 hb r hsp => ?_⟩
  have hl := len _ _ _ _ hsp
  have KX : K.In s.heap := e0.mod.kin.keeps fun b o e => (e0.bs b o e).1
  have lim : s.heap.NoLimit := e0.mod.nolimit.keeps fun b o e => (e0.bs b o e).1
  have hkind : ∀ y ∈ ps.zip us, scope.names.lookup y.1 = some .local ∨ (scope.names.lookup y.1 = some .cell ∧ ((cellsFrom (s.heap.objs.size + 1) scope.names []).lookup y.1).isSome = true) := fun ⟨n, v⟩ hy => by
    rcases S.par n (List.of_mem_zip hy).1 with q | q
    · exact .inl q
    · exact .inr ⟨q, PySem.W.cellsFrom_some _ _ _ (.inl q)⟩
  refine codeAny_call_function hr.depth (KX _ _ lk) rfl S.co S.gen rfl (PySem.W.codeRec_of KX hcd) (hb _ _ _ _ ?_)
  refine wpAny_newFunctionEnv_cells S.kind hkind fun env he s1 x => ?_
  subst he
  refine ⟨lim.keeps x.toInCall.keep, codeAny_func ?_⟩
  obtain ⟨t, ht, hq⟩ := hbody A outer s H vs Q (hr.deeper _) hsp
  have e1 : Env0 P w K mg base { A with handled := none } outer s H := ⟨e0.frames, e0.mod, e0.bs, e0.bsz, e0.funs, e0.frf, e0.hok, e0.bare⟩
  have I0 : Inv (cxOf (CX P w) P w K mg base N qual scope f cdv { A with handled := none } outer s H noE) [] (L2.start N vs) H s1 := inv_start S rfl e1 hl r x
  have I : Inv (cxQ P w K mg base N qual scope f cdv A outer s H) [] (L2.start N vs) H s1 := inv_q (X := cxOf (CX P w) P w K mg base N qual scope f cdv { A with handled := none } outer s H noE) (A := A.deeper (envOfC qual scope s.heap.objs.size f cdv)) (xe := (cxQ P w K mg base N qual scope f cdv A outer s H).xe) (Around.frames_deeper e0.frames) I0
  refine wpAny_mono (ht.run [] s1 (L2.start N vs) H _ I hq) (fun fl s' hs => ?_) fun e s' hs => hs
  have fin : ∀ {σ' : L2.St} {H' : Hp} {v : V} {u : Value}, Inv (cxQ P w K mg base N qual scope f cdv A outer s H) [] σ' H' s' → RelV v u → Q v H' → CE outer P w H s Q u s' :=
    fun {σ' H' v u} J rv q => ⟨v, H', J.os, J.bare, J.base, J.hok, rv, q⟩
  cases fl with
  | ret u =>
    obtain ⟨v, σ', H', J, rv, q⟩ := hs
    exact fin J rv q
  | next =>
    obtain ⟨σ', H', J, q⟩ := hs
    exact fin (v := V.non) (u := Value.none) J rfl q
  | brk =>
    obtain ⟨_, _, _, q⟩ := hs
    exact False.elim q
  | cont =>
    obtain ⟨_, _, _, q⟩ := hs
    exact False.elim q
theorem fn_mirQ {Γ : G} {P : Program} {w : World} {K : PySem.W.Frag} {mg : Str → Option Value} {base : Heap} {x qual : Str} {params : Arguments} {body : List Stmt} {scope : Scope} {dvs : List V} {kws : List (Str × V)} {f : Addr} {fd : FuncData} {N ps : List Str} {b : MS} {k : Nat}
    (F : FunD K x qual params body scope dvs kws f fd) (S : FnScope N ps scope)
    (hbody : ∀ (cdv : Value) (A : Around) (outer : List Env) (s : Shared) (H : Hp), L2H.RoomH k (A.deeper (envOfC qual scope s.heap.objs.size f cdv)) → FSs (cxQ P w K mg base N qual scope f cdv A outer s H) Γ W0 body b) :
    FnQ P w K mg base (k + 1) f fd ps (spF Γ ps.length (runF N.length b)) := by
  obtain ⟨oc, od, dV, kV, doc, pm, an, cdv, ct, osl, rfl, lk, hcd, _, _⟩ := F.ex
  refine fn_ofQ lk hcd S (fun vs H Q E h => h.1) fun A outer s H vs Q hr h => ⟨_, (hbody cdv A outer s H hr).ok, ?_⟩
  obtain ⟨hl, ds, h, μ, dv, r, q⟩ := h
  refine ⟨_, h, μ, env_start dv, r, ?_⟩
  unfold runF at q
  cases eb : b (ds.map some ++ List.replicate (N.length - ds.length) none) h with
  | nx ρ h1 => rw [eb] at q; exact fun σ' H' μ' e1 he1 hr1 => q .non H' μ' e1 hr1 rfl
  | rt d h1 => rw [eb] at q; exact q
  | err e ρ h1 => rw [eb] at q; exact fun c d σ' H' μ' e1 he1 hr1 x => q c d H' μ' e1 hr1 x
  | bk _ _ => rw [eb] at q; exact False.elim q
  | ct _ _ => rw [eb] at q; exact False.elim q
  | stuck => rw [eb] at q; exact False.elim q
section
variable {X : Cx} {Γ : G} {W : WX} {k n : Nat} {f : Addr} {fd : FuncData} {ps : List Str} {sp : Sp} {x : Str} {p pos : Pos} {e : Expr} {es : List Expr} {fa : MA} {fm : MF}
/-- the callee runs, and raises nothing -/
theorem run_fnQ {pins : List (Addr × Obj)} {σ : L2.St} {H : Hp} {s : Shared} {Q : VK} {us : List Value} {vs : List V} {args : Args} (F : FnQ X.prog X.w X.K X.mg X.base k f fd ps sp) (hr : L2H.RoomH k X.A)
    (I : Inv X pins σ H s) (hb : BindsTo s fd args (ps.zip us)) (r : Vals vs us) (h : sp vs H Q noE) : wpAny (model X.prog X.w) X.A (call (.ref f) args.pos args.kw) (EP X pins σ Q) X.xe s := by
  refine wpAny_call (codeAny_mono (F.run X.A X.stack s H args us vs Q hr I.env0 hb r h) fun r s' hq => ?_)
  cases r with
  | error e =>
    have xx : XE X W0 e s' := XE.of_call I (fun _ _ _ h => h) hq
    exact takes0 e s' xx
  | ok fl =>
    cases fl with
    | ret u => exact I.after hq
    | next => exact False.elim hq
    | brk => exact False.elim hq
    | cont => exact False.elim hq
def calmR : Res D → Res D
  | .ok d h => .ok d h
  | _ => .stuck
def xCallQ (g : MF) (fa : MA) : ME := fun ρ h => (fa ρ h).bind fun ds h1 => calmR (g ds h1)
/-- a mirror that is always stuck -/
def xStuck : ME := fun _ _ => .stuck
theorem fe_stuck : FE X Γ W e xStuck := ⟨⟨fun pins s σ H Q I q => by
  obtain ⟨ρ, h, μ, _, _, q⟩ := q
  exact False.elim q⟩⟩
theorem calm_good {σ : L2.St} {H : Hp} {μ : List Addr} {Q : VK} {r : Res D} (q : Good Γ W σ H μ (denE Γ) Q (calmR r)) : Good Γ W0 [] H μ (denE Γ) Q r := by
  cases r with
  | ok d h => exact q
  | err _ _ => exact False.elim q
  | stuck => exact False.elim q
theorem fe_callQ (F : FnQ X.prog X.w X.K X.mg X.base k f fd ps (spF Γ ps.length fm)) (hr : L2H.RoomH k X.A) (hg : Gl X x) (hm : X.mg x = some (.ref f)) (hk : PySem.W.keepIn X.K (.ref f) = true) (hb : Binds X.K fd ps [])
    (ha : FA X Γ W (e :: es) fa) {m : Nat} (hl : LenA fa m) (hn : m = ps.length) (hdb : (x == ("__debug__" : Str)) = false := by decide) (he : starEach (e :: es) X.env = (false, eval e X.env) :: starEach es X.env := by rfl) (hpl : (backTo pos (starEach es X.env)).any (·.1) = false := by rfl) :
    FE X Γ W (.Call (.Name x p) (e :: es) [] pos) (xCallQ fm fa) := by
  refine ⟨⟨fun pins s σ H Q I q => ?_⟩⟩
  obtain ⟨ρ, h, μ, heq, hrr, q⟩ := q
  refine wpAny_Call_Name_kw (ld_glob I hg hm ?_ hdb)
  have tq : tA Γ W fa σ H fun vs H1 => vs.length = m ∧ spF Γ ps.length fm vs H1 Q noE := by
    refine ⟨ρ, h, μ, heq, hrr, Good.bind q fun a h1 v H1 μ1 z1 e1 r1 d1 q1 => ?_⟩
    have l := hl _ _ _ _ z1
    have l2 := d1.length
    exact ⟨l2.trans l, (l2.trans l).trans hn, a, h1, μ1, d1, r1, calm_good q1⟩
  refine PySem.W.callWith_K (h₀ := X.base) I.ok.mod.kin hk (thn (ha.ok.run pos pins s σ H _ I tq) fun us s1 ⟨vs, H1, I1, r, l, q⟩ => ⟨I1.kIn, ?_⟩) he hpl
  have b := hb s1 us I1.kIn (by rw [List.append_nil, ← r.length]; exact q.1)
  rw [List.append_nil] at b
  exact run_fnQ (args := ⟨us, []⟩) F hr I1 b r q
theorem pe_callQ {t : TA} (F : FnQ X.prog X.w X.K X.mg X.base k f fd ps sp) (hr : L2H.RoomH k X.A) (hg : Gl X x) (hm : X.mg x = some (.ref f)) (hk : PySem.W.keepIn X.K (.ref f) = true) (hb : Binds X.K fd ps [])
    (ha : PA X (e :: es) t) (hdb : (x == ("__debug__" : Str)) = false) (he : starEach (e :: es) X.env = (false, eval e X.env) :: starEach es X.env := by rfl) (hpl : (backTo pos (starEach es X.env)).any (·.1) = false := by rfl) :
    PE X (.Call (.Name x p) (e :: es) [] pos) fun σ H Q => t σ H fun vs H1 => sp vs H1 Q noE := by
  refine ⟨fun pins s σ H Q I q => ?_⟩
  refine wpAny_Call_Name_kw (ld_glob I hg hm ?_ hdb)
  refine PySem.W.callWith_K (h₀ := X.base) I.ok.mod.kin hk (thn (ha.run pos pins s σ H _ I q) fun us s1 ⟨vs, H1, I1, r, q⟩ => ⟨I1.kIn, ?_⟩) he hpl
  have hl := F.len _ _ _ _ q
  have b := hb s1 us I1.kIn (by rw [List.append_nil, ← r.length]; exact hl)
  rw [List.append_nil] at b
  exact run_fnQ (args := ⟨us, []⟩) F hr I1 b r q
/-! ### suites: return ('x', g(e.f)) -/
def goRetC (l : List Nat) (fm : MF) (x : Str) (e : Ex) : MS := fun _ h => match e.fs.lookup x with
  | some d => match fm [d] h with
    | .ok d' h' => .rt (.tup [.str l, d']) h'
    | _ => .stuck
  | none => .stuck
theorem fc_retC {y g n fld s0 pr : Str} {l : List Nat} {i : Nat} {C : Addr} {cv : Value} {tab : Str → Option Bool} {kk : Nat} {j : Nat} {np np2 ap gp cp c1 tp pos pos' : Pos} (hX : CxG X Γ) (hn : Names X y cv) (hm : X.mg y = some (.ref C)) (T : XfC X.K C) (hi : X.N[i]? = some n) (hv : Vis X.env.scope n) (hd : (n == ("__debug__" : Str)) = false) (hcd : (n == ("__classdict__" : Str)) = false)
    (hb : ∀ x, attributeBase (.Name n default) x X.env (eval (.Name n default) X.env) = eval (.Name n default) X.env) (ht : ∀ (y : Str) (b : Bool) (C : Addr), tab y = some b → X.mg y = some (.ref C) → PySem.W.exmOne X.K (.ref C) cv = some b) (h1 : ∀ z, tab z = some true → z = y)
    (hno : PySem.W.findIn X.K (.ref C) fld = some none) (hs : s0 = S l)
    (F : FnQ X.prog X.w X.K X.mg X.base k f fd [pr] (spF Γ 1 fm)) (hr : Room k X.A) (hg : Gl X g) (hgm : X.mg g = some (.ref f)) (hk : PySem.W.keepIn X.K (.ref f) = true) (hbd : Binds X.K fd [pr] []) (hdb : (g == ("__debug__" : Str)) = false := by decide) :
    FC X Γ i n (.ExceptHandler (some (.Name y np)) (some n) [.Return (some (.Tuple [.Constant (.str s0) j c1, .Call (.Name g gp) [.Attribute (.Name n np2) fld ap] [] cp] kk tp)) pos] pos') ⟨tab, goRetC l fm fld⟩ := by
  have call : ∀ (a : Addr) (oe : Obj) (cls : Value) (d : Option Addr) (pn : List (Addr × Obj)), Zc cls d oe → (∃ vs, oe.data = .fields vs) → PE (X.suite a ((a, oe) :: pn)) (.Call (.Name g gp) [.Attribute (.Name n np2) fld ap] [] cp) fun σ H Q => tIts a cls d C i [.f fld] σ H fun vs H1 => spF Γ 1 fm vs H1 Q noE :=
    fun a oe cls d pn hz hf => pe_callQ (X := X.suite a ((a, oe) :: pn)) F ⟨hr.dp, hr.un⟩ hg hgm hk hbd (its_run T hi hv hd hcd hz hf hb (.f hno .nil)) hdb
  refine ⟨y, np, pos', _, [], cv, fun a cls d => fun D σ H => tTup (tCons (fun σ H Q => Q (.str s0) H) (tCons (fun σ H Q => tIts a cls d C i [.f fld] σ H fun vs H1 => spF Γ 1 fm vs H1 Q noE) fun σ H Q => Q [] H)) σ H D.rt, rfl, hn, fun a oe cls d pn hz hf => pss_one (ps_ret (pe_tup (pa_cons pe_str (pa_cons (call a oe cls d pn hz hf) pa_nil rfl) rfl))), fun z b C' e m => ht z b C' e (by rw [hX.m]; exact m), ?_⟩
  intro e a cls d σ ρ H μ h N et he es r xx gg
  have ex := h1 _ et
  obtain ⟨C', dx, vs, rfl, rfl, em, e4, e5⟩ := xx
  have g' : GoodS Γ W0 H μ N (match e.fs.lookup fld with | some d => (match fm [d] h with | .ok d' h' => .rt (.tup [.str l, d']) h' | _ => .stuck) | none => .stuck) := gg
  split at g'
  case h_2 => exact False.elim g'
  rename_i d0 ed
  have hC : C' = C := by
    have em' : Γ.mg e.cls = some (.ref C') := em
    rw [ex, ← hX.m, hm] at em'
    cases em'; rfl
  subst hC
  have ei : itsD e.fs [.f fld] = some [d0] := by
    show (match e.fs.lookup fld, itsD e.fs [] with | some d, some ds => some (d :: ds) | _, _ => none) = some [d0]
    rw [ed]
    rfl
  obtain ⟨us, f1, f2⟩ := its_den e5 ei
  refine ⟨rfl, es, dx, _, us, rfl, e4, f1, f2.length, [d0], h, μ, f2, r, ?_⟩
  cases ef : fm [d0] h with
  | ok d' h' =>
    rw [ef] at g'
    intro v H1 μ1 ex1 r1 d1
    refine ⟨by rw [line_eq]; show 2 ≤ LINE; decide, fun p hp => ?_⟩
    refine g' _ _ μ1 (ex1.trans (Ext.laid hp)) (r1.laid hp) ⟨p, [.str s0, v], rfl, .inl ⟨r1.fresh hp, .inl upd_same⟩, _, _, rfl, by rw [hs]; rfl, _, _, rfl, d1.mono (Ext.laid hp), rfl⟩
  | err _ _ => rw [ef] at g'; exact False.elim g'
  | stuck => rw [ef] at g'; exact False.elim g'
end
end MP
end
section
set_option Elab.async false
set_option linter.all false
set_option maxRecDepth 100000
set_option maxHeartbeats 2000000
/-! M32: comprehensions whose things call a def with a lambda that captures; more methods of lists. -/
namespace MP
open PySem PySem.Spec PyProof.Rows L2 LamX

/-- the loop of a block Y that raises nothing, by what each turn leaves: V by the turn and a measure -/
theorem blk_turns {Y : Cx} {tgt it0 thing : Expr} {tests : List Expr} {bsc : Scope} {at_ : Pos} {walk : It} {mine : List Addr} {iter acc : Addr} {stand : Nat → Heap → Prop} {bind : TG} {test : TT} {say : TE} {σ : L2.St} {V : Nat → Nat → Hp → Prop} {last : Hp → Prop} {R : Result → Shared → Prop}
    (calm : Y.calm = true) (quiet : Y.xe = fun _ _ => False) (bare : Y.pn = []) (T : Turn Y.prog Y.w Y.K tgt walk mine iter stand)
    (apart : ∀ b ∈ mine, b ≠ Y.env.locals ∧ b ∉ Y.fs ∧ b ∈ Y.ex ∧ ∀ x c, Y.env.cells.lookup x = some c → c ≠ b)
    (hb : PG Y tgt bind) (ht : PTs Y tests test) (hs : PE Y thing say) (same : L2.St → Prop) (hsame : ∀ σ2, same σ2 → σ2.length = σ.length ∧ ∀ (j : Nat) (v : L2.V), σ[j]? = some (some v) → σ2[j]? = some (some v))
    (turn : ∀ i m H, V i m H → (walk.stop i H ∧ last H) ∨ (walk.go i H ∧ ∃ nxt : Hp → Prop, (∀ H', nxt H' → ∃ m', m' < m ∧ V (i + 1) m' H') ∧ ∀ x H', walk.yld i H x H' → bind x σ H' fun σ2 H2 => same σ2 ∧
      test σ2 H2 fun b H3 => if b = true then say σ2 H3 fun y H4 => ∃ ys, H4 acc = some (.lst ys) ∧ ys.length < sizeLine ∧ nxt (upd H4 acc (.lst (ys ++ [y]))) else nxt H3))
    (fin : ∀ s' H', Inv Y [] σ H' s' → last H' → R (.ok .next) s') {m : Nat} {H : Hp} {s : Shared} (I : Inv Y [] σ H s) (st : stand 0 s.heap) (free : ∀ b ∈ mine, H b = none) (v0 : V 0 m H) :
    codeAny (model Y.prog Y.w) Y.A (.compLoop (.ListComp thing [⟨tgt, it0, tests, 0⟩] bsc at_) 0 (.ref iter) (.ref acc) Y.env) R s := by
  have mineOk : ∀ (H' : Hp), (∀ b ∈ mine, H' b = none) → ∀ b ∈ mine, FpOk Y [] H' b := fun H' n b hb => by
    obtain ⟨a1, a2, a3, a4⟩ := apart b hb
    refine ⟨n b hb, a1, a2, .inl a3, a4, fun p hp => ?_⟩
    rw [bare] at hp
    exact absurd hp (by simp)
  have still : ∀ {α : Type} {t : Sem α} {P Q : α → Shared → Prop} {E : Value → Shared → Prop} {s' : Shared}, wpAny (model Y.prog Y.w) Y.A t P Y.xe s' → (∀ a s, P a s → Q a s) → wpAny (model Y.prog Y.w) Y.A t Q E s' :=
    fun h k => wpAny_mono h k fun _ _ z => by rw [quiet] at z; exact z.elim
  refine compLoop_any (fun n s' => ∃ i H', (Inv Y [] σ H' s' ∧ stand i s'.heap) ∧ (∀ b ∈ mine, H' b = none) ∧ V i n H') (fun n s1 h1 => ?_) m ⟨0, H, ⟨I, st⟩, free, v0⟩
  obtain ⟨i, H1, ⟨I1, st1⟩, f1, v1⟩ := h1
  rcases turn i n H1 v1 with ⟨stop, l1⟩ | ⟨go, nxt, down, step⟩
  · refine thnF (T.done Y rfl rfl rfl calm i [] s1 _ H1 (fun _ _ => False) I1 (mineOk H1 f1) st1 stop) fun r s2 ⟨e, I2⟩ => ?_
    rw [e]
    exact fin s2 H1 I2 l1
  refine thnF (T.item Y rfl rfl rfl calm i [] s1 _ H1 (fun _ _ => False) I1 (mineOk H1 f1) st1 go) fun r s2 ⟨u, e, h2⟩ => ?_
  rw [e]
  refine thnF h2 fun _ s3 ⟨x, H3, I3, r3, y3, st3, f3⟩ => ?_
  have IP := I3.pinned (mineOk H3 f3) (T.obj _ _ st3)
  refine still (hb.run _ s3 σ H3 x u _ IP r3 (step x H3 y3)) fun _ s4 ⟨σ4, H4, I4, e4, q4⟩ => ?_
  obtain ⟨l4, w4⟩ := hsame σ4 e4
  refine still (ht.run _ s4 σ4 H4 _ I4 q4) fun b s5 ⟨H5, I5, q5⟩ => ?_
  have close : ∀ {s' : Shared} {H' : Hp}, Inv Y ([] ++ pinsAt mine s3.heap) σ4 H' s' → nxt H' → ∃ m', m' < n ∧ ∃ i H', (Inv Y [] σ H' s' ∧ stand i s'.heap) ∧ (∀ b ∈ mine, H' b = none) ∧ V i m' H' := fun {s' H'} J nx => by
    obtain ⟨m', lt, vv⟩ := down H' nx
    have same : ∀ b ∈ mine, ∀ o, s3.heap.get? b = some o → s'.heap.get? b = some o ∧ H' b = none := fun b hb o e => by
      obtain ⟨k1, k2, _⟩ := J.pin (b, o) (List.mem_append_right _ (List.mem_append_right _ (mem_pinsAt hb e)))
      exact ⟨k1, k2⟩
    refine ⟨m', lt, i + 1, H', ⟨(Inv.unpinned (pins := []) J).weak l4.symm w4, T.keep _ _ _ st3 fun b hb o e => (same b hb o e).1⟩, fun b hb => ?_, vv⟩
    obtain ⟨o, e, _⟩ := T.obj _ _ st3 b hb
    exact (same b hb o e).2
  cases b with
  | false => exact close I5 q5
  | true =>
    refine still (hs.run _ s5 σ4 H5 _ I5 q5) fun z s6 ⟨y, H6, I6, r6, ys, e6, l6, nx⟩ => ?_
    exact L2.app_ok I6 e6 l6 r6 fun s7 I7 => close I7 nx
section
variable {X : Cx} {Γ : G} {W : WX}
/-- the block's cells: those of the frame around, and new ones -/
theorem blk_cells (cn : CellsNew X) {pins : List (Addr × Obj)} {σ : L2.St} {H : Hp} {s : Shared} (I : Inv X pins σ H s) {names : List (Str × NameKind)} (hf : ∀ y ∈ names, y.2 = .free → ∃ c, X.env.cells.lookup y.1 = some c) {y : Str} {c : Addr}
    (e : (cellsFrom (s.heap.objs.size + 1) names (cloFrom X.env.cells names [])).lookup y = some c) : c ∉ frs X.stack ∧ X.base.get? c = none := by
  rw [← Heap.size_push s.heap { cls := .type "dict", data := .dict #[] }] at e
  rcases cells_mem (PySem.mem_of_lookup e) with k | ⟨_, k, _⟩
  · exact cn pins σ H s I y c (clo_cells hf k)
  · rw [Heap.size_push] at k
    have lt : s.heap.objs.size < c := k
    refine ⟨fun z => ?_, Heap.get?_none_of_le (Nat.le_trans (Nat.le_trans I.ok.bsz I.sz) (Nat.le_of_lt lt))⟩
    rcases List.mem_cons.mp (I.stkSub c z) with z | z
    · have := I.lt
      rw [← z] at this
      exact absurd this (Nat.lt_asymm lt)
    · obtain ⟨_, o, ho, _⟩ := I.funs.mem z
      exact absurd (Heap.lt_size ho) (Nat.lt_asymm lt)
section
variable {elt tg iter : Expr} {ifs : List Expr} {scope : Scope} {own : List (Str × Nat)} {pos : Pos} {wi : TI} {g : TG} {tt : TT} {te : TE}
/-- a comprehension whose thing is read only where the block's cells are known to be new -/
theorem pe_lcC (hc : X.calm = true) (cn : CellsNew X) (hN : X.N.Nodup) (hi : PI X tg iter wi) (ok : BlkOk X.N X.env.scope scope own)
    (hg : ∀ s H C cl fp, PG (blkX X scope s H C cl fp) tg g) (ht : ∀ s H C cl fp, (∀ y c, cl.lookup y = some c → c ∉ frs X.stack ∧ X.base.get? c = none) → PTs (blkX X scope s H C cl fp) ifs tt)
    (he : ∀ s H C cl fp, (∀ y c, cl.lookup y = some c → c ∉ frs X.stack ∧ X.base.get? c = none) → PE (blkX X scope s H C cl fp) elt te) (hs : ∀ x, foldedSetIterable iter X.env x = pure x) :
    PE X (.ListComp elt [⟨tg, iter, ifs, 0⟩] scope pos) (tLc wi g tt te (own.map (·.2))) := by
  refine ⟨fun pins s σ H Q I q => ?_⟩
  have caught : ∀ y ∈ scope.names, y.2 = .free → ∃ c, X.env.cells.lookup y.1 = some c := fun y hy e => I.ok.has _ (ok.free y hy e)
  rw [eval_ListComp]
  refine wpAny_comprehension_free (cl := cloFrom X.env.cells scope.names []) rfl hs (closure_ok caught) ok.kind (fun y hy e => e ▸ ok.uniq y hy) ?_
  refine thn (hi.run pins s σ H _ I q) fun xv s1 h1 => thn h1 fun iv s2 ⟨it, fp, tn, J, H2, ei, I2, T, st2, f2, q2⟩ => ?_
  rw [ei]
  refine wpAny_newObj_type (newEnv_comp ?_) (Nat.zero_le _)
  -- the list and the block stand where the heap ends
  let L := s2.heap.objs.size
  let sL : Shared := { s2 with heap := s2.heap.push { cls := .type "list", data := .seq ([] : List Value).toArray } }
  have L0 : H2 L = none := I2.hok.fresh (Nat.le_refl _)
  have grow : ∀ b o, s2.heap.get? b = some o → sL.heap.get? b = some o := fun b o e => Heap.get?_push_of_some _ e
  have IL : Inv X pins σ (upd H2 L (.lst [])) sL := I2.laid (t' := s2.toks) grow (Nat.le_refl _) ⟨Nat.zero_le _, [], 0, .nil, Heap.get?_push_size _ rfl⟩
  have small : ∀ b ∈ fp, b < L := fun b hb => by
    obtain ⟨o, e, _⟩ := T.obj _ _ st2 b hb
    exact Heap.lt_size e
  have fL : ∀ b ∈ fp, FpOk X pins (upd H2 L (.lst [])) b ∧ b < sL.heap.objs.size := fun b hb => by
    obtain ⟨a0, a1⟩ := f2 b hb
    refine ⟨⟨by rw [upd_ne (Nat.ne_of_lt (small b hb))]; exact a0, a1⟩, ?_⟩
    show b < (s2.heap.push _).objs.size
    rw [Heap.size_push]
    exact Nat.lt_succ_of_lt (small b hb)
  have IB := block_start IL ok hN fL
  obtain ⟨V, ⟨m0, v0⟩, turn⟩ := q2 L L0
  obtain ⟨cl, hcl⟩ : ∃ cl, cl = cellsFrom (sL.heap.objs.size + 1) scope.names (cloFrom X.env.cells scope.names []) := ⟨_, rfl⟩
  have new : ∀ y c, cl.lookup y = some c → c ∉ frs X.stack ∧ X.base.get? c = none := fun y c e => blk_cells cn IL caught (by rw [← hcl]; exact e)
  show codeAny _ _ (.compStart _ 0 (.ref it) (.ref L) (compEnvC scope (cellsFrom (sL.heap.objs.size + 1) scope.names (cloFrom X.env.cells scope.names [])) sL.heap.objs.size X.env)) (compPost (model X.prog X.w) X.A X.xe none _ (.ref L) sL.heap.objs.size) { sL with heap := pushCells (sL.heap.push { cls := .type "dict", data := .dict #[] }) scope.names }
  let ce : Env := compEnvC scope (cellsFrom (sL.heap.objs.size + 1) scope.names (cloFrom X.env.cells scope.names [])) sL.heap.objs.size X.env
  let Y : Cx := X.blk sL (upd H2 L (.lst [])) scope ce fp
  let s4 : Shared := { sL with heap := pushCells (sL.heap.push { cls := .type "dict", data := .dict #[] }) scope.names }
  have stB : tn 0 s4.heap := T.keep _ _ _ st2 fun b _ o e => pushCells_keeps _ _ _ _ (Heap.get?_push_of_some _ (grow b o e))
  have run : codeAny (model Y.prog Y.w) Y.A (.compLoop (.ListComp elt [⟨tg, iter, ifs, 0⟩] scope pos) 0 (.ref it) (.ref L) Y.env) (compPost (model X.prog X.w) X.A X.xe none (EP X pins σ Q) (.ref L) sL.heap.objs.size) s4 := by
    refine blk_turns (Y := Y) (σ := wipe σ (own.map (·.2))) (V := V) (last := fun H' => Q (.ref L) H') hc rfl rfl T (fun b hb => ?_) (hg _ _ _ _ _) (ht _ _ _ _ _ (by rw [← hcl]; exact new)) (he _ _ _ _ _ (by rw [← hcl]; exact new)) (fun σ2 => wipe σ2 (own.map (·.2)) = wipe σ (own.map (·.2))) (fun σ2 e => ⟨by rw [← e, wipe_length], fun j v e2 => ?_⟩) (fun i m H' v => ?_) (fun s' H' J' l => ?_) IB stB (fun b hb => (fL b hb).1.1) v0
    · obtain ⟨x1, x2⟩ := IB.ok.exf b hb
      exact ⟨x1, IB.ok.exfs b hb, hb, x2⟩
    · rw [← e] at e2
      exact (wipe_some e2).1
    · exact turn i m H' v
    · have JX : Inv X pins σ H' s' := IL.call' (ch := fp) J'.os J'.base J'.hok J'.bare fun b hb => by
        obtain ⟨_, b1, _, b3, b4, b5⟩ := (fL b hb).1
        exact ⟨b3, b1, b4, b5⟩
      have none' : H' sL.heap.objs.size = none := J'.free
      obtain ⟨m, ns, _⟩ := J'.loc
      obtain ⟨c0, c1, c2, c3, c4, c5⟩ := IL.fpOk (H' := H') (Nat.le_refl _) none'
      refine ⟨m, ns, fun h' sb => ⟨.ref L, H', JX.turned (t' := s'.toks) (fun b o hb e => (sb.2 b hb).trans e) c0 c1 c3 c4 c5, rfl, l⟩⟩
  exact codeAny_compStart_list run (T.self X.A 0 _ _ _ stB run)
end
/-- the cells of a block that are known to be new -/
theorem blk_new {scope : Scope} {s : Shared} {H : Hp} {C : Addr} {cl : List (Str × Addr)} {fp : List Addr} (new : ∀ y c, cl.lookup y = some c → c ∉ frs X.stack ∧ X.base.get? c = none) : CellsNew (blkX X scope s H C cl fp) :=
  fun _ _ _ _ _ y c e => new y c e
section
variable {elt tg iter : Expr} {ifs : List Expr} {scope : Scope} {own : List (Str × Nat)} {pos : Pos} {fi : MI} {p : Pat} {ft : MT} {fe : ME}
theorem fe_lcC (hc : X.calm = true) (cn : CellsNew X) (hN : X.N.Nodup) (hi : FI X Γ W tg iter fi) (ok : BlkOk X.N X.env.scope scope own) (hpo : ∀ i ∈ patS p, i ∈ own.map (·.2))
    (hg : ∀ s H C cl fp, FP (blkX X scope s H C cl fp) Γ tg p) (ht : ∀ s H C cl fp, (∀ y c, cl.lookup y = some c → c ∉ frs X.stack ∧ X.base.get? c = none) → FTs (blkX X scope s H C cl fp) Γ W0 ifs ft)
    (he : ∀ s H C cl fp, (∀ y c, cl.lookup y = some c → c ∉ frs X.stack ∧ X.base.get? c = none) → FE (blkX X scope s H C cl fp) Γ W0 elt fe) (hs : ∀ x, foldedSetIterable iter X.env x = pure x := by intro _; rfl) : FE X Γ W (.ListComp elt [⟨tg, iter, ifs, 0⟩] scope pos) (xLc fi p ft fe (own.map (·.2))) := by
  refine ⟨(pe_lcC hc cn hN hi.ok ok (fun s H C cl fp => (hg s H C cl fp).pg) (fun s H C cl fp k => (ht s H C cl fp k).ok) (fun s H C cl fp k => (he s H C cl fp k).ok) hs).fz.imp fun σ H Q q => ?_⟩
  obtain ⟨ρ, h, μ, he, hr, q⟩ := q
  exact lc_t hpo he hr q fun ds h1 Hb μb H1 μ1 vs p eb e r d hp hm hl q => .inr ⟨p, vs, rfl, hl, fun o => lc_frz (σ := σ) e r d hp hm hl q o⟩
end
end
end MP
namespace MP
open PySem PySem.Spec PyProof.Rows L2 LamX
def compSc : Expr → Scope
  | .ListComp _ _ s _ => s
  | _ => ⟨.function, [], false, false, []⟩
section
variable {X : Cx} {Γ : G} {W : WX}
theorem lamT_blk {scope : Scope} {s : Shared} {H : Hp} {C : Addr} {cl : List (Str × Addr)} {fp : List Addr} (h : LamT X Γ) : LamT (blkX X scope s H C cl fp) Γ := ⟨h.ex⟩
def xStuckT : MT := fun _ _ => .stuck
theorem ft_stuck {e : Expr} : FT X Γ W e xStuckT := ⟨⟨fun pins s σ H Q I q => by
  obtain ⟨ρ, h, μ, _, _, q⟩ := q
  exact False.elim q⟩⟩
end
end MP
end
section
set_option Elab.async false
set_option linter.all false
set_option maxRecDepth 100000
set_option maxHeartbeats 4000000
/-! M33: the draws of the second family: a box whose cells stand in a list of their own. -/
namespace MP
open PySem PySem.Spec PyProof.Rows L2
def bDrawD : MS := (sSeq (sFor (xRange1 (aCons (xC (.int 60)) aNil)) (.nm 2) (sSeq (sIf (xAnd (xTest (xOp2 oNe (xOp2 oIx (xVar 0) (xC (.int 0))) (xLst aNil))) (xTest (xOp2 oEq (xOp2 oIx (xOp2 oIx (xVar 0) (xC (.int 0))) (xC (.int 0))) (xC (.int 0))))) (sSeq (sExpr (xMt gPopAt (xOp2 oIx (xVar 0) (xC (.int 0))) (aCons (xC (.int 0)) aNil))) sNil) sNil) sNil)) (sSeq (sIf (xTest (xOp2 oNe (xOp2 oIx (xVar 0) (xC (.int 0))) (xLst aNil))) (sSeq (sSet 3 (xCB oInt (aCons (xMt gPopAt (xOp2 oIx (xVar 0) (xC (.int 0))) (aCons (xC (.int 0)) aNil)) aNil))) (sSeq (sExpr (xMt gInsert (xOp2 oIx (xVar 0) (xC (.int 0))) (aCons (xC (.int 0)) (aCons (xOp2 oFdiv (xVar 3) (xVar 1)) aNil)))) (sSeq (sRet (xOp2 oMod (xCB oInt (aCons (xVar 3) aNil)) (xVar 1))) sNil))) sNil) (sSeq (sSub (xOp2 oMod (xCB oInt (aCons (xOp2 oAdd (xOp2 oMul (xOp2 oIx (xVar 0) (xC (.int 1))) (xC (.int 16807))) (xC (.int 41))) aNil)) (xC (.int 2147483647))) (xVar 0) (xC (.int 1))) (sSeq (sRet (xOp2 oMod (xCB oInt (aCons (xOp2 oFdiv (xOp2 oIx (xVar 0) (xC (.int 1))) (xC (.int 101))) aNil)) (xVar 1))) sNil))))
def mDrawD : MF := runF 4 bDrawD
def bPickD : MS := (sSeq (sRet (xOp2 oIx (xVar 1) (xCall mDrawD [] (aCons (xVar 0) (aCons (xCB oLen (aCons (xVar 1) aNil)) aNil))))) sNil)
def mPickD : MF := runF 2 bPickD
def bBoxD : MS := (sSeq (sSet 3 (xLc (xIt (xSl (xVar 0) none (some (xC (.int 60))))) (.nm 2) xYes (xCB oAbs (aCons (xCB oInt (aCons (xVar 2) aNil)) aNil)) [2])) (sSeq (sSet 4 (xOp2 oAdd (xC (.int 71563)) (xOp2 oMul (xC (.int 4421)) (xVar 1)))) (sSeq (sFor (xIt (xVar 3)) (.nm 2) (sSeq (sSet 4 (xOp2 oMod (xCB oInt (aCons (xOp2 oAdd (xOp2 oAdd (xOp2 oMul (xVar 4) (xC (.int 16807))) (xOp2 oMod (xCB oInt (aCons (xVar 2) aNil)) (xC (.int 2147483563)))) (xC (.int 67))) aNil)) (xC (.int 2147483647)))) sNil)) (sSeq (sRet (xNew (aCons (xLcN (xIt (xVar 3)) (.nm 2) (xTest (xOp2 oGe (xVar 2) (xOp2 oPow (xC (.int 10)) (xC (.int 18))))) (xVar 2) [2]) (aCons (xVar 4) aNil)))) sNil))))
def mBoxD : MF := runF 5 bBoxD
def bIsIntD : MS := (sSeq (sRet (xAndV (xIsi ["int"] (xVar 0)) (xNotV (xIsi ["bool"] (xVar 0))))) sNil)
def mIsIntD : MF := runF 1 bIsIntD
def bTellsD : MS := (sSeq (sRet (xIf (xTru (xVar 1)) (xOp2 oIs (xVar 0) (xC (.bl true))) (xOp2 oIs (xVar 0) (xC (.bl false))))) sNil)
def mTellsD : MF := runF 2 bTellsD
def bSameD (rec_ : MF) : MS := (sSeq (sIf (xTru (xIsi ["tuple"] (xVar 1))) (sSeq (sIf (xOr (xNot (xTru (xIsi ["tuple"] (xVar 0)))) (xTest (xOp2 oNe (xCB oLen (aCons (xVar 0) aNil)) (xCB oLen (aCons (xVar 1) aNil))))) (sSeq (sRet (xC (.bl false))) sNil) sNil) (sSeq (sRet (xOp2 oEq (xLc (xRange1 (aCons (xCB oLen (aCons (xVar 1) aNil)) aNil)) (.nm 2) (xNot (xTru (xCall rec_ [] (aCons (xOp2 oIx (xVar 0) (xVar 2)) (aCons (xOp2 oIx (xVar 1) (xVar 2)) aNil))))) (xVar 2) [2]) (xLst aNil))) sNil)) sNil) (sSeq (sIf (xTest (xOp2 oIs (xVar 1) (xC .non))) (sSeq (sRet (xOp2 oIs (xVar 0) (xC .non))) sNil) sNil) (sSeq (sIf (xTru (xIsi ["bool"] (xVar 1))) (sSeq (sRet (xCall mTellsD [] (aCons (xVar 0) (aCons (xVar 1) aNil)))) sNil) sNil) (sSeq (sIf (xTru (xIsi ["str"] (xVar 1))) (sSeq (sRet (xAndV (xIsi ["str"] (xVar 0)) (xOp2 oEq (xVar 0) (xVar 1)))) sNil) sNil) (sSeq (sRet (xAndV (xCall mIsIntD [] (aCons (xVar 0) aNil)) (xOp2 oEq (xVar 0) (xVar 1)))) sNil)))))
def mSameD : Nat → MF
  | 0 => fun _ _ => .stuck
  | n + 1 => runF 3 (bSameD (mSameD n))
def bSeqD : MS := (sSeq (sRet (xIf (xTest (xOp2 oEq (xCall mDrawD [] (aCons (xVar 0) (aCons (xC (.int 2)) aNil))) (xC (.int 0)))) (xCB oList (aCons (xVar 1) aNil)) (xCB oTuple (aCons (xVar 1) aNil)))) sNil)
def mSeqD : MF := runF 2 bSeqD
def bByD : MS := (sSeq (sRet (xTup (aCons (xOp2 oAdd (xOp2 oMul (xOp2 oIx (xVar 0) (xC (.int 0))) (xOp2 oIx (xVar 1) (xC (.int 0)))) (xOp2 oMul (xOp2 oIx (xVar 0) (xC (.int 1))) (xOp2 oIx (xVar 1) (xC (.int 2))))) (aCons (xOp2 oAdd (xOp2 oMul (xOp2 oIx (xVar 0) (xC (.int 0))) (xOp2 oIx (xVar 1) (xC (.int 1)))) (xOp2 oMul (xOp2 oIx (xVar 0) (xC (.int 1))) (xOp2 oIx (xVar 1) (xC (.int 3))))) (aCons (xOp2 oAdd (xOp2 oMul (xOp2 oIx (xVar 0) (xC (.int 2))) (xOp2 oIx (xVar 1) (xC (.int 0)))) (xOp2 oMul (xOp2 oIx (xVar 0) (xC (.int 3))) (xOp2 oIx (xVar 1) (xC (.int 2))))) (aCons (xOp2 oAdd (xOp2 oMul (xOp2 oIx (xVar 0) (xC (.int 2))) (xOp2 oIx (xVar 1) (xC (.int 1)))) (xOp2 oMul (xOp2 oIx (xVar 0) (xC (.int 3))) (xOp2 oIx (xVar 1) (xC (.int 3))))) aNil)))))) sNil)
def mByD : MF := runF 2 bByD

theorem hl_0 {ds : List D} {t : List MO} : hl (.lst ds :: t) 0 = some ds := id rfl
theorem hl_1 {a : MO} {ds : List D} {t : List MO} : hl (a :: .lst ds :: t) 1 = some ds := id rfl
theorem eqD_nil0 {cells : List Int} {t : List MO} : eqD (.lst (cells.map .int) :: t) (.ref 0) (.lst []) = some (decide (cells = [])) := by
  have : eqD (.lst (cells.map .int) :: t) (.ref 0) (.lst []) = eqD (.lst (cells.map .int) :: t) (.lst (cells.map .int)) (.lst []) := by
    show (match toP (nf _ (.ref 0)), toP (nf _ (.lst [])) with | some p, some q => _ | _, _ => none) = (match toP (nf _ (.lst (cells.map .int))), toP (nf _ (.lst [])) with | some p, some q => _ | _, _ => none)
    have : nf (.lst (cells.map .int) :: t) (.ref 0) = nf (.lst (cells.map .int) :: t) (.lst (cells.map .int)) := by simp only [nf, hl_0]
    rw [this]
  rw [this, eqD_nice (k := 1) (nice_ints cells) (show niceD 1 (.lst []) = true from rfl)]
  simp
/-- a box: great cells in the first list, the box the second, t what stands behind -/
def BoxD (t h : List MO) : Prop := ∃ (cells : List Int) (st : Int), h = .lst (cells.map .int) :: .lst [.ref 0, .int st] :: t ∧ (∀ c ∈ cells, 0 ≤ c) ∧ cells.length ≤ 60 ∧ 0 ≤ st ∧ st < 2147483648
theorem pop0 {d : D} {ds : List D} (hl : (d :: ds).length < 1000) : gPopAt (d :: ds) [.int 0] = some (d, ds) := by
  unfold gPopAt
  have : seqIndex? 0 (d :: ds).length = some 0 := by
    unfold seqIndex?
    simp
  show (if -2 ^ 40 ≤ (0 : Int) ∧ (0 : Int) < 2 ^ 40 then (match seqIndex? 0 (d :: ds).length with | some k => (match (d :: ds)[k]? with | some d' => some (d', (d :: ds).eraseIdx k) | none => none) | none => none) else none) = _
  rw [if_pos (by decide), this]; rfl
theorem ins0 {d : D} {ds : List D} (hl : ds.length < LINE) : gInsert ds [.int 0, d] = some (.non, d :: ds) := by
  unfold gInsert
  simp [hl]
section
variable {h t : List MO} {P : D → List MO → Prop} {X : Ex → List MO → Prop}
theorem draw_okD {n : Int} (x : BoxD t h) (h0 : 0 < n) (h1 : n.natAbs.log2 < 9000) (q : ∀ k h', 0 ≤ k → k < n → BoxD t h' → P (.int k) h') : OkX (mDrawD [.ref 1, .int n] h) P X := by
  unfold mDrawD; rw [w_run]; unfold bDrawD
  simp (dsimp := false) only [↓Kp_app, ↓w_seq, ↓w_sNil, ↓w_set, ↓w_ret, ↓w_retN, ↓w_sIf, ↓w_expr, ↓w_par, ↓w_par3, ↓w_asg, ↓w_aug, ↓w_sub, ↓w_for, ↓w_raise, ↓w_break, ↓w_cont, ↓w_op2, ↓w_op1, ↓w_cb, ↓w_c, ↓w_var, ↓w_nil, ↓w_cons, ↓w_tup, ↓w_lst, ↓w_new, ↓w_if, ↓w_test, ↓w_tru, ↓w_not, ↓w_and, ↓w_or, ↓w_andV, ↓w_orV, ↓w_notV, ↓w_chain, ↓w_call, ↓w_callK, ↓w_sl, ↓w_part0, ↓w_part1, ↓w_isi, ↓w_join, ↓w_mt, ↓w_lc, ↓w_lcN, ↓w_lcA, ↓w_it, ↓w_range1, ↓w_range2, ↓w_enum, ↓w_enumS, ↓w_zip,   OkX_ok, OkX_err, OkX_stuck, OkX_guard, o_addS, o_addT, o_addLL, o_addRL, o_addII, o_subI, o_mulI, o_mulS, o_fdivI, o_modI, o_powI, o_negI, o_ltI, o_leI, o_gtI, o_geI, o_ltS, o_leS, o_gtS, o_geS, o_eqI, o_eqS, o_neI, o_neS, o_isD, o_isnotD, o_inS, o_ixS, o_ixT, o_ixL, o_ixR, o_slS, o_slT, o_slL, o_slR, o_lenS, o_lenT, o_lenL, o_lenR, o_absI, o_intI, o_intB, o_tupT, o_tupL, o_tupR, o_maxI, o_minI,   List.set_cons_zero, List.set_cons_succ, List.getElem?_cons_zero, List.getElem?_cons_succ, List.map_cons, List.map_nil, List.length_cons, List.length_nil, List.replicate_succ, List.replicate_zero, List.cons_append, List.nil_append, Nat.reduceSub, Nat.reduceAdd, Nat.reduceLeDiff, exists_eq_left', D.bl.injEq, D.int.injEq, D.str.injEq, D.ref.injEq, D.tup.injEq, true_and, and_true, if_true, if_false, Bool.false_eq_true, Bool.not_true, Bool.not_false, decide_true, decide_false, bindP, bindPs, isK, atI_0, atI_1, atI_2, atI_3, ixN_0, ixN_1, Nat.zero_add, LINE, Nat.zero_le, truD, wipeD, Option.some.injEq]
  refine ⟨by decide, ?_⟩
  refine w_loopF (fun _ ρ h' => ∃ x2, ρ = [some (.ref 1), some (.int n), x2, none] ∧ BoxD t h') (fun _ _ _ _ => rfl) [] _ _ _ ⟨none, rfl, x⟩ (fun l d r ρ h' e i => ?_) (fun ρ h' i => ?_)
  · obtain ⟨x2, rfl, cells, st, rfl, a1, a2, a3, a4⟩ := i
    refine ⟨_, rfl, ?_⟩
    simp (dsimp := false) only [hl_1, hl_0, o_neD, eqD_nil0, ↓Kp_app, ↓w_seq, ↓w_sNil, ↓w_set, ↓w_ret, ↓w_retN, ↓w_sIf, ↓w_expr, ↓w_par, ↓w_par3, ↓w_asg, ↓w_aug, ↓w_sub, ↓w_for, ↓w_raise, ↓w_break, ↓w_cont, ↓w_op2, ↓w_op1, ↓w_cb, ↓w_c, ↓w_var, ↓w_nil, ↓w_cons, ↓w_tup, ↓w_lst, ↓w_new, ↓w_if, ↓w_test, ↓w_tru, ↓w_not, ↓w_and, ↓w_or, ↓w_andV, ↓w_orV, ↓w_notV, ↓w_chain, ↓w_call, ↓w_callK, ↓w_sl, ↓w_part0, ↓w_part1, ↓w_isi, ↓w_join, ↓w_mt, ↓w_lc, ↓w_lcN, ↓w_lcA, ↓w_it, ↓w_range1, ↓w_range2, ↓w_enum, ↓w_enumS, ↓w_zip,   OkX_ok, OkX_err, OkX_stuck, OkX_guard, o_addS, o_addT, o_addLL, o_addRL, o_addII, o_subI, o_mulI, o_mulS, o_fdivI, o_modI, o_powI, o_negI, o_ltI, o_leI, o_gtI, o_geI, o_ltS, o_leS, o_gtS, o_geS, o_eqI, o_eqS, o_neI, o_neS, o_isD, o_isnotD, o_inS, o_ixS, o_ixT, o_ixL, o_ixR, o_slS, o_slT, o_slL, o_slR, o_lenS, o_lenT, o_lenL, o_lenR, o_absI, o_intI, o_intB, o_tupT, o_tupL, o_tupR, o_maxI, o_minI,   List.set_cons_zero, List.set_cons_succ, List.getElem?_cons_zero, List.getElem?_cons_succ, List.map_cons, List.map_nil, List.length_cons, List.length_nil, List.replicate_succ, List.replicate_zero, List.cons_append, List.nil_append, Nat.reduceSub, Nat.reduceAdd, Nat.reduceLeDiff, exists_eq_left', D.bl.injEq, D.int.injEq, D.str.injEq, D.ref.injEq, D.tup.injEq, true_and, and_true, if_true, if_false, Bool.false_eq_true, Bool.not_true, Bool.not_false, decide_true, decide_false, bindP, bindPs, isK, atI_0, atI_1, atI_2, atI_3, ixN_0, ixN_1, Nat.zero_add, LINE, Nat.zero_le, truD, wipeD, Option.some.injEq]
    cases cells with
    | nil =>
      simp only [decide_true, Bool.not_true, Bool.false_eq_true, if_false]
      exact ⟨_, rfl, [], st, rfl, a1, a2, a3, a4⟩
    | cons c cs =>
      simp only [reduceCtorEq, decide_false, Bool.not_false, if_true, List.map_cons]
      simp (dsimp := false) only [hl_1, hl_0, ↓Kp_app, ↓w_seq, ↓w_sNil, ↓w_set, ↓w_ret, ↓w_retN, ↓w_sIf, ↓w_expr, ↓w_par, ↓w_par3, ↓w_asg, ↓w_aug, ↓w_sub, ↓w_for, ↓w_raise, ↓w_break, ↓w_cont, ↓w_op2, ↓w_op1, ↓w_cb, ↓w_c, ↓w_var, ↓w_nil, ↓w_cons, ↓w_tup, ↓w_lst, ↓w_new, ↓w_if, ↓w_test, ↓w_tru, ↓w_not, ↓w_and, ↓w_or, ↓w_andV, ↓w_orV, ↓w_notV, ↓w_chain, ↓w_call, ↓w_callK, ↓w_sl, ↓w_part0, ↓w_part1, ↓w_isi, ↓w_join, ↓w_mt, ↓w_lc, ↓w_lcN, ↓w_lcA, ↓w_it, ↓w_range1, ↓w_range2, ↓w_enum, ↓w_enumS, ↓w_zip,   OkX_ok, OkX_err, OkX_stuck, OkX_guard, o_addS, o_addT, o_addLL, o_addRL, o_addII, o_subI, o_mulI, o_mulS, o_fdivI, o_modI, o_powI, o_negI, o_ltI, o_leI, o_gtI, o_geI, o_ltS, o_leS, o_gtS, o_geS, o_eqI, o_eqS, o_neI, o_neS, o_isD, o_isnotD, o_inS, o_ixS, o_ixT, o_ixL, o_ixR, o_slS, o_slT, o_slL, o_slR, o_lenS, o_lenT, o_lenL, o_lenR, o_absI, o_intI, o_intB, o_tupT, o_tupL, o_tupR, o_maxI, o_minI,   List.set_cons_zero, List.set_cons_succ, List.getElem?_cons_zero, List.getElem?_cons_succ, List.map_cons, List.map_nil, List.length_cons, List.length_nil, List.replicate_succ, List.replicate_zero, List.cons_append, List.nil_append, Nat.reduceSub, Nat.reduceAdd, Nat.reduceLeDiff, exists_eq_left', D.bl.injEq, D.int.injEq, D.str.injEq, D.ref.injEq, D.tup.injEq, true_and, and_true, if_true, if_false, Bool.false_eq_true, Bool.not_true, Bool.not_false, decide_true, decide_false, bindP, bindPs, isK, atI_0, atI_1, atI_2, atI_3, ixN_0, ixN_1, Nat.zero_add, LINE, Nat.zero_le, truD, wipeD, Option.some.injEq]
      by_cases z : c = 0
      · simp only [z, decide_true, if_true]
        rw [pop0 (by simp at a2 ⊢; omega)]
        exact ⟨_, rfl, cs, st, rfl, fun d m => a1 d (List.mem_cons_of_mem _ m), by simp at a2; omega, a3, a4⟩
      · simp only [z, decide_false, Bool.false_eq_true, if_false]
        exact ⟨_, rfl, c :: cs, st, rfl, a1, a2, a3, a4⟩
  · obtain ⟨x2, rfl, cells, st, rfl, a1, a2, a3, a4⟩ := i
    simp (dsimp := false) only [hl_1, hl_0, o_neD, eqD_nil0, ↓Kp_app, ↓w_seq, ↓w_sNil, ↓w_set, ↓w_ret, ↓w_retN, ↓w_sIf, ↓w_expr, ↓w_par, ↓w_par3, ↓w_asg, ↓w_aug, ↓w_sub, ↓w_for, ↓w_raise, ↓w_break, ↓w_cont, ↓w_op2, ↓w_op1, ↓w_cb, ↓w_c, ↓w_var, ↓w_nil, ↓w_cons, ↓w_tup, ↓w_lst, ↓w_new, ↓w_if, ↓w_test, ↓w_tru, ↓w_not, ↓w_and, ↓w_or, ↓w_andV, ↓w_orV, ↓w_notV, ↓w_chain, ↓w_call, ↓w_callK, ↓w_sl, ↓w_part0, ↓w_part1, ↓w_isi, ↓w_join, ↓w_mt, ↓w_lc, ↓w_lcN, ↓w_lcA, ↓w_it, ↓w_range1, ↓w_range2, ↓w_enum, ↓w_enumS, ↓w_zip,   OkX_ok, OkX_err, OkX_stuck, OkX_guard, o_addS, o_addT, o_addLL, o_addRL, o_addII, o_subI, o_mulI, o_mulS, o_fdivI, o_modI, o_powI, o_negI, o_ltI, o_leI, o_gtI, o_geI, o_ltS, o_leS, o_gtS, o_geS, o_eqI, o_eqS, o_neI, o_neS, o_isD, o_isnotD, o_inS, o_ixS, o_ixT, o_ixL, o_ixR, o_slS, o_slT, o_slL, o_slR, o_lenS, o_lenT, o_lenL, o_lenR, o_absI, o_intI, o_intB, o_tupT, o_tupL, o_tupR, o_maxI, o_minI,   List.set_cons_zero, List.set_cons_succ, List.getElem?_cons_zero, List.getElem?_cons_succ, List.map_cons, List.map_nil, List.length_cons, List.length_nil, List.replicate_succ, List.replicate_zero, List.cons_append, List.nil_append, Nat.reduceSub, Nat.reduceAdd, Nat.reduceLeDiff, exists_eq_left', D.bl.injEq, D.int.injEq, D.str.injEq, D.ref.injEq, D.tup.injEq, true_and, and_true, if_true, if_false, Bool.false_eq_true, Bool.not_true, Bool.not_false, decide_true, decide_false, bindP, bindPs, isK, atI_0, atI_1, atI_2, atI_3, ixN_0, ixN_1, Nat.zero_add, LINE, Nat.zero_le, truD, wipeD, Option.some.injEq]
    cases cells with
    | nil =>
      simp only [decide_true, Bool.not_true, Bool.false_eq_true, if_false]
      have m1 : mulOk st 16807 := mulOk_of 40 40 (by omega) (by omega)
      have hm := Int.fmod_eq_emod_of_nonneg (a := st * 16807 + 41) (b := 2147483647) (by omega)
      have r0 := Int.emod_nonneg (st * 16807 + 41) (show (2147483647 : Int) ≠ 0 by omega)
      have r1 := Int.emod_lt_of_pos (st * 16807 + 41) (show (0 : Int) < 2147483647 by omega)
      refine ⟨m1, by omega, ⟨by omega, by decide +kernel⟩, by omega, ?_⟩
      rw [hm]
      rw [Int.fmod_eq_emod_of_nonneg _ (by omega)]
      exact q _ _ (Int.emod_nonneg _ (by omega)) (Int.emod_lt_of_pos _ h0) ⟨[], _, rfl, a1, a2, r0, by omega⟩
    | cons c cs =>
      have c0 : 0 ≤ c := a1 c List.mem_cons_self
      simp only [reduceCtorEq, decide_false, Bool.not_false, if_true, List.map_cons]
      rw [pop0 (by simp at a2 ⊢; omega)]
      simp (dsimp := false) only [hl_1, hl_0, atI_0, ↓Kp_app, ↓w_seq, ↓w_sNil, ↓w_set, ↓w_ret, ↓w_retN, ↓w_sIf, ↓w_expr, ↓w_par, ↓w_par3, ↓w_asg, ↓w_aug, ↓w_sub, ↓w_for, ↓w_raise, ↓w_break, ↓w_cont, ↓w_op2, ↓w_op1, ↓w_cb, ↓w_c, ↓w_var, ↓w_nil, ↓w_cons, ↓w_tup, ↓w_lst, ↓w_new, ↓w_if, ↓w_test, ↓w_tru, ↓w_not, ↓w_and, ↓w_or, ↓w_andV, ↓w_orV, ↓w_notV, ↓w_chain, ↓w_call, ↓w_callK, ↓w_sl, ↓w_part0, ↓w_part1, ↓w_isi, ↓w_join, ↓w_mt, ↓w_lc, ↓w_lcN, ↓w_lcA, ↓w_it, ↓w_range1, ↓w_range2, ↓w_enum, ↓w_enumS, ↓w_zip,   OkX_ok, OkX_err, OkX_stuck, OkX_guard, o_addS, o_addT, o_addLL, o_addRL, o_addII, o_subI, o_mulI, o_mulS, o_fdivI, o_modI, o_powI, o_negI, o_ltI, o_leI, o_gtI, o_geI, o_ltS, o_leS, o_gtS, o_geS, o_eqI, o_eqS, o_neI, o_neS, o_isD, o_isnotD, o_inS, o_ixS, o_ixT, o_ixL, o_ixR, o_slS, o_slT, o_slL, o_slR, o_lenS, o_lenT, o_lenL, o_lenR, o_absI, o_intI, o_intB, o_tupT, o_tupL, o_tupR, o_maxI, o_minI,   List.set_cons_zero, List.set_cons_succ, List.getElem?_cons_zero, List.getElem?_cons_succ, List.map_cons, List.map_nil, List.length_cons, List.length_nil, List.replicate_succ, List.replicate_zero, List.cons_append, List.nil_append, Nat.reduceSub, Nat.reduceAdd, Nat.reduceLeDiff, exists_eq_left', D.bl.injEq, D.int.injEq, D.str.injEq, D.ref.injEq, D.tup.injEq, true_and, and_true, if_true, if_false, Bool.false_eq_true, Bool.not_true, Bool.not_false, decide_true, decide_false, bindP, bindPs, isK, atI_0, atI_1, atI_2, atI_3, ixN_0, ixN_1, Nat.zero_add, LINE, Nat.zero_le, truD, wipeD, Option.some.injEq]
      refine ⟨⟨by omega, h1⟩, ?_⟩
      rw [ins0 (Nat.lt_of_lt_of_le (by simp at a2 ⊢; omega) (show 100 ≤ LINE by decide))]
      simp (dsimp := false) only [↓Kp_app, ↓w_seq, ↓w_sNil, ↓w_set, ↓w_ret, ↓w_retN, ↓w_sIf, ↓w_expr, ↓w_par, ↓w_par3, ↓w_asg, ↓w_aug, ↓w_sub, ↓w_for, ↓w_raise, ↓w_break, ↓w_cont, ↓w_op2, ↓w_op1, ↓w_cb, ↓w_c, ↓w_var, ↓w_nil, ↓w_cons, ↓w_tup, ↓w_lst, ↓w_new, ↓w_if, ↓w_test, ↓w_tru, ↓w_not, ↓w_and, ↓w_or, ↓w_andV, ↓w_orV, ↓w_notV, ↓w_chain, ↓w_call, ↓w_callK, ↓w_sl, ↓w_part0, ↓w_part1, ↓w_isi, ↓w_join, ↓w_mt, ↓w_lc, ↓w_lcN, ↓w_lcA, ↓w_it, ↓w_range1, ↓w_range2, ↓w_enum, ↓w_enumS, ↓w_zip,   OkX_ok, OkX_err, OkX_stuck, OkX_guard, o_addS, o_addT, o_addLL, o_addRL, o_addII, o_subI, o_mulI, o_mulS, o_fdivI, o_modI, o_powI, o_negI, o_ltI, o_leI, o_gtI, o_geI, o_ltS, o_leS, o_gtS, o_geS, o_eqI, o_eqS, o_neI, o_neS, o_isD, o_isnotD, o_inS, o_ixS, o_ixT, o_ixL, o_ixR, o_slS, o_slT, o_slL, o_slR, o_lenS, o_lenT, o_lenL, o_lenR, o_absI, o_intI, o_intB, o_tupT, o_tupL, o_tupR, o_maxI, o_minI,   List.set_cons_zero, List.set_cons_succ, List.getElem?_cons_zero, List.getElem?_cons_succ, List.map_cons, List.map_nil, List.length_cons, List.length_nil, List.replicate_succ, List.replicate_zero, List.cons_append, List.nil_append, Nat.reduceSub, Nat.reduceAdd, Nat.reduceLeDiff, exists_eq_left', D.bl.injEq, D.int.injEq, D.str.injEq, D.ref.injEq, D.tup.injEq, true_and, and_true, if_true, if_false, Bool.false_eq_true, Bool.not_true, Bool.not_false, decide_true, decide_false, bindP, bindPs, isK, atI_0, atI_1, atI_2, atI_3, ixN_0, ixN_1, Nat.zero_add, LINE, Nat.zero_le, truD, wipeD, Option.some.injEq]
      refine ⟨by omega, ?_⟩
      rw [Int.fmod_eq_emod_of_nonneg _ (by omega), Int.fdiv_eq_ediv_of_nonneg _ (by omega)]
      refine q _ _ (Int.emod_nonneg _ (by omega)) (Int.emod_lt_of_pos _ h0) ⟨c / n :: cs, st, rfl, fun d m => ?_, a2, a3, a4⟩
      rcases List.mem_cons.mp m with rfl | m
      · exact Int.ediv_nonneg c0 (by omega)
      · exact a1 d (List.mem_cons_of_mem _ m)
theorem pick_okD {ds : List D} (x : BoxD t h) (h0 : ds ≠ []) (h1 : ds.length < 2 ^ 60) (q : ∀ d h', d ∈ ds → BoxD t h' → P d h') : OkX (mPickD [.ref 1, .lst ds] h) P X := by
  unfold mPickD; rw [w_run]; unfold bPickD
  simp (dsimp := false) only [↓Kp_app, ↓w_seq, ↓w_sNil, ↓w_set, ↓w_ret, ↓w_retN, ↓w_sIf, ↓w_expr, ↓w_par, ↓w_par3, ↓w_asg, ↓w_aug, ↓w_sub, ↓w_for, ↓w_raise, ↓w_break, ↓w_cont, ↓w_op2, ↓w_op1, ↓w_cb, ↓w_c, ↓w_var, ↓w_nil, ↓w_cons, ↓w_tup, ↓w_lst, ↓w_new, ↓w_if, ↓w_test, ↓w_tru, ↓w_not, ↓w_and, ↓w_or, ↓w_andV, ↓w_orV, ↓w_notV, ↓w_chain, ↓w_call, ↓w_callK, ↓w_sl, ↓w_part0, ↓w_part1, ↓w_isi, ↓w_join, ↓w_mt, ↓w_lc, ↓w_lcN, ↓w_lcA, ↓w_it, ↓w_range1, ↓w_range2, ↓w_enum, ↓w_enumS, ↓w_zip,   OkX_ok, OkX_err, OkX_stuck, OkX_guard, o_addS, o_addT, o_addLL, o_addRL, o_addII, o_subI, o_mulI, o_mulS, o_fdivI, o_modI, o_powI, o_negI, o_ltI, o_leI, o_gtI, o_geI, o_ltS, o_leS, o_gtS, o_geS, o_eqI, o_eqS, o_neI, o_neS, o_isD, o_isnotD, o_inS, o_ixS, o_ixT, o_ixL, o_ixR, o_slS, o_slT, o_slL, o_slR, o_lenS, o_lenT, o_lenL, o_lenR, o_absI, o_intI, o_intB, o_tupT, o_tupL, o_tupR, o_maxI, o_minI,   List.set_cons_zero, List.set_cons_succ, List.getElem?_cons_zero, List.getElem?_cons_succ, List.map_cons, List.map_nil, List.length_cons, List.length_nil, List.replicate_succ, List.replicate_zero, List.cons_append, List.nil_append, Nat.reduceSub, Nat.reduceAdd, Nat.reduceLeDiff, exists_eq_left', D.bl.injEq, D.int.injEq, D.str.injEq, D.ref.injEq, D.tup.injEq, true_and, and_true, if_true, if_false, Bool.false_eq_true, Bool.not_true, Bool.not_false, decide_true, decide_false, bindP, bindPs, isK, atI_0, atI_1, atI_2, atI_3, ixN_0, ixN_1, Nat.zero_add, LINE, Nat.zero_le, truD, wipeD, Option.some.injEq]
  have h2 := List.length_pos_iff.mpr h0
  refine draw_okD (n := (ds.length : Int)) x (by omega) ?_ fun k h' k0 k1 hx => ?_
  · rw [Int.natAbs_natCast]
    have : ds.length.log2 < 60 := (Nat.log2_lt (by omega)).mpr h1
    omega
  obtain ⟨m, rfl⟩ := Int.eq_ofNat_of_zero_le k0
  have hm : m < ds.length := by omega
  simp (dsimp := false) only [atI_nat, List.getElem?_eq_getElem hm, ↓Kp_app, ↓w_seq, ↓w_sNil, ↓w_set, ↓w_ret, ↓w_retN, ↓w_sIf, ↓w_expr, ↓w_par, ↓w_par3, ↓w_asg, ↓w_aug, ↓w_sub, ↓w_for, ↓w_raise, ↓w_break, ↓w_cont, ↓w_op2, ↓w_op1, ↓w_cb, ↓w_c, ↓w_var, ↓w_nil, ↓w_cons, ↓w_tup, ↓w_lst, ↓w_new, ↓w_if, ↓w_test, ↓w_tru, ↓w_not, ↓w_and, ↓w_or, ↓w_andV, ↓w_orV, ↓w_notV, ↓w_chain, ↓w_call, ↓w_callK, ↓w_sl, ↓w_part0, ↓w_part1, ↓w_isi, ↓w_join, ↓w_mt, ↓w_lc, ↓w_lcN, ↓w_lcA, ↓w_it, ↓w_range1, ↓w_range2, ↓w_enum, ↓w_enumS, ↓w_zip,   OkX_ok, OkX_err, OkX_stuck, OkX_guard, o_addS, o_addT, o_addLL, o_addRL, o_addII, o_subI, o_mulI, o_mulS, o_fdivI, o_modI, o_powI, o_negI, o_ltI, o_leI, o_gtI, o_geI, o_ltS, o_leS, o_gtS, o_geS, o_eqI, o_eqS, o_neI, o_neS, o_isD, o_isnotD, o_inS, o_ixS, o_ixT, o_ixL, o_ixR, o_slS, o_slT, o_slL, o_slR, o_lenS, o_lenT, o_lenL, o_lenR, o_absI, o_intI, o_intB, o_tupT, o_tupL, o_tupR, o_maxI, o_minI,   List.set_cons_zero, List.set_cons_succ, List.getElem?_cons_zero, List.getElem?_cons_succ, List.map_cons, List.map_nil, List.length_cons, List.length_nil, List.replicate_succ, List.replicate_zero, List.cons_append, List.nil_append, Nat.reduceSub, Nat.reduceAdd, Nat.reduceLeDiff, exists_eq_left', D.bl.injEq, D.int.injEq, D.str.injEq, D.ref.injEq, D.tup.injEq, true_and, and_true, if_true, if_false, Bool.false_eq_true, Bool.not_true, Bool.not_false, decide_true, decide_false, bindP, bindPs, isK, atI_0, atI_1, atI_2, atI_3, ixN_0, ixN_1, Nat.zero_add, LINE, Nat.zero_le, truD, wipeD, Option.some.injEq]
  exact q _ _ (List.getElem_mem hm) hx
theorem box_okD {ns : List Int} {salt : Int} (hs : 0 ≤ salt) (hs2 : salt < 100000) (hz : ∀ z ∈ ns, Builtin.Int.intBits z ≤ 1048576)
    (q : ∀ h', BoxD [] h' → P (.ref 1) h') : OkX (mBoxD [.lst (ns.map .int), .int salt] []) P X := by
  unfold mBoxD; rw [w_run]; unfold bBoxD
  simp (dsimp := false) only [↓Kp_app, ↓w_seq, ↓w_sNil, ↓w_set, ↓w_ret, ↓w_retN, ↓w_sIf, ↓w_expr, ↓w_par, ↓w_par3, ↓w_asg, ↓w_aug, ↓w_sub, ↓w_for, ↓w_raise, ↓w_break, ↓w_cont, ↓w_op2, ↓w_op1, ↓w_cb, ↓w_c, ↓w_var, ↓w_nil, ↓w_cons, ↓w_tup, ↓w_lst, ↓w_new, ↓w_if, ↓w_test, ↓w_tru, ↓w_not, ↓w_and, ↓w_or, ↓w_andV, ↓w_orV, ↓w_notV, ↓w_chain, ↓w_call, ↓w_callK, ↓w_sl, ↓w_part0, ↓w_part1, ↓w_isi, ↓w_join, ↓w_mt, ↓w_lc, ↓w_lcN, ↓w_lcA, ↓w_it, ↓w_range1, ↓w_range2, ↓w_enum, ↓w_enumS, ↓w_zip,   OkX_ok, OkX_err, OkX_stuck, OkX_guard, o_addS, o_addT, o_addLL, o_addRL, o_addII, o_subI, o_mulI, o_mulS, o_fdivI, o_modI, o_powI, o_negI, o_ltI, o_leI, o_gtI, o_geI, o_ltS, o_leS, o_gtS, o_geS, o_eqI, o_eqS, o_neI, o_neS, o_isD, o_isnotD, o_inS, o_ixS, o_ixT, o_ixL, o_ixR, o_slS, o_slT, o_slL, o_slR, o_lenS, o_lenT, o_lenL, o_lenR, o_absI, o_intI, o_intB, o_tupT, o_tupL, o_tupR, o_maxI, o_minI,   List.set_cons_zero, List.set_cons_succ, List.getElem?_cons_zero, List.getElem?_cons_succ, List.map_cons, List.map_nil, List.length_cons, List.length_nil, List.replicate_succ, List.replicate_zero, List.cons_append, List.nil_append, Nat.reduceSub, Nat.reduceAdd, Nat.reduceLeDiff, exists_eq_left', D.bl.injEq, D.int.injEq, D.str.injEq, D.ref.injEq, D.tup.injEq, true_and, and_true, if_true, if_false, Bool.false_eq_true, Bool.not_true, Bool.not_false, decide_true, decide_false, bindP, bindPs, isK, atI_0, atI_1, atI_2, atI_3, ixN_0, ixN_1, Nat.zero_add, LINE, Nat.zero_le, truD, wipeD, Option.some.injEq]
  have ct : cutD (ns.map D.int) none (some 60) = (ns.take 60).map D.int := by
    have := cut_to (ns.map D.int) 60
    rw [List.map_take]; exact this
  rw [ct]
  refine ⟨_, rfl, ?_⟩
  refine w_loopC D.int (fun l a h' => a = l.map (fun c => D.int (c.natAbs : Int)) ∧ h' = []) (fun _ _ _ _ => by rfl) (ns.take 60) [] ⟨rfl, rfl⟩ (fun l x r a h' e i => ?_) (fun a h' i => ?_)
  · obtain ⟨rfl, rfl⟩ := i
    refine ⟨_, rfl, ?_⟩
    simp (dsimp := false) only [↓Kp_app, ↓w_seq, ↓w_sNil, ↓w_set, ↓w_ret, ↓w_retN, ↓w_sIf, ↓w_expr, ↓w_par, ↓w_par3, ↓w_asg, ↓w_aug, ↓w_sub, ↓w_for, ↓w_raise, ↓w_break, ↓w_cont, ↓w_op2, ↓w_op1, ↓w_cb, ↓w_c, ↓w_var, ↓w_nil, ↓w_cons, ↓w_tup, ↓w_lst, ↓w_new, ↓w_if, ↓w_test, ↓w_tru, ↓w_not, ↓w_and, ↓w_or, ↓w_andV, ↓w_orV, ↓w_notV, ↓w_chain, ↓w_call, ↓w_callK, ↓w_sl, ↓w_part0, ↓w_part1, ↓w_isi, ↓w_join, ↓w_mt, ↓w_lc, ↓w_lcN, ↓w_lcA, ↓w_it, ↓w_range1, ↓w_range2, ↓w_enum, ↓w_enumS, ↓w_zip,   OkX_ok, OkX_err, OkX_stuck, OkX_guard, o_addS, o_addT, o_addLL, o_addRL, o_addII, o_subI, o_mulI, o_mulS, o_fdivI, o_modI, o_powI, o_negI, o_ltI, o_leI, o_gtI, o_geI, o_ltS, o_leS, o_gtS, o_geS, o_eqI, o_eqS, o_neI, o_neS, o_isD, o_isnotD, o_inS, o_ixS, o_ixT, o_ixL, o_ixR, o_slS, o_slT, o_slL, o_slR, o_lenS, o_lenT, o_lenL, o_lenR, o_absI, o_intI, o_intB, o_tupT, o_tupL, o_tupR, o_maxI, o_minI,   List.set_cons_zero, List.set_cons_succ, List.getElem?_cons_zero, List.getElem?_cons_succ, List.map_cons, List.map_nil, List.length_cons, List.length_nil, List.replicate_succ, List.replicate_zero, List.cons_append, List.nil_append, Nat.reduceSub, Nat.reduceAdd, Nat.reduceLeDiff, exists_eq_left', D.bl.injEq, D.int.injEq, D.str.injEq, D.ref.injEq, D.tup.injEq, true_and, and_true, if_true, if_false, Bool.false_eq_true, Bool.not_true, Bool.not_false, decide_true, decide_false, bindP, bindPs, isK, atI_0, atI_1, atI_2, atI_3, ixN_0, ixN_1, Nat.zero_add, LINE, Nat.zero_le, truD, wipeD, Option.some.injEq]
    refine ⟨?_, by simp, rfl⟩
    have := congrArg List.length e
    simp at this
    exact Nat.lt_of_lt_of_le (show (l.map _).length < 60 by simp; omega) (show 60 ≤ LINE by decide)
  · obtain ⟨rfl, rfl⟩ := i
    have hl : (ns.take 60).length ≤ 60 := by simp; omega
    generalize ns.take 60 = cs at hl
    simp (dsimp := false) only [↓Kp_app, ↓w_seq, ↓w_sNil, ↓w_set, ↓w_ret, ↓w_retN, ↓w_sIf, ↓w_expr, ↓w_par, ↓w_par3, ↓w_asg, ↓w_aug, ↓w_sub, ↓w_for, ↓w_raise, ↓w_break, ↓w_cont, ↓w_op2, ↓w_op1, ↓w_cb, ↓w_c, ↓w_var, ↓w_nil, ↓w_cons, ↓w_tup, ↓w_lst, ↓w_new, ↓w_if, ↓w_test, ↓w_tru, ↓w_not, ↓w_and, ↓w_or, ↓w_andV, ↓w_orV, ↓w_notV, ↓w_chain, ↓w_call, ↓w_callK, ↓w_sl, ↓w_part0, ↓w_part1, ↓w_isi, ↓w_join, ↓w_mt, ↓w_lc, ↓w_lcN, ↓w_lcA, ↓w_it, ↓w_range1, ↓w_range2, ↓w_enum, ↓w_enumS, ↓w_zip,   OkX_ok, OkX_err, OkX_stuck, OkX_guard, o_addS, o_addT, o_addLL, o_addRL, o_addII, o_subI, o_mulI, o_mulS, o_fdivI, o_modI, o_powI, o_negI, o_ltI, o_leI, o_gtI, o_geI, o_ltS, o_leS, o_gtS, o_geS, o_eqI, o_eqS, o_neI, o_neS, o_isD, o_isnotD, o_inS, o_ixS, o_ixT, o_ixL, o_ixR, o_slS, o_slT, o_slL, o_slR, o_lenS, o_lenT, o_lenL, o_lenR, o_absI, o_intI, o_intB, o_tupT, o_tupL, o_tupR, o_maxI, o_minI,   List.set_cons_zero, List.set_cons_succ, List.getElem?_cons_zero, List.getElem?_cons_succ, List.map_cons, List.map_nil, List.length_cons, List.length_nil, List.replicate_succ, List.replicate_zero, List.cons_append, List.nil_append, Nat.reduceSub, Nat.reduceAdd, Nat.reduceLeDiff, exists_eq_left', D.bl.injEq, D.int.injEq, D.str.injEq, D.ref.injEq, D.tup.injEq, true_and, and_true, if_true, if_false, Bool.false_eq_true, Bool.not_true, Bool.not_false, decide_true, decide_false, bindP, bindPs, isK, atI_0, atI_1, atI_2, atI_3, ixN_0, ixN_1, Nat.zero_add, LINE, Nat.zero_le, truD, wipeD, Option.some.injEq]
    refine ⟨mulOk_of 40 40 (by decide) (by omega), ?_⟩
    have : cs.map (fun c => D.int (c.natAbs : Int)) = (cs.map fun c => (c.natAbs : Int)).map D.int := by simp
    rw [this]
    have hc : ∀ z ∈ cs.map (fun c => (c.natAbs : Int)), 0 ≤ z := fun z m => by
      obtain ⟨c, mc, rfl⟩ := List.mem_map.mp m
      omega
    have hl : (cs.map fun c => (c.natAbs : Int)).length ≤ 60 := by simpa using hl
    generalize (cs.map fun c => (c.natAbs : Int)) = zs at hc hl
    refine ⟨_, rfl, ?_⟩
    refine w_loopFm D.int (fun _ ρ h' => ∃ b x, ρ = [some (.lst (ns.map .int)), some (.int salt), x, some (.lst (zs.map .int)), some (.int b)] ∧ 0 ≤ b ∧ b < 2147483648 ∧ h' = []) (fun _ _ _ _ => by rfl) zs _ _ ⟨_, _, rfl, by omega, by omega, rfl⟩ (fun l x r ρ h' e i => ?_) (fun ρ h' i => ?_)
    · obtain ⟨b, x2, rfl, b0, b1, rfl⟩ := i
      refine ⟨_, rfl, ?_⟩
      simp (dsimp := false) only [↓Kp_app, ↓w_seq, ↓w_sNil, ↓w_set, ↓w_ret, ↓w_retN, ↓w_sIf, ↓w_expr, ↓w_par, ↓w_par3, ↓w_asg, ↓w_aug, ↓w_sub, ↓w_for, ↓w_raise, ↓w_break, ↓w_cont, ↓w_op2, ↓w_op1, ↓w_cb, ↓w_c, ↓w_var, ↓w_nil, ↓w_cons, ↓w_tup, ↓w_lst, ↓w_new, ↓w_if, ↓w_test, ↓w_tru, ↓w_not, ↓w_and, ↓w_or, ↓w_andV, ↓w_orV, ↓w_notV, ↓w_chain, ↓w_call, ↓w_callK, ↓w_sl, ↓w_part0, ↓w_part1, ↓w_isi, ↓w_join, ↓w_mt, ↓w_lc, ↓w_lcN, ↓w_lcA, ↓w_it, ↓w_range1, ↓w_range2, ↓w_enum, ↓w_enumS, ↓w_zip,   OkX_ok, OkX_err, OkX_stuck, OkX_guard, o_addS, o_addT, o_addLL, o_addRL, o_addII, o_subI, o_mulI, o_mulS, o_fdivI, o_modI, o_powI, o_negI, o_ltI, o_leI, o_gtI, o_geI, o_ltS, o_leS, o_gtS, o_geS, o_eqI, o_eqS, o_neI, o_neS, o_isD, o_isnotD, o_inS, o_ixS, o_ixT, o_ixL, o_ixR, o_slS, o_slT, o_slL, o_slR, o_lenS, o_lenT, o_lenL, o_lenR, o_absI, o_intI, o_intB, o_tupT, o_tupL, o_tupR, o_maxI, o_minI,   List.set_cons_zero, List.set_cons_succ, List.getElem?_cons_zero, List.getElem?_cons_succ, List.map_cons, List.map_nil, List.length_cons, List.length_nil, List.replicate_succ, List.replicate_zero, List.cons_append, List.nil_append, Nat.reduceSub, Nat.reduceAdd, Nat.reduceLeDiff, exists_eq_left', D.bl.injEq, D.int.injEq, D.str.injEq, D.ref.injEq, D.tup.injEq, true_and, and_true, if_true, if_false, Bool.false_eq_true, Bool.not_true, Bool.not_false, decide_true, decide_false, bindP, bindPs, isK, atI_0, atI_1, atI_2, atI_3, ixN_0, ixN_1, Nat.zero_add, LINE, Nat.zero_le, truD, wipeD, Option.some.injEq]
      have r0 := Int.emod_nonneg (b * 16807 + x % 2147483563 + 67) (show (2147483647 : Int) ≠ 0 by omega)
      have r1 := Int.emod_lt_of_pos (b * 16807 + x % 2147483563 + 67) (show (0 : Int) < 2147483647 by omega)
      rw [Int.fmod_eq_emod_of_nonneg _ (show (0:Int) ≤ 2147483563 by omega), Int.fmod_eq_emod_of_nonneg _ (show (0:Int) ≤ 2147483647 by omega)]
      exact ⟨mulOk_of 40 40 (by omega) (by decide), by omega, by omega, _, _, rfl, r0, by omega⟩
    · obtain ⟨b, x2, rfl, b0, b1, rfl⟩ := i
      simp (dsimp := false) only [↓Kp_app, ↓w_seq, ↓w_sNil, ↓w_set, ↓w_ret, ↓w_retN, ↓w_sIf, ↓w_expr, ↓w_par, ↓w_par3, ↓w_asg, ↓w_aug, ↓w_sub, ↓w_for, ↓w_raise, ↓w_break, ↓w_cont, ↓w_op2, ↓w_op1, ↓w_cb, ↓w_c, ↓w_var, ↓w_nil, ↓w_cons, ↓w_tup, ↓w_lst, ↓w_new, ↓w_if, ↓w_test, ↓w_tru, ↓w_not, ↓w_and, ↓w_or, ↓w_andV, ↓w_orV, ↓w_notV, ↓w_chain, ↓w_call, ↓w_callK, ↓w_sl, ↓w_part0, ↓w_part1, ↓w_isi, ↓w_join, ↓w_mt, ↓w_lc, ↓w_lcN, ↓w_lcA, ↓w_it, ↓w_range1, ↓w_range2, ↓w_enum, ↓w_enumS, ↓w_zip,   OkX_ok, OkX_err, OkX_stuck, OkX_guard, o_addS, o_addT, o_addLL, o_addRL, o_addII, o_subI, o_mulI, o_mulS, o_fdivI, o_modI, o_powI, o_negI, o_ltI, o_leI, o_gtI, o_geI, o_ltS, o_leS, o_gtS, o_geS, o_eqI, o_eqS, o_neI, o_neS, o_isD, o_isnotD, o_inS, o_ixS, o_ixT, o_ixL, o_ixR, o_slS, o_slT, o_slL, o_slR, o_lenS, o_lenT, o_lenL, o_lenR, o_absI, o_intI, o_intB, o_tupT, o_tupL, o_tupR, o_maxI, o_minI,   List.set_cons_zero, List.set_cons_succ, List.getElem?_cons_zero, List.getElem?_cons_succ, List.map_cons, List.map_nil, List.length_cons, List.length_nil, List.replicate_succ, List.replicate_zero, List.cons_append, List.nil_append, Nat.reduceSub, Nat.reduceAdd, Nat.reduceLeDiff, exists_eq_left', D.bl.injEq, D.int.injEq, D.str.injEq, D.ref.injEq, D.tup.injEq, true_and, and_true, if_true, if_false, Bool.false_eq_true, Bool.not_true, Bool.not_false, decide_true, decide_false, bindP, bindPs, isK, atI_0, atI_1, atI_2, atI_3, ixN_0, ixN_1, Nat.zero_add, LINE, Nat.zero_le, truD, wipeD, Option.some.injEq]
      refine ⟨_, rfl, ?_⟩
      refine w_loopC D.int (fun l a h' => (∃ ys : List Int, a = ys.map .int ∧ (∀ c ∈ ys, 0 ≤ c) ∧ ys.length ≤ l.length) ∧ h' = []) (fun _ _ _ _ => by rfl) zs [] ⟨⟨[], rfl, fun _ m => (nomatch m), Nat.le_refl _⟩, rfl⟩ (fun l x r a h' e i => ?_) (fun a h' i => ?_)
      · obtain ⟨⟨ys, rfl, i1, i2⟩, rfl⟩ := i
        refine ⟨_, rfl, ?_⟩
        simp (dsimp := false) only [↓Kp_app, ↓w_seq, ↓w_sNil, ↓w_set, ↓w_ret, ↓w_retN, ↓w_sIf, ↓w_expr, ↓w_par, ↓w_par3, ↓w_asg, ↓w_aug, ↓w_sub, ↓w_for, ↓w_raise, ↓w_break, ↓w_cont, ↓w_op2, ↓w_op1, ↓w_cb, ↓w_c, ↓w_var, ↓w_nil, ↓w_cons, ↓w_tup, ↓w_lst, ↓w_new, ↓w_if, ↓w_test, ↓w_tru, ↓w_not, ↓w_and, ↓w_or, ↓w_andV, ↓w_orV, ↓w_notV, ↓w_chain, ↓w_call, ↓w_callK, ↓w_sl, ↓w_part0, ↓w_part1, ↓w_isi, ↓w_join, ↓w_mt, ↓w_lc, ↓w_lcN, ↓w_lcA, ↓w_it, ↓w_range1, ↓w_range2, ↓w_enum, ↓w_enumS, ↓w_zip,   OkX_ok, OkX_err, OkX_stuck, OkX_guard, o_addS, o_addT, o_addLL, o_addRL, o_addII, o_subI, o_mulI, o_mulS, o_fdivI, o_modI, o_powI, o_negI, o_ltI, o_leI, o_gtI, o_geI, o_ltS, o_leS, o_gtS, o_geS, o_eqI, o_eqS, o_neI, o_neS, o_isD, o_isnotD, o_inS, o_ixS, o_ixT, o_ixL, o_ixR, o_slS, o_slT, o_slL, o_slR, o_lenS, o_lenT, o_lenL, o_lenR, o_absI, o_intI, o_intB, o_tupT, o_tupL, o_tupR, o_maxI, o_minI,   List.set_cons_zero, List.set_cons_succ, List.getElem?_cons_zero, List.getElem?_cons_succ, List.map_cons, List.map_nil, List.length_cons, List.length_nil, List.replicate_succ, List.replicate_zero, List.cons_append, List.nil_append, Nat.reduceSub, Nat.reduceAdd, Nat.reduceLeDiff, exists_eq_left', D.bl.injEq, D.int.injEq, D.str.injEq, D.ref.injEq, D.tup.injEq, true_and, and_true, if_true, if_false, Bool.false_eq_true, Bool.not_true, Bool.not_false, decide_true, decide_false, bindP, bindPs, isK, atI_0, atI_1, atI_2, atI_3, ixN_0, ixN_1, Nat.zero_add, LINE, Nat.zero_le, truD, wipeD, Option.some.injEq]
        refine ⟨⟨by decide, by decide, by decide⟩, ?_⟩
        split
        · skip
          have := congrArg List.length e
          simp at this
          refine ⟨by simp; omega, ys ++ [x], by simp, fun c m => ?_, by simp; omega⟩
          rcases List.mem_append.mp m with m | m
          · exact i1 c m
          · rw [List.mem_singleton.mp m]; exact hc x (by rw [e]; simp)
        · exact ⟨ys, rfl, i1, by simp; omega⟩
      · obtain ⟨⟨ys, rfl, i1, i2⟩, rfl⟩ := i
        simp (dsimp := false) only [↓Kp_app, ↓w_seq, ↓w_sNil, ↓w_set, ↓w_ret, ↓w_retN, ↓w_sIf, ↓w_expr, ↓w_par, ↓w_par3, ↓w_asg, ↓w_aug, ↓w_sub, ↓w_for, ↓w_raise, ↓w_break, ↓w_cont, ↓w_op2, ↓w_op1, ↓w_cb, ↓w_c, ↓w_var, ↓w_nil, ↓w_cons, ↓w_tup, ↓w_lst, ↓w_new, ↓w_if, ↓w_test, ↓w_tru, ↓w_not, ↓w_and, ↓w_or, ↓w_andV, ↓w_orV, ↓w_notV, ↓w_chain, ↓w_call, ↓w_callK, ↓w_sl, ↓w_part0, ↓w_part1, ↓w_isi, ↓w_join, ↓w_mt, ↓w_lc, ↓w_lcN, ↓w_lcA, ↓w_it, ↓w_range1, ↓w_range2, ↓w_enum, ↓w_enumS, ↓w_zip,   OkX_ok, OkX_err, OkX_stuck, OkX_guard, o_addS, o_addT, o_addLL, o_addRL, o_addII, o_subI, o_mulI, o_mulS, o_fdivI, o_modI, o_powI, o_negI, o_ltI, o_leI, o_gtI, o_geI, o_ltS, o_leS, o_gtS, o_geS, o_eqI, o_eqS, o_neI, o_neS, o_isD, o_isnotD, o_inS, o_ixS, o_ixT, o_ixL, o_ixR, o_slS, o_slT, o_slL, o_slR, o_lenS, o_lenT, o_lenL, o_lenR, o_absI, o_intI, o_intB, o_tupT, o_tupL, o_tupR, o_maxI, o_minI,   List.set_cons_zero, List.set_cons_succ, List.getElem?_cons_zero, List.getElem?_cons_succ, List.map_cons, List.map_nil, List.length_cons, List.length_nil, List.replicate_succ, List.replicate_zero, List.cons_append, List.nil_append, Nat.reduceSub, Nat.reduceAdd, Nat.reduceLeDiff, exists_eq_left', D.bl.injEq, D.int.injEq, D.str.injEq, D.ref.injEq, D.tup.injEq, true_and, and_true, if_true, if_false, Bool.false_eq_true, Bool.not_true, Bool.not_false, decide_true, decide_false, bindP, bindPs, isK, atI_0, atI_1, atI_2, atI_3, ixN_0, ixN_1, Nat.zero_add, LINE, Nat.zero_le, truD, wipeD, Option.some.injEq]
        exact q _ ⟨ys, b, rfl, i1, by omega, b0, b1⟩
end
theorem tru_bl {b : Bool} {h : List MO} : truD h (.bl b) = some b := by cases b <;> rfl
/-- what is the same as itself, by the law's own sight -/
def sameDD : Nat → D → Bool
  | _, .non => true
  | _, .bl _ => true
  | _, .int _ => true
  | _, .str _ => true
  | k + 1, .tup ds => decide (ds.length ≤ 16777216) && ds.all (sameDD k)
  | _, _ => false
theorem same_okD : ∀ (n : Nat) (d : D) (h : List MO) (P : D → List MO → Prop) (X : Ex → List MO → Prop), sameDD n d = true → P (.bl true) h → OkX (mSameD (n + 1) [d, d] h) P X
  | n, .non, h, P, X, _, q => by
    unfold mSameD; rw [w_run]; unfold bSameD
    simp (dsimp := false) only [isi_tn, ↓Kp_app, ↓w_seq, ↓w_sNil, ↓w_set, ↓w_ret, ↓w_retN, ↓w_sIf, ↓w_expr, ↓w_par, ↓w_par3, ↓w_asg, ↓w_aug, ↓w_sub, ↓w_for, ↓w_raise, ↓w_break, ↓w_cont, ↓w_op2, ↓w_op1, ↓w_cb, ↓w_c, ↓w_var, ↓w_nil, ↓w_cons, ↓w_tup, ↓w_lst, ↓w_new, ↓w_if, ↓w_test, ↓w_tru, ↓w_not, ↓w_and, ↓w_or, ↓w_andV, ↓w_orV, ↓w_notV, ↓w_chain, ↓w_call, ↓w_callK, ↓w_sl, ↓w_part0, ↓w_part1, ↓w_isi, ↓w_join, ↓w_mt, ↓w_lc, ↓w_lcN, ↓w_lcA, ↓w_it, ↓w_range1, ↓w_range2, ↓w_enum, ↓w_enumS, ↓w_zip,   OkX_ok, OkX_err, OkX_stuck, OkX_guard, o_addS, o_addT, o_addLL, o_addRL, o_addII, o_subI, o_mulI, o_mulS, o_fdivI, o_modI, o_powI, o_negI, o_ltI, o_leI, o_gtI, o_geI, o_ltS, o_leS, o_gtS, o_geS, o_eqI, o_eqS, o_neI, o_neS, o_isD, o_isnotD, o_inS, o_ixS, o_ixT, o_ixL, o_ixR, o_slS, o_slT, o_slL, o_slR, o_lenS, o_lenT, o_lenL, o_lenR, o_absI, o_intI, o_intB, o_tupT, o_tupL, o_tupR, o_maxI, o_minI,   List.set_cons_zero, List.set_cons_succ, List.getElem?_cons_zero, List.getElem?_cons_succ, List.map_cons, List.map_nil, List.length_cons, List.length_nil, List.replicate_succ, List.replicate_zero, List.cons_append, List.nil_append, Nat.reduceSub, Nat.reduceAdd, Nat.reduceLeDiff, exists_eq_left', D.bl.injEq, D.int.injEq, D.str.injEq, D.ref.injEq, D.tup.injEq, true_and, and_true, if_true, if_false, Bool.false_eq_true, Bool.not_true, Bool.not_false, decide_true, decide_false, bindP, bindPs, isK, atI_0, atI_1, atI_2, atI_3, ixN_0, ixN_1, Nat.zero_add, LINE, Nat.zero_le, truD, wipeD, Option.some.injEq]
    exact q
  | n, .bl b, h, P, X, _, q => by
    unfold mSameD; rw [w_run]; unfold bSameD
    simp (dsimp := false) only [isi_tb, isi_bb, ↓Kp_app, ↓w_seq, ↓w_sNil, ↓w_set, ↓w_ret, ↓w_retN, ↓w_sIf, ↓w_expr, ↓w_par, ↓w_par3, ↓w_asg, ↓w_aug, ↓w_sub, ↓w_for, ↓w_raise, ↓w_break, ↓w_cont, ↓w_op2, ↓w_op1, ↓w_cb, ↓w_c, ↓w_var, ↓w_nil, ↓w_cons, ↓w_tup, ↓w_lst, ↓w_new, ↓w_if, ↓w_test, ↓w_tru, ↓w_not, ↓w_and, ↓w_or, ↓w_andV, ↓w_orV, ↓w_notV, ↓w_chain, ↓w_call, ↓w_callK, ↓w_sl, ↓w_part0, ↓w_part1, ↓w_isi, ↓w_join, ↓w_mt, ↓w_lc, ↓w_lcN, ↓w_lcA, ↓w_it, ↓w_range1, ↓w_range2, ↓w_enum, ↓w_enumS, ↓w_zip,   OkX_ok, OkX_err, OkX_stuck, OkX_guard, o_addS, o_addT, o_addLL, o_addRL, o_addII, o_subI, o_mulI, o_mulS, o_fdivI, o_modI, o_powI, o_negI, o_ltI, o_leI, o_gtI, o_geI, o_ltS, o_leS, o_gtS, o_geS, o_eqI, o_eqS, o_neI, o_neS, o_isD, o_isnotD, o_inS, o_ixS, o_ixT, o_ixL, o_ixR, o_slS, o_slT, o_slL, o_slR, o_lenS, o_lenT, o_lenL, o_lenR, o_absI, o_intI, o_intB, o_tupT, o_tupL, o_tupR, o_maxI, o_minI,   List.set_cons_zero, List.set_cons_succ, List.getElem?_cons_zero, List.getElem?_cons_succ, List.map_cons, List.map_nil, List.length_cons, List.length_nil, List.replicate_succ, List.replicate_zero, List.cons_append, List.nil_append, Nat.reduceSub, Nat.reduceAdd, Nat.reduceLeDiff, exists_eq_left', D.bl.injEq, D.int.injEq, D.str.injEq, D.ref.injEq, D.tup.injEq, true_and, and_true, if_true, if_false, Bool.false_eq_true, Bool.not_true, Bool.not_false, decide_true, decide_false, bindP, bindPs, isK, atI_0, atI_1, atI_2, atI_3, ixN_0, ixN_1, Nat.zero_add, LINE, Nat.zero_le, truD, wipeD, Option.some.injEq]
    cases b <;> simp <;> (unfold mTellsD; rw [w_run]; unfold bTellsD; simp (dsimp := false) only [tru_bl, ↓Kp_app, ↓w_seq, ↓w_sNil, ↓w_set, ↓w_ret, ↓w_retN, ↓w_sIf, ↓w_expr, ↓w_par, ↓w_par3, ↓w_asg, ↓w_aug, ↓w_sub, ↓w_for, ↓w_raise, ↓w_break, ↓w_cont, ↓w_op2, ↓w_op1, ↓w_cb, ↓w_c, ↓w_var, ↓w_nil, ↓w_cons, ↓w_tup, ↓w_lst, ↓w_new, ↓w_if, ↓w_test, ↓w_tru, ↓w_not, ↓w_and, ↓w_or, ↓w_andV, ↓w_orV, ↓w_notV, ↓w_chain, ↓w_call, ↓w_callK, ↓w_sl, ↓w_part0, ↓w_part1, ↓w_isi, ↓w_join, ↓w_mt, ↓w_lc, ↓w_lcN, ↓w_lcA, ↓w_it, ↓w_range1, ↓w_range2, ↓w_enum, ↓w_enumS, ↓w_zip,   OkX_ok, OkX_err, OkX_stuck, OkX_guard, o_addS, o_addT, o_addLL, o_addRL, o_addII, o_subI, o_mulI, o_mulS, o_fdivI, o_modI, o_powI, o_negI, o_ltI, o_leI, o_gtI, o_geI, o_ltS, o_leS, o_gtS, o_geS, o_eqI, o_eqS, o_neI, o_neS, o_isD, o_isnotD, o_inS, o_ixS, o_ixT, o_ixL, o_ixR, o_slS, o_slT, o_slL, o_slR, o_lenS, o_lenT, o_lenL, o_lenR, o_absI, o_intI, o_intB, o_tupT, o_tupL, o_tupR, o_maxI, o_minI,   List.set_cons_zero, List.set_cons_succ, List.getElem?_cons_zero, List.getElem?_cons_succ, List.map_cons, List.map_nil, List.length_cons, List.length_nil, List.replicate_succ, List.replicate_zero, List.cons_append, List.nil_append, Nat.reduceSub, Nat.reduceAdd, Nat.reduceLeDiff, exists_eq_left', D.bl.injEq, D.int.injEq, D.str.injEq, D.ref.injEq, D.tup.injEq, true_and, and_true, if_true, if_false, Bool.false_eq_true, Bool.not_true, Bool.not_false, decide_true, decide_false, bindP, bindPs, isK, atI_0, atI_1, atI_2, atI_3, ixN_0, ixN_1, Nat.zero_add, LINE, Nat.zero_le, truD, wipeD, Option.some.injEq]; exact q)
  | n, .int i, h, P, X, _, q => by
    unfold mSameD; rw [w_run]; unfold bSameD
    simp (dsimp := false) only [isi_ti, isi_ii, isi_bi, isi_si, ↓Kp_app, ↓w_seq, ↓w_sNil, ↓w_set, ↓w_ret, ↓w_retN, ↓w_sIf, ↓w_expr, ↓w_par, ↓w_par3, ↓w_asg, ↓w_aug, ↓w_sub, ↓w_for, ↓w_raise, ↓w_break, ↓w_cont, ↓w_op2, ↓w_op1, ↓w_cb, ↓w_c, ↓w_var, ↓w_nil, ↓w_cons, ↓w_tup, ↓w_lst, ↓w_new, ↓w_if, ↓w_test, ↓w_tru, ↓w_not, ↓w_and, ↓w_or, ↓w_andV, ↓w_orV, ↓w_notV, ↓w_chain, ↓w_call, ↓w_callK, ↓w_sl, ↓w_part0, ↓w_part1, ↓w_isi, ↓w_join, ↓w_mt, ↓w_lc, ↓w_lcN, ↓w_lcA, ↓w_it, ↓w_range1, ↓w_range2, ↓w_enum, ↓w_enumS, ↓w_zip,   OkX_ok, OkX_err, OkX_stuck, OkX_guard, o_addS, o_addT, o_addLL, o_addRL, o_addII, o_subI, o_mulI, o_mulS, o_fdivI, o_modI, o_powI, o_negI, o_ltI, o_leI, o_gtI, o_geI, o_ltS, o_leS, o_gtS, o_geS, o_eqI, o_eqS, o_neI, o_neS, o_isD, o_isnotD, o_inS, o_ixS, o_ixT, o_ixL, o_ixR, o_slS, o_slT, o_slL, o_slR, o_lenS, o_lenT, o_lenL, o_lenR, o_absI, o_intI, o_intB, o_tupT, o_tupL, o_tupR, o_maxI, o_minI,   List.set_cons_zero, List.set_cons_succ, List.getElem?_cons_zero, List.getElem?_cons_succ, List.map_cons, List.map_nil, List.length_cons, List.length_nil, List.replicate_succ, List.replicate_zero, List.cons_append, List.nil_append, Nat.reduceSub, Nat.reduceAdd, Nat.reduceLeDiff, exists_eq_left', D.bl.injEq, D.int.injEq, D.str.injEq, D.ref.injEq, D.tup.injEq, true_and, and_true, if_true, if_false, Bool.false_eq_true, Bool.not_true, Bool.not_false, decide_true, decide_false, bindP, bindPs, isK, atI_0, atI_1, atI_2, atI_3, ixN_0, ixN_1, Nat.zero_add, LINE, Nat.zero_le, truD, wipeD, Option.some.injEq]
    simp
    unfold mIsIntD; rw [w_run]; unfold bIsIntD
    simp (dsimp := false) only [isi_ii, isi_bi, ↓Kp_app, ↓w_seq, ↓w_sNil, ↓w_set, ↓w_ret, ↓w_retN, ↓w_sIf, ↓w_expr, ↓w_par, ↓w_par3, ↓w_asg, ↓w_aug, ↓w_sub, ↓w_for, ↓w_raise, ↓w_break, ↓w_cont, ↓w_op2, ↓w_op1, ↓w_cb, ↓w_c, ↓w_var, ↓w_nil, ↓w_cons, ↓w_tup, ↓w_lst, ↓w_new, ↓w_if, ↓w_test, ↓w_tru, ↓w_not, ↓w_and, ↓w_or, ↓w_andV, ↓w_orV, ↓w_notV, ↓w_chain, ↓w_call, ↓w_callK, ↓w_sl, ↓w_part0, ↓w_part1, ↓w_isi, ↓w_join, ↓w_mt, ↓w_lc, ↓w_lcN, ↓w_lcA, ↓w_it, ↓w_range1, ↓w_range2, ↓w_enum, ↓w_enumS, ↓w_zip,   OkX_ok, OkX_err, OkX_stuck, OkX_guard, o_addS, o_addT, o_addLL, o_addRL, o_addII, o_subI, o_mulI, o_mulS, o_fdivI, o_modI, o_powI, o_negI, o_ltI, o_leI, o_gtI, o_geI, o_ltS, o_leS, o_gtS, o_geS, o_eqI, o_eqS, o_neI, o_neS, o_isD, o_isnotD, o_inS, o_ixS, o_ixT, o_ixL, o_ixR, o_slS, o_slT, o_slL, o_slR, o_lenS, o_lenT, o_lenL, o_lenR, o_absI, o_intI, o_intB, o_tupT, o_tupL, o_tupR, o_maxI, o_minI,   List.set_cons_zero, List.set_cons_succ, List.getElem?_cons_zero, List.getElem?_cons_succ, List.map_cons, List.map_nil, List.length_cons, List.length_nil, List.replicate_succ, List.replicate_zero, List.cons_append, List.nil_append, Nat.reduceSub, Nat.reduceAdd, Nat.reduceLeDiff, exists_eq_left', D.bl.injEq, D.int.injEq, D.str.injEq, D.ref.injEq, D.tup.injEq, true_and, and_true, if_true, if_false, Bool.false_eq_true, Bool.not_true, Bool.not_false, decide_true, decide_false, bindP, bindPs, isK, atI_0, atI_1, atI_2, atI_3, ixN_0, ixN_1, Nat.zero_add, LINE, Nat.zero_le, truD, wipeD, Option.some.injEq]
    exact q
  | n, .str i, h, P, X, _, q => by
    unfold mSameD; rw [w_run]; unfold bSameD
    have isi_bs : isiD ["bool"] (.str i) = some false := rfl
    simp (dsimp := false) only [isi_ts, isi_ss, isi_is, isi_bs, ↓Kp_app, ↓w_seq, ↓w_sNil, ↓w_set, ↓w_ret, ↓w_retN, ↓w_sIf, ↓w_expr, ↓w_par, ↓w_par3, ↓w_asg, ↓w_aug, ↓w_sub, ↓w_for, ↓w_raise, ↓w_break, ↓w_cont, ↓w_op2, ↓w_op1, ↓w_cb, ↓w_c, ↓w_var, ↓w_nil, ↓w_cons, ↓w_tup, ↓w_lst, ↓w_new, ↓w_if, ↓w_test, ↓w_tru, ↓w_not, ↓w_and, ↓w_or, ↓w_andV, ↓w_orV, ↓w_notV, ↓w_chain, ↓w_call, ↓w_callK, ↓w_sl, ↓w_part0, ↓w_part1, ↓w_isi, ↓w_join, ↓w_mt, ↓w_lc, ↓w_lcN, ↓w_lcA, ↓w_it, ↓w_range1, ↓w_range2, ↓w_enum, ↓w_enumS, ↓w_zip,   OkX_ok, OkX_err, OkX_stuck, OkX_guard, o_addS, o_addT, o_addLL, o_addRL, o_addII, o_subI, o_mulI, o_mulS, o_fdivI, o_modI, o_powI, o_negI, o_ltI, o_leI, o_gtI, o_geI, o_ltS, o_leS, o_gtS, o_geS, o_eqI, o_eqS, o_neI, o_neS, o_isD, o_isnotD, o_inS, o_ixS, o_ixT, o_ixL, o_ixR, o_slS, o_slT, o_slL, o_slR, o_lenS, o_lenT, o_lenL, o_lenR, o_absI, o_intI, o_intB, o_tupT, o_tupL, o_tupR, o_maxI, o_minI,   List.set_cons_zero, List.set_cons_succ, List.getElem?_cons_zero, List.getElem?_cons_succ, List.map_cons, List.map_nil, List.length_cons, List.length_nil, List.replicate_succ, List.replicate_zero, List.cons_append, List.nil_append, Nat.reduceSub, Nat.reduceAdd, Nat.reduceLeDiff, exists_eq_left', D.bl.injEq, D.int.injEq, D.str.injEq, D.ref.injEq, D.tup.injEq, true_and, and_true, if_true, if_false, Bool.false_eq_true, Bool.not_true, Bool.not_false, decide_true, decide_false, bindP, bindPs, isK, atI_0, atI_1, atI_2, atI_3, ixN_0, ixN_1, Nat.zero_add, LINE, Nat.zero_le, truD, wipeD, Option.some.injEq]
    simpa using q
  | 0, .tup _, _, _, _, s, _ => by unfold sameDD at s; cases s
  | _, .lst _, _, _, _, s, _ => by unfold sameDD at s; cases s
  | _, .ref _, _, _, _, s, _ => by unfold sameDD at s; cases s
  | _, .glo _, _, _, _, s, _ => by unfold sameDD at s; cases s
  | _, .clo _ _, _, _, _, s, _ => by unfold sameDD at s; cases s
  | n + 1, .tup ds, h, P, X, s, q => by
    unfold sameDD at s
    unfold mSameD; rw [w_run]; unfold bSameD
    rw [Bool.and_eq_true, decide_eq_true_eq] at s
    obtain ⟨s0, s⟩ := s
    simp (dsimp := false) only [isi_tt, ↓Kp_app, ↓w_seq, ↓w_sNil, ↓w_set, ↓w_ret, ↓w_retN, ↓w_sIf, ↓w_expr, ↓w_par, ↓w_par3, ↓w_asg, ↓w_aug, ↓w_sub, ↓w_for, ↓w_raise, ↓w_break, ↓w_cont, ↓w_op2, ↓w_op1, ↓w_cb, ↓w_c, ↓w_var, ↓w_nil, ↓w_cons, ↓w_tup, ↓w_lst, ↓w_new, ↓w_if, ↓w_test, ↓w_tru, ↓w_not, ↓w_and, ↓w_or, ↓w_andV, ↓w_orV, ↓w_notV, ↓w_chain, ↓w_call, ↓w_callK, ↓w_sl, ↓w_part0, ↓w_part1, ↓w_isi, ↓w_join, ↓w_mt, ↓w_lc, ↓w_lcN, ↓w_lcA, ↓w_it, ↓w_range1, ↓w_range2, ↓w_enum, ↓w_enumS, ↓w_zip,   OkX_ok, OkX_err, OkX_stuck, OkX_guard, o_addS, o_addT, o_addLL, o_addRL, o_addII, o_subI, o_mulI, o_mulS, o_fdivI, o_modI, o_powI, o_negI, o_ltI, o_leI, o_gtI, o_geI, o_ltS, o_leS, o_gtS, o_geS, o_eqI, o_eqS, o_neI, o_neS, o_isD, o_isnotD, o_inS, o_ixS, o_ixT, o_ixL, o_ixR, o_slS, o_slT, o_slL, o_slR, o_lenS, o_lenT, o_lenL, o_lenR, o_absI, o_intI, o_intB, o_tupT, o_tupL, o_tupR, o_maxI, o_minI,   List.set_cons_zero, List.set_cons_succ, List.getElem?_cons_zero, List.getElem?_cons_succ, List.map_cons, List.map_nil, List.length_cons, List.length_nil, List.replicate_succ, List.replicate_zero, List.cons_append, List.nil_append, Nat.reduceSub, Nat.reduceAdd, Nat.reduceLeDiff, exists_eq_left', D.bl.injEq, D.int.injEq, D.str.injEq, D.ref.injEq, D.tup.injEq, true_and, and_true, if_true, if_false, Bool.false_eq_true, Bool.not_true, Bool.not_false, decide_true, decide_false, bindP, bindPs, isK, atI_0, atI_1, atI_2, atI_3, ixN_0, ixN_1, Nat.zero_add, LINE, Nat.zero_le, truD, wipeD, Option.some.injEq]
    refine ⟨by unfold big62; omega, ?_⟩
    refine w_loopC (α := Nat) (fun i => D.int (0 + (i : Int))) (fun _ a h' => a = [] ∧ h' = h) (fun _ _ _ _ => by rfl) (List.range ds.length) h ⟨rfl, rfl⟩ (fun l x r a h' e i => ?_) (fun a h' i => ?_)
    · obtain ⟨rfl, rfl⟩ := i
      refine ⟨_, rfl, ?_⟩
      have hx : x < ds.length := List.mem_range.mp (by rw [e]; simp)
      have e0 : (0 : Int) + (x : Int) = (x : Int) := by omega
      rw [e0]
      simp (dsimp := false) only [atI_nat, List.getElem?_eq_getElem hx, ↓Kp_app, ↓w_seq, ↓w_sNil, ↓w_set, ↓w_ret, ↓w_retN, ↓w_sIf, ↓w_expr, ↓w_par, ↓w_par3, ↓w_asg, ↓w_aug, ↓w_sub, ↓w_for, ↓w_raise, ↓w_break, ↓w_cont, ↓w_op2, ↓w_op1, ↓w_cb, ↓w_c, ↓w_var, ↓w_nil, ↓w_cons, ↓w_tup, ↓w_lst, ↓w_new, ↓w_if, ↓w_test, ↓w_tru, ↓w_not, ↓w_and, ↓w_or, ↓w_andV, ↓w_orV, ↓w_notV, ↓w_chain, ↓w_call, ↓w_callK, ↓w_sl, ↓w_part0, ↓w_part1, ↓w_isi, ↓w_join, ↓w_mt, ↓w_lc, ↓w_lcN, ↓w_lcA, ↓w_it, ↓w_range1, ↓w_range2, ↓w_enum, ↓w_enumS, ↓w_zip,   OkX_ok, OkX_err, OkX_stuck, OkX_guard, o_addS, o_addT, o_addLL, o_addRL, o_addII, o_subI, o_mulI, o_mulS, o_fdivI, o_modI, o_powI, o_negI, o_ltI, o_leI, o_gtI, o_geI, o_ltS, o_leS, o_gtS, o_geS, o_eqI, o_eqS, o_neI, o_neS, o_isD, o_isnotD, o_inS, o_ixS, o_ixT, o_ixL, o_ixR, o_slS, o_slT, o_slL, o_slR, o_lenS, o_lenT, o_lenL, o_lenR, o_absI, o_intI, o_intB, o_tupT, o_tupL, o_tupR, o_maxI, o_minI,   List.set_cons_zero, List.set_cons_succ, List.getElem?_cons_zero, List.getElem?_cons_succ, List.map_cons, List.map_nil, List.length_cons, List.length_nil, List.replicate_succ, List.replicate_zero, List.cons_append, List.nil_append, Nat.reduceSub, Nat.reduceAdd, Nat.reduceLeDiff, exists_eq_left', D.bl.injEq, D.int.injEq, D.str.injEq, D.ref.injEq, D.tup.injEq, true_and, and_true, if_true, if_false, Bool.false_eq_true, Bool.not_true, Bool.not_false, decide_true, decide_false, bindP, bindPs, isK, atI_0, atI_1, atI_2, atI_3, ixN_0, ixN_1, Nat.zero_add, LINE, Nat.zero_le, truD, wipeD, Option.some.injEq]
      refine same_okD n ds[x] _ _ _ (List.all_eq_true.mp s _ (List.getElem_mem hx)) ?_
      simp (dsimp := false) only [↓Kp_app, ↓w_seq, ↓w_sNil, ↓w_set, ↓w_ret, ↓w_retN, ↓w_sIf, ↓w_expr, ↓w_par, ↓w_par3, ↓w_asg, ↓w_aug, ↓w_sub, ↓w_for, ↓w_raise, ↓w_break, ↓w_cont, ↓w_op2, ↓w_op1, ↓w_cb, ↓w_c, ↓w_var, ↓w_nil, ↓w_cons, ↓w_tup, ↓w_lst, ↓w_new, ↓w_if, ↓w_test, ↓w_tru, ↓w_not, ↓w_and, ↓w_or, ↓w_andV, ↓w_orV, ↓w_notV, ↓w_chain, ↓w_call, ↓w_callK, ↓w_sl, ↓w_part0, ↓w_part1, ↓w_isi, ↓w_join, ↓w_mt, ↓w_lc, ↓w_lcN, ↓w_lcA, ↓w_it, ↓w_range1, ↓w_range2, ↓w_enum, ↓w_enumS, ↓w_zip,   OkX_ok, OkX_err, OkX_stuck, OkX_guard, o_addS, o_addT, o_addLL, o_addRL, o_addII, o_subI, o_mulI, o_mulS, o_fdivI, o_modI, o_powI, o_negI, o_ltI, o_leI, o_gtI, o_geI, o_ltS, o_leS, o_gtS, o_geS, o_eqI, o_eqS, o_neI, o_neS, o_isD, o_isnotD, o_inS, o_ixS, o_ixT, o_ixL, o_ixR, o_slS, o_slT, o_slL, o_slR, o_lenS, o_lenT, o_lenL, o_lenR, o_absI, o_intI, o_intB, o_tupT, o_tupL, o_tupR, o_maxI, o_minI,   List.set_cons_zero, List.set_cons_succ, List.getElem?_cons_zero, List.getElem?_cons_succ, List.map_cons, List.map_nil, List.length_cons, List.length_nil, List.replicate_succ, List.replicate_zero, List.cons_append, List.nil_append, Nat.reduceSub, Nat.reduceAdd, Nat.reduceLeDiff, exists_eq_left', D.bl.injEq, D.int.injEq, D.str.injEq, D.ref.injEq, D.tup.injEq, true_and, and_true, if_true, if_false, Bool.false_eq_true, Bool.not_true, Bool.not_false, decide_true, decide_false, bindP, bindPs, isK, atI_0, atI_1, atI_2, atI_3, ixN_0, ixN_1, Nat.zero_add, LINE, Nat.zero_le, truD, wipeD, Option.some.injEq]
    · obtain ⟨rfl, rfl⟩ := i
      simp (dsimp := false) only [o_eqD, eqD_self_lst, ↓Kp_app, ↓w_seq, ↓w_sNil, ↓w_set, ↓w_ret, ↓w_retN, ↓w_sIf, ↓w_expr, ↓w_par, ↓w_par3, ↓w_asg, ↓w_aug, ↓w_sub, ↓w_for, ↓w_raise, ↓w_break, ↓w_cont, ↓w_op2, ↓w_op1, ↓w_cb, ↓w_c, ↓w_var, ↓w_nil, ↓w_cons, ↓w_tup, ↓w_lst, ↓w_new, ↓w_if, ↓w_test, ↓w_tru, ↓w_not, ↓w_and, ↓w_or, ↓w_andV, ↓w_orV, ↓w_notV, ↓w_chain, ↓w_call, ↓w_callK, ↓w_sl, ↓w_part0, ↓w_part1, ↓w_isi, ↓w_join, ↓w_mt, ↓w_lc, ↓w_lcN, ↓w_lcA, ↓w_it, ↓w_range1, ↓w_range2, ↓w_enum, ↓w_enumS, ↓w_zip,   OkX_ok, OkX_err, OkX_stuck, OkX_guard, o_addS, o_addT, o_addLL, o_addRL, o_addII, o_subI, o_mulI, o_mulS, o_fdivI, o_modI, o_powI, o_negI, o_ltI, o_leI, o_gtI, o_geI, o_ltS, o_leS, o_gtS, o_geS, o_eqI, o_eqS, o_neI, o_neS, o_isD, o_isnotD, o_inS, o_ixS, o_ixT, o_ixL, o_ixR, o_slS, o_slT, o_slL, o_slR, o_lenS, o_lenT, o_lenL, o_lenR, o_absI, o_intI, o_intB, o_tupT, o_tupL, o_tupR, o_maxI, o_minI,   List.set_cons_zero, List.set_cons_succ, List.getElem?_cons_zero, List.getElem?_cons_succ, List.map_cons, List.map_nil, List.length_cons, List.length_nil, List.replicate_succ, List.replicate_zero, List.cons_append, List.nil_append, Nat.reduceSub, Nat.reduceAdd, Nat.reduceLeDiff, exists_eq_left', D.bl.injEq, D.int.injEq, D.str.injEq, D.ref.injEq, D.tup.injEq, true_and, and_true, if_true, if_false, Bool.false_eq_true, Bool.not_true, Bool.not_false, decide_true, decide_false, bindP, bindPs, isK, atI_0, atI_1, atI_2, atI_3, ixN_0, ixN_1, Nat.zero_add, LINE, Nat.zero_le, truD, wipeD, Option.some.injEq]
      exact q
section
variable {h t : List MO} {P : D → List MO → Prop} {X : Ex → List MO → Prop}
theorem seq_okD {ds : List D} (x : BoxD t h) (q : ∀ v h', (v = .tup ds ∨ v = .lst ds) → BoxD t h' → P v h') : OkX (mSeqD [.ref 1, .tup ds] h) P X := by
  unfold mSeqD; rw [w_run]; unfold bSeqD
  simp (dsimp := false) only [↓Kp_app, ↓w_seq, ↓w_sNil, ↓w_set, ↓w_ret, ↓w_retN, ↓w_sIf, ↓w_expr, ↓w_par, ↓w_par3, ↓w_asg, ↓w_aug, ↓w_sub, ↓w_for, ↓w_raise, ↓w_break, ↓w_cont, ↓w_op2, ↓w_op1, ↓w_cb, ↓w_c, ↓w_var, ↓w_nil, ↓w_cons, ↓w_tup, ↓w_lst, ↓w_new, ↓w_if, ↓w_test, ↓w_tru, ↓w_not, ↓w_and, ↓w_or, ↓w_andV, ↓w_orV, ↓w_notV, ↓w_chain, ↓w_call, ↓w_callK, ↓w_sl, ↓w_part0, ↓w_part1, ↓w_isi, ↓w_join, ↓w_mt, ↓w_lc, ↓w_lcN, ↓w_lcA, ↓w_it, ↓w_range1, ↓w_range2, ↓w_enum, ↓w_enumS, ↓w_zip,   OkX_ok, OkX_err, OkX_stuck, OkX_guard, o_addS, o_addT, o_addLL, o_addRL, o_addII, o_subI, o_mulI, o_mulS, o_fdivI, o_modI, o_powI, o_negI, o_ltI, o_leI, o_gtI, o_geI, o_ltS, o_leS, o_gtS, o_geS, o_eqI, o_eqS, o_neI, o_neS, o_isD, o_isnotD, o_inS, o_ixS, o_ixT, o_ixL, o_ixR, o_slS, o_slT, o_slL, o_slR, o_lenS, o_lenT, o_lenL, o_lenR, o_absI, o_intI, o_intB, o_tupT, o_tupL, o_tupR, o_maxI, o_minI,   List.set_cons_zero, List.set_cons_succ, List.getElem?_cons_zero, List.getElem?_cons_succ, List.map_cons, List.map_nil, List.length_cons, List.length_nil, List.replicate_succ, List.replicate_zero, List.cons_append, List.nil_append, Nat.reduceSub, Nat.reduceAdd, Nat.reduceLeDiff, exists_eq_left', D.bl.injEq, D.int.injEq, D.str.injEq, D.ref.injEq, D.tup.injEq, true_and, and_true, if_true, if_false, Bool.false_eq_true, Bool.not_true, Bool.not_false, decide_true, decide_false, bindP, bindPs, isK, atI_0, atI_1, atI_2, atI_3, ixN_0, ixN_1, Nat.zero_add, LINE, Nat.zero_le, truD, wipeD, Option.some.injEq]
  refine draw_okD (n := 2) x (by decide) (by decide) fun k h' k0 k1 hx => ?_
  simp (dsimp := false) only [↓Kp_app, ↓w_seq, ↓w_sNil, ↓w_set, ↓w_ret, ↓w_retN, ↓w_sIf, ↓w_expr, ↓w_par, ↓w_par3, ↓w_asg, ↓w_aug, ↓w_sub, ↓w_for, ↓w_raise, ↓w_break, ↓w_cont, ↓w_op2, ↓w_op1, ↓w_cb, ↓w_c, ↓w_var, ↓w_nil, ↓w_cons, ↓w_tup, ↓w_lst, ↓w_new, ↓w_if, ↓w_test, ↓w_tru, ↓w_not, ↓w_and, ↓w_or, ↓w_andV, ↓w_orV, ↓w_notV, ↓w_chain, ↓w_call, ↓w_callK, ↓w_sl, ↓w_part0, ↓w_part1, ↓w_isi, ↓w_join, ↓w_mt, ↓w_lc, ↓w_lcN, ↓w_lcA, ↓w_it, ↓w_range1, ↓w_range2, ↓w_enum, ↓w_enumS, ↓w_zip,   OkX_ok, OkX_err, OkX_stuck, OkX_guard, o_addS, o_addT, o_addLL, o_addRL, o_addII, o_subI, o_mulI, o_mulS, o_fdivI, o_modI, o_powI, o_negI, o_ltI, o_leI, o_gtI, o_geI, o_ltS, o_leS, o_gtS, o_geS, o_eqI, o_eqS, o_neI, o_neS, o_isD, o_isnotD, o_inS, o_ixS, o_ixT, o_ixL, o_ixR, o_slS, o_slT, o_slL, o_slR, o_lenS, o_lenT, o_lenL, o_lenR, o_absI, o_intI, o_intB, o_tupT, o_tupL, o_tupR, o_maxI, o_minI,   List.set_cons_zero, List.set_cons_succ, List.getElem?_cons_zero, List.getElem?_cons_succ, List.map_cons, List.map_nil, List.length_cons, List.length_nil, List.replicate_succ, List.replicate_zero, List.cons_append, List.nil_append, Nat.reduceSub, Nat.reduceAdd, Nat.reduceLeDiff, exists_eq_left', D.bl.injEq, D.int.injEq, D.str.injEq, D.ref.injEq, D.tup.injEq, true_and, and_true, if_true, if_false, Bool.false_eq_true, Bool.not_true, Bool.not_false, decide_true, decide_false, bindP, bindPs, isK, atI_0, atI_1, atI_2, atI_3, ixN_0, ixN_1, Nat.zero_add, LINE, Nat.zero_le, truD, wipeD, Option.some.injEq]
  have o_listT : ∀ {P : D → List MO → Prop}, OkX (oList [.tup ds] h') P X = P (.lst ds) h' := id rfl
  by_cases z : k = 0
  · simp only [z, decide_true, if_true]
    rw [o_listT]
    simp (dsimp := false) only [↓Kp_app, ↓w_seq, ↓w_sNil, ↓w_set, ↓w_ret, ↓w_retN, ↓w_sIf, ↓w_expr, ↓w_par, ↓w_par3, ↓w_asg, ↓w_aug, ↓w_sub, ↓w_for, ↓w_raise, ↓w_break, ↓w_cont, ↓w_op2, ↓w_op1, ↓w_cb, ↓w_c, ↓w_var, ↓w_nil, ↓w_cons, ↓w_tup, ↓w_lst, ↓w_new, ↓w_if, ↓w_test, ↓w_tru, ↓w_not, ↓w_and, ↓w_or, ↓w_andV, ↓w_orV, ↓w_notV, ↓w_chain, ↓w_call, ↓w_callK, ↓w_sl, ↓w_part0, ↓w_part1, ↓w_isi, ↓w_join, ↓w_mt, ↓w_lc, ↓w_lcN, ↓w_lcA, ↓w_it, ↓w_range1, ↓w_range2, ↓w_enum, ↓w_enumS, ↓w_zip,   OkX_ok, OkX_err, OkX_stuck, OkX_guard, o_addS, o_addT, o_addLL, o_addRL, o_addII, o_subI, o_mulI, o_mulS, o_fdivI, o_modI, o_powI, o_negI, o_ltI, o_leI, o_gtI, o_geI, o_ltS, o_leS, o_gtS, o_geS, o_eqI, o_eqS, o_neI, o_neS, o_isD, o_isnotD, o_inS, o_ixS, o_ixT, o_ixL, o_ixR, o_slS, o_slT, o_slL, o_slR, o_lenS, o_lenT, o_lenL, o_lenR, o_absI, o_intI, o_intB, o_tupT, o_tupL, o_tupR, o_maxI, o_minI,   List.set_cons_zero, List.set_cons_succ, List.getElem?_cons_zero, List.getElem?_cons_succ, List.map_cons, List.map_nil, List.length_cons, List.length_nil, List.replicate_succ, List.replicate_zero, List.cons_append, List.nil_append, Nat.reduceSub, Nat.reduceAdd, Nat.reduceLeDiff, exists_eq_left', D.bl.injEq, D.int.injEq, D.str.injEq, D.ref.injEq, D.tup.injEq, true_and, and_true, if_true, if_false, Bool.false_eq_true, Bool.not_true, Bool.not_false, decide_true, decide_false, bindP, bindPs, isK, atI_0, atI_1, atI_2, atI_3, ixN_0, ixN_1, Nat.zero_add, LINE, Nat.zero_le, truD, wipeD, Option.some.injEq]
    exact q _ _ (.inr rfl) hx
  · simp only [z, decide_false, Bool.false_eq_true, if_false]
    exact q _ _ (.inl rfl) hx
theorem by_okD {m n : Nat} {s t : Tb} (hs : SmT m s) (ht : SmT n t) (hmn : m + n ≤ 1000000) (q : P (dT (mulT s t)) h) : OkX (mByD [dT s, dT t] h) P X := by
  unfold mByD; rw [w_run]; unfold bByD
  simp (dsimp := false) only [atI_0, atI_1, atI_2, atI_3, ↓Kp_app, ↓w_seq, ↓w_sNil, ↓w_set, ↓w_ret, ↓w_retN, ↓w_sIf, ↓w_expr, ↓w_par, ↓w_par3, ↓w_asg, ↓w_aug, ↓w_sub, ↓w_for, ↓w_raise, ↓w_break, ↓w_cont, ↓w_op2, ↓w_op1, ↓w_cb, ↓w_c, ↓w_var, ↓w_nil, ↓w_cons, ↓w_tup, ↓w_lst, ↓w_new, ↓w_if, ↓w_test, ↓w_tru, ↓w_not, ↓w_and, ↓w_or, ↓w_andV, ↓w_orV, ↓w_notV, ↓w_chain, ↓w_call, ↓w_callK, ↓w_sl, ↓w_part0, ↓w_part1, ↓w_isi, ↓w_join, ↓w_mt, ↓w_lc, ↓w_lcN, ↓w_lcA, ↓w_it, ↓w_range1, ↓w_range2, ↓w_enum, ↓w_enumS, ↓w_zip,   OkX_ok, OkX_err, OkX_stuck, OkX_guard, o_addS, o_addT, o_addLL, o_addRL, o_addII, o_subI, o_mulI, o_mulS, o_fdivI, o_modI, o_powI, o_negI, o_ltI, o_leI, o_gtI, o_geI, o_ltS, o_leS, o_gtS, o_geS, o_eqI, o_eqS, o_neI, o_neS, o_isD, o_isnotD, o_inS, o_ixS, o_ixT, o_ixL, o_ixR, o_slS, o_slT, o_slL, o_slR, o_lenS, o_lenT, o_lenL, o_lenR, o_absI, o_intI, o_intB, o_tupT, o_tupL, o_tupR, o_maxI, o_minI,   List.set_cons_zero, List.set_cons_succ, List.getElem?_cons_zero, List.getElem?_cons_succ, List.map_cons, List.map_nil, List.length_cons, List.length_nil, List.replicate_succ, List.replicate_zero, List.cons_append, List.nil_append, Nat.reduceSub, Nat.reduceAdd, Nat.reduceLeDiff, exists_eq_left', D.bl.injEq, D.int.injEq, D.str.injEq, D.ref.injEq, D.tup.injEq, true_and, and_true, if_true, if_false, Bool.false_eq_true, Bool.not_true, Bool.not_false, decide_true, decide_false, bindP, bindPs, isK, atI_0, atI_1, atI_2, atI_3, ixN_0, ixN_1, Nat.zero_add, LINE, Nat.zero_le, truD, wipeD, Option.some.injEq]
  refine ⟨hs.a.ok ht.a, hs.b.ok ht.c, hs.a.ok ht.b, hs.b.ok ht.d, hs.c.ok ht.a, hs.d.ok ht.c, hs.c.ok ht.b, hs.d.ok ht.d, ?_⟩
  exact q
end
end MP
end
section
set_option Elab.async false
set_option linter.all false
set_option maxRecDepth 100000
set_option maxHeartbeats 4000000
namespace Lw
open PySem PySem.Spec PyProof.Rows L2 LamX He MP
abbrev RW : PySem.W.OpenLaw := PySem.Challenge.rw_twoled_k08_whole_euclid_and_the_greatest
abbrev PP : Program := RW.prog
def top (i : Nat) : Stmt := PySem.Challenge.pw_twoled_k08_whole_euclid_and_the_greatest.main.body.getD i (.Pass ⟨0, 0, 0, 0⟩)
abbrev FnP (K : PySem.W.Frag) (x : Str) (i : Nat) (fd : FuncData) : Prop := FunD K x x (defArgs (top i)) (defBody (top i)) (defScope (top i)) [] [] (ga K x) fd
def ini_InvalidPair : IniD := let s := sAt (clsBody (top 3)) 0; ⟨"InvalidPair", "InvalidPair.__init__", defArgs s, defBody s, defScope s⟩
def ini_InvalidTable : IniD := let s := sAt (clsBody (top 2)) 0; ⟨"InvalidTable", "InvalidTable.__init__", defArgs s, defBody s, defScope s⟩
def lam_0 : LamI := lamOf (lq "_law_all_heard") (eAt (kidX (eAt (kidX (eAt (kidX (eAt (kidX (eAt (kidE (sAt (defBody (top 36)) 0)) 0)) 0)) 2)) 0)) 1)
def lamTab : Nat → Option LamI
  | 0 => some lam_0
  | _ => none
abbrev TF : List Str := [("_law_all_heard" : Str)]
abbrev Γm (K : PySem.W.Frag) (mg : Str → Option Value) : G := Gm lamTab TF K mg
structure Fs (K : PySem.W.Frag) (mg : Str → Option Value) where
  fd__law_is_int : FuncData
  F__law_is_int : FunD K "_law_is_int" "_law_is_int" (defArgs (top 25)) (defBody (top 25)) (defScope (top 25)) [] [] (ga K "_law_is_int") fd__law_is_int
  g__law_is_int : mg "_law_is_int" = some (.ref (ga K "_law_is_int"))
  fd__law_tells : FuncData
  F__law_tells : FunD K "_law_tells" "_law_tells" (defArgs (top 28)) (defBody (top 28)) (defScope (top 28)) [] [] (ga K "_law_tells") fd__law_tells
  g__law_tells : mg "_law_tells" = some (.ref (ga K "_law_tells"))
  fd__law_same : FuncData
  F__law_same : FunD K "_law_same" "_law_same" (defArgs (top 26)) (defBody (top 26)) (defScope (top 26)) [] [] (ga K "_law_same") fd__law_same
  g__law_same : mg "_law_same" = some (.ref (ga K "_law_same"))
  fd_minus_of : FuncData
  F_minus_of : FunD K "minus_of" "minus_of" (defArgs (top 16)) (defBody (top 16)) (defScope (top 16)) [] [] (ga K "minus_of") fd_minus_of
  g_minus_of : mg "minus_of" = some (.ref (ga K "minus_of"))
  fd_times_of : FuncData
  F_times_of : FunD K "times_of" "times_of" (defArgs (top 15)) (defBody (top 15)) (defScope (top 15)) [] [] (ga K "times_of") fd_times_of
  g_times_of : mg "times_of" = some (.ref (ga K "times_of"))
  fd_cut_off : FuncData
  F_cut_off : FunD K "cut_off" "cut_off" (defArgs (top 19)) (defBody (top 19)) (defScope (top 19)) [] [] (ga K "cut_off") fd_cut_off
  g_cut_off : mg "cut_off" = some (.ref (ga K "cut_off"))
  fd_steps_told : FuncData
  F_steps_told : FunD K "steps_told" "steps_told" (defArgs (top 20)) (defBody (top 20)) (defScope (top 20)) [] [] (ga K "steps_told") fd_steps_told
  g_steps_told : mg "steps_told" = some (.ref (ga K "steps_told"))
  fd_reduced_told : FuncData
  F_reduced_told : FunD K "reduced_told" "reduced_told" (defArgs (top 22)) (defBody (top 22)) (defScope (top 22)) [] [] (ga K "reduced_told") fd_reduced_told
  g_reduced_told : mg "reduced_told" = some (.ref (ga K "reduced_told"))
  fd_is_integer : FuncData
  F_is_integer : FunD K "is_integer" "is_integer" (defArgs (top 5)) (defBody (top 5)) (defScope (top 5)) [] [] (ga K "is_integer") fd_is_integer
  g_is_integer : mg "is_integer" = some (.ref (ga K "is_integer"))
  fd_is_light : FuncData
  F_is_light : FunD K "is_light" "is_light" (defArgs (top 11)) (defBody (top 11)) (defScope (top 11)) [] [] (ga K "is_light") fd_is_light
  g_is_light : mg "is_light" = some (.ref (ga K "is_light"))
  fd_is_sequence : FuncData
  F_is_sequence : FunD K "is_sequence" "is_sequence" (defArgs (top 6)) (defBody (top 6)) (defScope (top 6)) [] [] (ga K "is_sequence") fd_is_sequence
  g_is_sequence : mg "is_sequence" = some (.ref (ga K "is_sequence"))
  fd_is_row_of : FuncData
  F_is_row_of : FunD K "is_row_of" "is_row_of" (defArgs (top 7)) (defBody (top 7)) (defScope (top 7)) [] [] (ga K "is_row_of") fd_is_row_of
  g_is_row_of : mg "is_row_of" = some (.ref (ga K "is_row_of"))
  fd_need_pair : FuncData
  F_need_pair : FunD K "need_pair" "need_pair" (defArgs (top 14)) (defBody (top 14)) (defScope (top 14)) [.int (-1)] [] (ga K "need_pair") fd_need_pair
  g_need_pair : mg "need_pair" = some (.ref (ga K "need_pair"))
  fd_reduced : FuncData
  F_reduced : FunD K "reduced" "reduced" (defArgs (top 23)) (defBody (top 23)) (defScope (top 23)) [] [] (ga K "reduced") fd_reduced
  g_reduced : mg "reduced" = some (.ref (ga K "reduced"))
  fd_quotients : FuncData
  F_quotients : FunD K "quotients" "quotients" (defArgs (top 21)) (defBody (top 21)) (defScope (top 21)) [] [] (ga K "quotients") fd_quotients
  g_quotients : mg "quotients" = some (.ref (ga K "quotients"))
  fd__law_place : FuncData
  F__law_place : FunD K "_law_place" "_law_place" (defArgs (top 29)) (defBody (top 29)) (defScope (top 29)) [] [] (ga K "_law_place") fd__law_place
  g__law_place : mg "_law_place" = some (.ref (ga K "_law_place"))
  fd__law_heard : FuncData
  F__law_heard : FunD K "_law_heard" "_law_heard" (defArgs (top 27)) (defBody (top 27)) (defScope (top 27)) [] [] (ga K "_law_heard") fd__law_heard
  g__law_heard : mg "_law_heard" = some (.ref (ga K "_law_heard"))
  fd__law_all_heard : FuncData
  F__law_all_heard : FunD K "_law_all_heard" "_law_all_heard" (defArgs (top 36)) (defBody (top 36)) (defScope (top 36)) [] [] (ga K "_law_all_heard") fd__law_all_heard
  g__law_all_heard : mg "_law_all_heard" = some (.ref (ga K "_law_all_heard"))
  fd__law_draw : FuncData
  F__law_draw : FunD K "_law_draw" "_law_draw" (defArgs (top 30)) (defBody (top 30)) (defScope (top 30)) [] [] (ga K "_law_draw") fd__law_draw
  g__law_draw : mg "_law_draw" = some (.ref (ga K "_law_draw"))
  fd__law_pick : FuncData
  F__law_pick : FunD K "_law_pick" "_law_pick" (defArgs (top 31)) (defBody (top 31)) (defScope (top 31)) [] [] (ga K "_law_pick") fd__law_pick
  g__law_pick : mg "_law_pick" = some (.ref (ga K "_law_pick"))
  fd__law_pairs : FuncData
  F__law_pairs : FunD K "_law_pairs" "_law_pairs" (defArgs (top 40)) (defBody (top 40)) (defScope (top 40)) [] [] (ga K "_law_pairs") fd__law_pairs
  g__law_pairs : mg "_law_pairs" = some (.ref (ga K "_law_pairs"))
  fd_led_told : FuncData
  F_led_told : FunD K "led_told" "led_told" (defArgs (top 17)) (defBody (top 17)) (defScope (top 17)) [] [] (ga K "led_told") fd_led_told
  g_led_told : mg "led_told" = some (.ref (ga K "led_told"))
  fd_is_table : FuncData
  F_is_table : FunD K "is_table" "is_table" (defArgs (top 12)) (defBody (top 12)) (defScope (top 12)) [] [] (ga K "is_table") fd_is_table
  g_is_table : mg "is_table" = some (.ref (ga K "is_table"))
  fd_need_table : FuncData
  F_need_table : FunD K "need_table" "need_table" (defArgs (top 13)) (defBody (top 13)) (defScope (top 13)) [.int (-1)] [] (ga K "need_table") fd_need_table
  g_need_table : mg "need_table" = some (.ref (ga K "need_table"))
  fd_led_pair : FuncData
  F_led_pair : FunD K "led_pair" "led_pair" (defArgs (top 18)) (defBody (top 18)) (defScope (top 18)) [] [] (ga K "led_pair") fd_led_pair
  g_led_pair : mg "led_pair" = some (.ref (ga K "led_pair"))
  fd__law_shared : FuncData
  F__law_shared : FunD K "_law_shared" "_law_shared" (defArgs (top 39)) (defBody (top 39)) (defScope (top 39)) [] [] (ga K "_law_shared") fd__law_shared
  g__law_shared : mg "_law_shared" = some (.ref (ga K "_law_shared"))
  fd__law_seq : FuncData
  F__law_seq : FunD K "_law_seq" "_law_seq" (defArgs (top 33)) (defBody (top 33)) (defScope (top 33)) [] [] (ga K "_law_seq") fd__law_seq
  g__law_seq : mg "_law_seq" = some (.ref (ga K "_law_seq"))
  fd__law_neg : FuncData
  F__law_neg : FunD K "_law_neg" "_law_neg" (defArgs (top 35)) (defBody (top 35)) (defScope (top 35)) [] [] (ga K "_law_neg") fd__law_neg
  g__law_neg : mg "_law_neg" = some (.ref (ga K "_law_neg"))
  fd__law_by : FuncData
  F__law_by : FunD K "_law_by" "_law_by" (defArgs (top 34)) (defBody (top 34)) (defScope (top 34)) [] [] (ga K "_law_by") fd__law_by
  g__law_by : mg "_law_by" = some (.ref (ga K "_law_by"))
  fd__law_cut : FuncData
  F__law_cut : FunD K "_law_cut" "_law_cut" (defArgs (top 37)) (defBody (top 37)) (defScope (top 37)) [] [] (ga K "_law_cut") fd__law_cut
  g__law_cut : mg "_law_cut" = some (.ref (ga K "_law_cut"))
  fd__law_euclid : FuncData
  F__law_euclid : FunD K "_law_euclid" "_law_euclid" (defArgs (top 38)) (defBody (top 38)) (defScope (top 38)) [] [] (ga K "_law_euclid") fd__law_euclid
  g__law_euclid : mg "_law_euclid" = some (.ref (ga K "_law_euclid"))
  fd__law_box : FuncData
  F__law_box : FunD K "_law_box" "_law_box" (defArgs (top 32)) (defBody (top 32)) (defScope (top 32)) [] [] (ga K "_law_box") fd__law_box
  g__law_box : mg "_law_box" = some (.ref (ga K "_law_box"))
  fd_law : FuncData
  F_law : FunD K "law" "law" (defArgs (top 41)) (defBody (top 41)) (defScope (top 41)) [] [] (ga K "law") fd_law
  g_law : mg "law" = some (.ref (ga K "law"))
  f_abs : mg "abs" = none
  f_all : mg "all" = none
  f_bool : mg "bool" = none
  f_int : mg "int" = none
  f_isinstance : mg "isinstance" = none
  f_len : mg "len" = none
  f_list : mg "list" = none
  f_max : mg "max" = none
  f_range : mg "range" = none
  f_str : mg "str" = none
  f_super : mg "super" = none
  f_tuple : mg "tuple" = none
  c_LIMIT : CstOk K mg "LIMIT" (.int 10000000000000000000000000000000000000000)
  c_ONE : CstOk K mg "ONE" (.tup [.int 1, .int 0, .int 0, .int 1])
  g_InvalidPair : mg "InvalidPair" = some (.ref (ga K "InvalidPair"))
  X_InvalidPair : MX.XiC PP K (ga K "InvalidPair") (iAd K "InvalidPair") ini_InvalidPair.qual ini_InvalidPair.params ini_InvalidPair.body ini_InvalidPair.scope ∧ XfC K (ga K "InvalidPair")
  g_InvalidTable : mg "InvalidTable" = some (.ref (ga K "InvalidTable"))
  X_InvalidTable : MX.XiC PP K (ga K "InvalidTable") (iAd K "InvalidTable") ini_InvalidTable.qual ini_InvalidTable.params ini_InvalidTable.body ini_InvalidTable.scope ∧ XfC K (ga K "InvalidTable")
  n_InvalidPair_at : PySem.W.findIn K (.ref (ga K "InvalidPair")) "at" = some none
  n_InvalidTable_at : PySem.W.findIn K (.ref (ga K "InvalidTable")) "at" = some none
  e_InvalidPair_InvalidPair : PySem.W.exmOne K (.ref (ga K "InvalidPair")) (.ref (ga K "InvalidPair")) = some true
  e_InvalidTable_InvalidPair : PySem.W.exmOne K (.ref (ga K "InvalidTable")) (.ref (ga K "InvalidPair")) = some false
  nd : (TF.map fun f => (cT K (f, none)).2).Nodup
section
variable {w : World} {K : PySem.W.Frag} {mg : Str → Option Value} {base : Heap}
theorem mkx_InvalidPair {X : Cx} (Z : Fs K mg) (hP : X.prog = PP) (hK : X.K = K) (hM : X.mg = mg) {e : Expr} {es : List Expr} {p pos : Pos} (hr : Room 1 X.A) (hg : Gl X "InvalidPair") (he : starEach (e :: es) X.env = (false, eval e X.env) :: starEach es X.env := by rfl) (hpl : (backTo pos (starEach es X.env)).any (·.1) = false := by rfl) : MakesX X "InvalidPair" (ga K "InvalidPair") ["at"] e es p pos := by
  subst hK hM
  exact mk1 (by rw [hP]; exact Z.X_InvalidPair.1) (MX.xiS_ok (by decide +kernel)) (by decide) rfl Z.n_InvalidPair_at Z.f_super rfl rfl (by rfl) (fun _ _ _ _ _ _ _ _ _ _ => rfl) hr hg Z.g_InvalidPair (by decide) he hpl
theorem mkx_InvalidTable {X : Cx} (Z : Fs K mg) (hP : X.prog = PP) (hK : X.K = K) (hM : X.mg = mg) {e : Expr} {es : List Expr} {p pos : Pos} (hr : Room 1 X.A) (hg : Gl X "InvalidTable") (he : starEach (e :: es) X.env = (false, eval e X.env) :: starEach es X.env := by rfl) (hpl : (backTo pos (starEach es X.env)).any (·.1) = false := by rfl) : MakesX X "InvalidTable" (ga K "InvalidTable") ["at"] e es p pos := by
  subst hK hM
  exact mk1 (by rw [hP]; exact Z.X_InvalidTable.1) (MX.xiS_ok (by decide +kernel)) (by decide) rfl Z.n_InvalidTable_at Z.f_super rfl rfl (by rfl) (fun _ _ _ _ _ _ _ _ _ _ => rfl) hr hg Z.g_InvalidTable (by decide) he hpl
def tab_InvalidPair : Str → Option Bool := fun y => if y = "InvalidPair" then some true else if y = "InvalidTable" then some false else none
theorem tab_InvalidPair_ok (Z : Fs K mg) : ∀ (y : Str) (b : Bool) (C : Addr), tab_InvalidPair y = some b → mg y = some (.ref C) → PySem.W.exmOne K (.ref C) (.ref (ga K "InvalidPair")) = some b := by
  intro y b C h m; unfold tab_InvalidPair at h
  split at h
  · rename_i e; subst e; rw [Z.g_InvalidPair] at m; cases m; cases h; exact Z.e_InvalidPair_InvalidPair
  split at h
  · rename_i e; subst e; rw [Z.g_InvalidTable] at m; cases m; cases h; exact Z.e_InvalidTable_InvalidPair
  cases h
theorem tab_InvalidPair_1 : ∀ (y : Str), tab_InvalidPair y = some true → y = "InvalidPair" := by
  intro y h; unfold tab_InvalidPair at h
  split at h
  · rename_i e; exact e
  split at h
  · cases h
  cases h
theorem sc__law_is_int : FnScope [("value" : Str)] [("value" : Str)] (defScope (top 25)) := ⟨rfl, rfl, rfl, by decide +kernel, rfl, by decide +kernel, by decide +kernel⟩
theorem nd__law_is_int : ([("value" : Str)] : List Str).Nodup := by decide +kernel
theorem bd__law_is_int (Z : Fs K mg) : Binds K Z.fd__law_is_int [("value" : Str)] [] := Z.F__law_is_int.bindsN fun _ _ _ _ _ _ us hl => match us, hl with | [_], _ => rfl
def b__law_is_int : MS := (sSeq (sRet (xAndV (xIsi ["int"] (xVar 0)) (xNotV (xIsi ["bool"] (xVar 0))))) sNil)
def m__law_is_int : MF := runF 1 b__law_is_int
theorem ok__law_is_int (Z : Fs K mg) (TB : ∀ p ∈ TF, TabB base mg (cT K (p, none)).1 (cT K (p, none)).2) : FnOk PP w K mg base (CX PP w) 1 (ga K "_law_is_int") Z.fd__law_is_int [("value" : Str)] (spF (Γm K mg) 1 m__law_is_int) :=
  fn_mirD (P := PP) (w := w) (mg := mg) (base := base) (Γ := Γm K mg) (k := 0) (N := [("value" : Str)]) (b := b__law_is_int) Z.F__law_is_int sc__law_is_int (fun cdv A outer s H E lk hcd hr =>
 (fss_cons (fs_ret (fe_and (fe_isi ⟨rfl, rfl⟩ (by rfl) Z.f_isinstance (by rfl) Z.f_int (by decide +kernel) (fe_var (i := 0) rfl (by first | exact .inl rfl | exact .inr (.inl rfl) | exact .inr (.inr rfl)))) (fe_one (fe_not (fe_isi ⟨rfl, rfl⟩ (by rfl) Z.f_isinstance (by rfl) Z.f_bool (by decide +kernel) (fe_var (i := 0) rfl (by first | exact .inl rfl | exact .inr (.inl rfl) | exact .inr (.inr rfl))))))))
 fss_nil))
theorem sc__law_tells : FnScope [("value" : Str), ("due" : Str)] [("value" : Str), ("due" : Str)] (defScope (top 28)) := ⟨rfl, rfl, rfl, by decide +kernel, rfl, by decide +kernel, by decide +kernel⟩
theorem nd__law_tells : ([("value" : Str), ("due" : Str)] : List Str).Nodup := by decide +kernel
theorem bd__law_tells (Z : Fs K mg) : Binds K Z.fd__law_tells [("value" : Str), ("due" : Str)] [] := Z.F__law_tells.bindsN fun _ _ _ _ _ _ us hl => match us, hl with | [_, _], _ => rfl
def b__law_tells : MS := (sSeq (sRet (xIf (xTru (xVar 1)) (xOp2 oIs (xVar 0) (xC (.bl true))) (xOp2 oIs (xVar 0) (xC (.bl false))))) sNil)
def m__law_tells : MF := runF 2 b__law_tells
theorem ok__law_tells (Z : Fs K mg) (TB : ∀ p ∈ TF, TabB base mg (cT K (p, none)).1 (cT K (p, none)).2) : FnOk PP w K mg base (CX PP w) 1 (ga K "_law_tells") Z.fd__law_tells [("value" : Str), ("due" : Str)] (spF (Γm K mg) 2 m__law_tells) :=
  fn_mirD (P := PP) (w := w) (mg := mg) (base := base) (Γ := Γm K mg) (k := 0) (N := [("value" : Str), ("due" : Str)]) (b := b__law_tells) Z.F__law_tells sc__law_tells (fun cdv A outer s H E lk hcd hr =>
 (fss_cons (fs_ret (fe_if (ft_tru ⟨rfl, rfl⟩ (fe_var (i := 1) rfl (by first | exact .inl rfl | exact .inr (.inl rfl) | exact .inr (.inr rfl)))) (fe_cmp op_isK o_is (fe_var (i := 0) rfl (by first | exact .inl rfl | exact .inr (.inl rfl) | exact .inr (.inr rfl))) fe_bl rfl) (fe_cmp op_isK o_is (fe_var (i := 0) rfl (by first | exact .inl rfl | exact .inr (.inl rfl) | exact .inr (.inr rfl))) fe_bl rfl)))
 fss_nil))
theorem sc__law_same : FnScope [("value" : Str), ("due" : Str), ("at" : Str)] [("value" : Str), ("due" : Str)] (defScope (top 26)) := ⟨rfl, rfl, rfl, by decide +kernel, rfl, by decide +kernel, by decide +kernel⟩
theorem nd__law_same : ([("value" : Str), ("due" : Str), ("at" : Str)] : List Str).Nodup := by decide +kernel
theorem bd__law_same (Z : Fs K mg) : Binds K Z.fd__law_same [("value" : Str), ("due" : Str)] [] := Z.F__law_same.bindsN fun _ _ _ _ _ _ us hl => match us, hl with | [_, _], _ => rfl
def b__law_same (rec_ : MF) : MS := (sSeq (sIf (xTru (xIsi ["tuple"] (xVar 1))) (sSeq (sIf (xOr (xNot (xTru (xIsi ["tuple"] (xVar 0)))) (xTest (xOp2 oNe (xCB oLen (aCons (xVar 0) aNil)) (xCB oLen (aCons (xVar 1) aNil))))) (sSeq (sRet (xC (.bl false))) sNil) sNil) (sSeq (sRet (xOp2 oEq (xLc (xRange1 (aCons (xCB oLen (aCons (xVar 1) aNil)) aNil)) (.nm 2) (xNot (xTru (xCall rec_ [] (aCons (xOp2 oIx (xVar 0) (xVar 2)) (aCons (xOp2 oIx (xVar 1) (xVar 2)) aNil))))) (xVar 2) [2]) (xLst aNil))) sNil)) sNil) (sSeq (sIf (xTest (xOp2 oIs (xVar 1) (xC .non))) (sSeq (sRet (xOp2 oIs (xVar 0) (xC .non))) sNil) sNil) (sSeq (sIf (xTru (xIsi ["bool"] (xVar 1))) (sSeq (sRet (xCall m__law_tells [] (aCons (xVar 0) (aCons (xVar 1) aNil)))) sNil) sNil) (sSeq (sIf (xTru (xIsi ["str"] (xVar 1))) (sSeq (sRet (xAndV (xIsi ["str"] (xVar 0)) (xOp2 oEq (xVar 0) (xVar 1)))) sNil) sNil) (sSeq (sRet (xAndV (xCall m__law_is_int [] (aCons (xVar 0) aNil)) (xOp2 oEq (xVar 0) (xVar 1)))) sNil)))))
def m__law_same : Nat → MF
  | 0 => fun _ _ => .stuck
  | n + 1 => (runF 3 (b__law_same (m__law_same n)))
theorem ok__law_same (Z : Fs K mg) (TB : ∀ p ∈ TF, TabB base mg (cT K (p, none)).1 (cT K (p, none)).2) : ∀ n : Nat, FnOk PP w K mg base (CX PP w) (n + 1) (ga K "_law_same") Z.fd__law_same [("value" : Str), ("due" : Str)] (spF (Γm K mg) 2 (m__law_same n))
  | 0 => fn_stuck
  | n + 1 => by
    have ih := ok__law_same Z TB n
    have h := fn_mirD (P := PP) (w := w) (mg := mg) (base := base) (Γ := Γm K mg) (k := n + 1) (N := [("value" : Str), ("due" : Str), ("at" : Str)]) (b := b__law_same (m__law_same n)) Z.F__law_same sc__law_same (fun cdv A outer s H E lk hcd hr =>
 (fss_cons (fs_if (ft_tru ⟨rfl, rfl⟩ (fe_isi ⟨rfl, rfl⟩ (by rfl) Z.f_isinstance (by rfl) Z.f_tuple (by decide +kernel) (fe_var (i := 1) rfl (by first | exact .inl rfl | exact .inr (.inl rfl) | exact .inr (.inr rfl))))) (fss_cons (fs_if (ft_w (fw_or (ft_not (ft_tru ⟨rfl, rfl⟩ (fe_isi ⟨rfl, rfl⟩ (by rfl) Z.f_isinstance (by rfl) Z.f_tuple (by decide +kernel) (fe_var (i := 0) rfl (by first | exact .inl rfl | exact .inr (.inl rfl) | exact .inr (.inr rfl)))))) (fw_or1 (ft_cmp (op_neA ⟨rfl, rfl⟩ hr) o_ne (fe_callB call_len (o_len ⟨rfl, rfl⟩) (by rfl) Z.f_len (by decide +kernel) (fa_cons (fe_var (i := 0) rfl (by first | exact .inl rfl | exact .inr (.inl rfl) | exact .inr (.inr rfl))) fa_nil)) (fe_callB call_len (o_len ⟨rfl, rfl⟩) (by rfl) Z.f_len (by decide +kernel) (fa_cons (fe_var (i := 1) rfl (by first | exact .inl rfl | exact .inr (.inl rfl) | exact .inr (.inr rfl))) fa_nil)) rfl)))) (fss_cons (fs_ret fe_bl)
 fss_nil) fss_nil)
 (fss_cons (fs_ret (fe_cmp (op_eqA ⟨rfl, rfl⟩ hr) o_eq (fe_lc (own := [("at", 2)]) rfl (by exact nd__law_same) (fi_range1 (by rfl) Z.f_range (fa_cons (fe_callB call_len (o_len ⟨rfl, rfl⟩) (by rfl) Z.f_len (by decide +kernel) (fa_cons (fe_var (i := 1) rfl (by first | exact .inl rfl | exact .inr (.inl rfl) | exact .inr (.inr rfl))) fa_nil)) fa_nil)) (blkOk_by (by kernel_rfl)) (by decide) (fun _ _ _ _ _ => (fp_name (i := 2) nd__law_same rfl (by first | exact .inl rfl | exact .inr rfl))) (fun _ _ _ _ _ => (ft_one (ft_not (ft_tru ⟨rfl, rfl⟩ (fe_call ih hr MP.takes0 (by rfl) Z.g__law_same Z.F__law_same.kp (bd__law_same Z) .nil (fun _ _ => rfl) (fa_cons (fe_ix (ix_all ⟨rfl, rfl⟩) o_ix (fe_var (i := 0) rfl (by first | exact .inl rfl | exact .inr (.inl rfl) | exact .inr (.inr rfl))) (fe_var (i := 2) rfl (by first | exact .inl rfl | exact .inr (.inl rfl) | exact .inr (.inr rfl))) (fun _ _ => rfl)) (fa_cons (fe_ix (ix_all ⟨rfl, rfl⟩) o_ix (fe_var (i := 1) rfl (by first | exact .inl rfl | exact .inr (.inl rfl) | exact .inr (.inr rfl))) (fe_var (i := 2) rfl (by first | exact .inl rfl | exact .inr (.inl rfl) | exact .inr (.inr rfl))) (fun _ _ => rfl)) fa_nil)) (len_cons (len_cons len_nil)) rfl))))) (fun _ _ _ _ _ => (fe_var (i := 2) rfl (by first | exact .inl rfl | exact .inr (.inl rfl) | exact .inr (.inr rfl))))) (fe_lst fa_nil) rfl))
 fss_nil)) fss_nil)
 (fss_cons (fs_if (ft_cmp op_isK o_is (fe_var (i := 1) rfl (by first | exact .inl rfl | exact .inr (.inl rfl) | exact .inr (.inr rfl))) fe_non rfl) (fss_cons (fs_ret (fe_cmp op_isK o_is (fe_var (i := 0) rfl (by first | exact .inl rfl | exact .inr (.inl rfl) | exact .inr (.inr rfl))) fe_non rfl))
 fss_nil) fss_nil)
 (fss_cons (fs_if (ft_tru ⟨rfl, rfl⟩ (fe_isi ⟨rfl, rfl⟩ (by rfl) Z.f_isinstance (by rfl) Z.f_bool (by decide +kernel) (fe_var (i := 1) rfl (by first | exact .inl rfl | exact .inr (.inl rfl) | exact .inr (.inr rfl))))) (fss_cons (fs_ret (fe_call (ok__law_tells Z TB) (hr.mono (by omega)) takes_cx (by rfl) Z.g__law_tells Z.F__law_tells.kp (bd__law_tells Z) .nil (fun _ _ => rfl) (fa_cons (fe_var (i := 0) rfl (by first | exact .inl rfl | exact .inr (.inl rfl) | exact .inr (.inr rfl))) (fa_cons (fe_var (i := 1) rfl (by first | exact .inl rfl | exact .inr (.inl rfl) | exact .inr (.inr rfl))) fa_nil)) (len_cons (len_cons len_nil)) rfl))
 fss_nil) fss_nil)
 (fss_cons (fs_if (ft_tru ⟨rfl, rfl⟩ (fe_isi ⟨rfl, rfl⟩ (by rfl) Z.f_isinstance (by rfl) Z.f_str (by decide +kernel) (fe_var (i := 1) rfl (by first | exact .inl rfl | exact .inr (.inl rfl) | exact .inr (.inr rfl))))) (fss_cons (fs_ret (fe_and (fe_isi ⟨rfl, rfl⟩ (by rfl) Z.f_isinstance (by rfl) Z.f_str (by decide +kernel) (fe_var (i := 0) rfl (by first | exact .inl rfl | exact .inr (.inl rfl) | exact .inr (.inr rfl)))) (fe_one (fe_cmp (op_eqA ⟨rfl, rfl⟩ hr) o_eq (fe_var (i := 0) rfl (by first | exact .inl rfl | exact .inr (.inl rfl) | exact .inr (.inr rfl))) (fe_var (i := 1) rfl (by first | exact .inl rfl | exact .inr (.inl rfl) | exact .inr (.inr rfl))) rfl))))
 fss_nil) fss_nil)
 (fss_cons (fs_ret (fe_and (fe_call (ok__law_is_int Z TB) (hr.mono (by omega)) takes_cx (by rfl) Z.g__law_is_int Z.F__law_is_int.kp (bd__law_is_int Z) .nil (fun _ _ => rfl) (fa_cons (fe_var (i := 0) rfl (by first | exact .inl rfl | exact .inr (.inl rfl) | exact .inr (.inr rfl))) fa_nil) (len_cons len_nil) rfl) (fe_one (fe_cmp (op_eqA ⟨rfl, rfl⟩ hr) o_eq (fe_var (i := 0) rfl (by first | exact .inl rfl | exact .inr (.inl rfl) | exact .inr (.inr rfl))) (fe_var (i := 1) rfl (by first | exact .inl rfl | exact .inr (.inl rfl) | exact .inr (.inr rfl))) rfl))))
 fss_nil))))))
    exact h.mono (by omega)
theorem sc_minus_of : FnScope [("one" : Str)] [("one" : Str)] (defScope (top 16)) := ⟨rfl, rfl, rfl, by decide +kernel, rfl, by decide +kernel, by decide +kernel⟩
theorem nd_minus_of : ([("one" : Str)] : List Str).Nodup := by decide +kernel
theorem bd_minus_of (Z : Fs K mg) : Binds K Z.fd_minus_of [("one" : Str)] [] := Z.F_minus_of.bindsN fun _ _ _ _ _ _ us hl => match us, hl with | [_], _ => rfl
def b_minus_of : MS := (sSeq (sRet (xTup (aCons (xOp1 oNeg (xOp2 oIx (xVar 0) (xC (.int 0)))) (aCons (xOp1 oNeg (xOp2 oIx (xVar 0) (xC (.int 1)))) (aCons (xOp1 oNeg (xOp2 oIx (xVar 0) (xC (.int 2)))) (aCons (xOp1 oNeg (xOp2 oIx (xVar 0) (xC (.int 3)))) aNil)))))) sNil)
def m_minus_of : MF := runF 1 b_minus_of
theorem ok_minus_of (Z : Fs K mg) (TB : ∀ p ∈ TF, TabB base mg (cT K (p, none)).1 (cT K (p, none)).2) : FnOk PP w K mg base (CX PP w) 1 (ga K "minus_of") Z.fd_minus_of [("one" : Str)] (spF (Γm K mg) 1 m_minus_of) :=
  fn_mirD (P := PP) (w := w) (mg := mg) (base := base) (Γ := Γm K mg) (k := 0) (N := [("one" : Str)]) (b := b_minus_of) Z.F_minus_of sc_minus_of (fun cdv A outer s H E lk hcd hr =>
 (fss_cons (fs_ret (fe_tup (fa_cons (fe_un un_neg o_neg (fe_ix (ix_all ⟨rfl, rfl⟩) o_ix (fe_var (i := 0) rfl (by first | exact .inl rfl | exact .inr (.inl rfl) | exact .inr (.inr rfl))) fe_int (fun _ _ => rfl))) (fa_cons (fe_un un_neg o_neg (fe_ix (ix_all ⟨rfl, rfl⟩) o_ix (fe_var (i := 0) rfl (by first | exact .inl rfl | exact .inr (.inl rfl) | exact .inr (.inr rfl))) fe_int (fun _ _ => rfl))) (fa_cons (fe_un un_neg o_neg (fe_ix (ix_all ⟨rfl, rfl⟩) o_ix (fe_var (i := 0) rfl (by first | exact .inl rfl | exact .inr (.inl rfl) | exact .inr (.inr rfl))) fe_int (fun _ _ => rfl))) (fa_cons (fe_un un_neg o_neg (fe_ix (ix_all ⟨rfl, rfl⟩) o_ix (fe_var (i := 0) rfl (by first | exact .inl rfl | exact .inr (.inl rfl) | exact .inr (.inr rfl))) fe_int (fun _ _ => rfl))) fa_nil))))))
 fss_nil))
theorem sc_times_of : FnScope [("one" : Str), ("other" : Str), ("a" : Str), ("b" : Str), ("c" : Str), ("d" : Str), ("e" : Str), ("f" : Str), ("g" : Str), ("h" : Str)] [("one" : Str), ("other" : Str)] (defScope (top 15)) := ⟨rfl, rfl, rfl, by decide +kernel, rfl, by decide +kernel, by decide +kernel⟩
theorem nd_times_of : ([("one" : Str), ("other" : Str), ("a" : Str), ("b" : Str), ("c" : Str), ("d" : Str), ("e" : Str), ("f" : Str), ("g" : Str), ("h" : Str)] : List Str).Nodup := by decide +kernel
theorem bd_times_of (Z : Fs K mg) : Binds K Z.fd_times_of [("one" : Str), ("other" : Str)] [] := Z.F_times_of.bindsN fun _ _ _ _ _ _ us hl => match us, hl with | [_, _], _ => rfl
def b_times_of : MS := (sSeq (sAsg (.tp [(.nm 2), (.nm 3), (.nm 4), (.nm 5)]) (xVar 0)) (sSeq (sAsg (.tp [(.nm 6), (.nm 7), (.nm 8), (.nm 9)]) (xVar 1)) (sSeq (sRet (xTup (aCons (xOp2 oAdd (xOp2 oMul (xVar 2) (xVar 6)) (xOp2 oMul (xVar 3) (xVar 8))) (aCons (xOp2 oAdd (xOp2 oMul (xVar 2) (xVar 7)) (xOp2 oMul (xVar 3) (xVar 9))) (aCons (xOp2 oAdd (xOp2 oMul (xVar 4) (xVar 6)) (xOp2 oMul (xVar 5) (xVar 8))) (aCons (xOp2 oAdd (xOp2 oMul (xVar 4) (xVar 7)) (xOp2 oMul (xVar 5) (xVar 9))) aNil)))))) sNil)))
def m_times_of : MF := runF 10 b_times_of
theorem ok_times_of (Z : Fs K mg) (TB : ∀ p ∈ TF, TabB base mg (cT K (p, none)).1 (cT K (p, none)).2) : FnOk PP w K mg base (CX PP w) 1 (ga K "times_of") Z.fd_times_of [("one" : Str), ("other" : Str)] (spF (Γm K mg) 2 m_times_of) :=
  fn_mirD (P := PP) (w := w) (mg := mg) (base := base) (Γ := Γm K mg) (k := 0) (N := [("one" : Str), ("other" : Str), ("a" : Str), ("b" : Str), ("c" : Str), ("d" : Str), ("e" : Str), ("f" : Str), ("g" : Str), ("h" : Str)]) (b := b_times_of) Z.F_times_of sc_times_of (fun cdv A outer s H E lk hcd hr =>
 (fss_cons (fs_asg (fe_var (i := 0) rfl (by first | exact .inl rfl | exact .inr (.inl rfl) | exact .inr (.inr rfl))) (fp_tup ⟨rfl, rfl⟩ rfl (fps_cons (fp_name (i := 2) nd_times_of rfl (by first | exact .inl rfl | exact .inr rfl)) (fps_cons (fp_name (i := 3) nd_times_of rfl (by first | exact .inl rfl | exact .inr rfl)) (fps_cons (fp_name (i := 4) nd_times_of rfl (by first | exact .inl rfl | exact .inr rfl)) (fps_cons (fp_name (i := 5) nd_times_of rfl (by first | exact .inl rfl | exact .inr rfl)) fps_nil))))))
 (fss_cons (fs_asg (fe_var (i := 1) rfl (by first | exact .inl rfl | exact .inr (.inl rfl) | exact .inr (.inr rfl))) (fp_tup ⟨rfl, rfl⟩ rfl (fps_cons (fp_name (i := 6) nd_times_of rfl (by first | exact .inl rfl | exact .inr rfl)) (fps_cons (fp_name (i := 7) nd_times_of rfl (by first | exact .inl rfl | exact .inr rfl)) (fps_cons (fp_name (i := 8) nd_times_of rfl (by first | exact .inl rfl | exact .inr rfl)) (fps_cons (fp_name (i := 9) nd_times_of rfl (by first | exact .inl rfl | exact .inr rfl)) fps_nil))))))
 (fss_cons (fs_ret (fe_tup (fa_cons (fe_binz (op_addAll ⟨rfl, rfl⟩) o_add (fe_bin (op_mulAll ⟨rfl, rfl⟩) o_mul (fe_var (i := 2) rfl (by first | exact .inl rfl | exact .inr (.inl rfl) | exact .inr (.inr rfl))) (fe_var (i := 6) rfl (by first | exact .inl rfl | exact .inr (.inl rfl) | exact .inr (.inr rfl)))) (fe_bin (op_mulAll ⟨rfl, rfl⟩) o_mul (fe_var (i := 3) rfl (by first | exact .inl rfl | exact .inr (.inl rfl) | exact .inr (.inr rfl))) (fe_var (i := 8) rfl (by first | exact .inl rfl | exact .inr (.inl rfl) | exact .inr (.inr rfl))))) (fa_cons (fe_binz (op_addAll ⟨rfl, rfl⟩) o_add (fe_bin (op_mulAll ⟨rfl, rfl⟩) o_mul (fe_var (i := 2) rfl (by first | exact .inl rfl | exact .inr (.inl rfl) | exact .inr (.inr rfl))) (fe_var (i := 7) rfl (by first | exact .inl rfl | exact .inr (.inl rfl) | exact .inr (.inr rfl)))) (fe_bin (op_mulAll ⟨rfl, rfl⟩) o_mul (fe_var (i := 3) rfl (by first | exact .inl rfl | exact .inr (.inl rfl) | exact .inr (.inr rfl))) (fe_var (i := 9) rfl (by first | exact .inl rfl | exact .inr (.inl rfl) | exact .inr (.inr rfl))))) (fa_cons (fe_binz (op_addAll ⟨rfl, rfl⟩) o_add (fe_bin (op_mulAll ⟨rfl, rfl⟩) o_mul (fe_var (i := 4) rfl (by first | exact .inl rfl | exact .inr (.inl rfl) | exact .inr (.inr rfl))) (fe_var (i := 6) rfl (by first | exact .inl rfl | exact .inr (.inl rfl) | exact .inr (.inr rfl)))) (fe_bin (op_mulAll ⟨rfl, rfl⟩) o_mul (fe_var (i := 5) rfl (by first | exact .inl rfl | exact .inr (.inl rfl) | exact .inr (.inr rfl))) (fe_var (i := 8) rfl (by first | exact .inl rfl | exact .inr (.inl rfl) | exact .inr (.inr rfl))))) (fa_cons (fe_binz (op_addAll ⟨rfl, rfl⟩) o_add (fe_bin (op_mulAll ⟨rfl, rfl⟩) o_mul (fe_var (i := 4) rfl (by first | exact .inl rfl | exact .inr (.inl rfl) | exact .inr (.inr rfl))) (fe_var (i := 7) rfl (by first | exact .inl rfl | exact .inr (.inl rfl) | exact .inr (.inr rfl)))) (fe_bin (op_mulAll ⟨rfl, rfl⟩) o_mul (fe_var (i := 5) rfl (by first | exact .inl rfl | exact .inr (.inl rfl) | exact .inr (.inr rfl))) (fe_var (i := 9) rfl (by first | exact .inl rfl | exact .inr (.inl rfl) | exact .inr (.inr rfl))))) fa_nil))))))
 fss_nil))))
theorem sc_cut_off : FnScope [("one" : Str), ("other" : Str), ("found" : Str)] [("one" : Str), ("other" : Str)] (defScope (top 19)) := ⟨rfl, rfl, rfl, by decide +kernel, rfl, by decide +kernel, by decide +kernel⟩
theorem nd_cut_off : ([("one" : Str), ("other" : Str), ("found" : Str)] : List Str).Nodup := by decide +kernel
theorem bd_cut_off (Z : Fs K mg) : Binds K Z.fd_cut_off [("one" : Str), ("other" : Str)] [] := Z.F_cut_off.bindsN fun _ _ _ _ _ _ us hl => match us, hl with | [_, _], _ => rfl
def b_cut_off : MS := (sSeq (sSet 2 (xOp2 oFdiv (xCB oAbs (aCons (xVar 0) aNil)) (xCB oAbs (aCons (xVar 1) aNil)))) (sSeq (sRet (xIf (xTest (xOp2 oEq (xOp2 oLt (xVar 0) (xC (.int 0))) (xOp2 oLt (xVar 1) (xC (.int 0))))) (xVar 2) (xOp1 oNeg (xVar 2)))) sNil))
def m_cut_off : MF := runF 3 b_cut_off
theorem ok_cut_off (Z : Fs K mg) (TB : ∀ p ∈ TF, TabB base mg (cT K (p, none)).1 (cT K (p, none)).2) : FnOk PP w K mg base (CX PP w) 1 (ga K "cut_off") Z.fd_cut_off [("one" : Str), ("other" : Str)] (spF (Γm K mg) 2 m_cut_off) :=
  fn_mirD (P := PP) (w := w) (mg := mg) (base := base) (Γ := Γm K mg) (k := 0) (N := [("one" : Str), ("other" : Str), ("found" : Str)]) (b := b_cut_off) Z.F_cut_off sc_cut_off (fun cdv A outer s H E lk hcd hr =>
 (fss_cons (fs_set (i := 2) nd_cut_off rfl (by first | exact .inl rfl | exact .inr rfl) (fe_bin op_fdivA o_fdiv (fe_callB call_abs o_abs (by rfl) Z.f_abs (by decide +kernel) (fa_cons (fe_var (i := 0) rfl (by first | exact .inl rfl | exact .inr (.inl rfl) | exact .inr (.inr rfl))) fa_nil)) (fe_callB call_abs o_abs (by rfl) Z.f_abs (by decide +kernel) (fa_cons (fe_var (i := 1) rfl (by first | exact .inl rfl | exact .inr (.inl rfl) | exact .inr (.inr rfl))) fa_nil))))
 (fss_cons (fs_ret (fe_if (ft_cmp (op_eqA ⟨rfl, rfl⟩ hr) o_eq (fe_cmp op_ltA o_lt (fe_var (i := 0) rfl (by first | exact .inl rfl | exact .inr (.inl rfl) | exact .inr (.inr rfl))) fe_int rfl) (fe_cmp op_ltA o_lt (fe_var (i := 1) rfl (by first | exact .inl rfl | exact .inr (.inl rfl) | exact .inr (.inr rfl))) fe_int rfl) rfl) (fe_var (i := 2) rfl (by first | exact .inl rfl | exact .inr (.inl rfl) | exact .inr (.inr rfl))) (fe_un un_neg o_neg (fe_var (i := 2) rfl (by first | exact .inl rfl | exact .inr (.inl rfl) | exact .inr (.inr rfl))))))
 fss_nil)))
theorem sc_steps_told : FnScope [("pair" : Str), ("x" : Str), ("y" : Str), ("found" : Str)] [("pair" : Str)] (defScope (top 20)) := ⟨rfl, rfl, rfl, by decide +kernel, rfl, by decide +kernel, by decide +kernel⟩
theorem nd_steps_told : ([("pair" : Str), ("x" : Str), ("y" : Str), ("found" : Str)] : List Str).Nodup := by decide +kernel
theorem bd_steps_told (Z : Fs K mg) : Binds K Z.fd_steps_told [("pair" : Str)] [] := Z.F_steps_told.bindsN fun _ _ _ _ _ _ us hl => match us, hl with | [_], _ => rfl
def b_steps_told : MS := (sSeq (sAsg (.tp [(.nm 1), (.nm 2)]) (xVar 0)) (sSeq (sSet 3 (xNew aNil)) (sSeq (loopW (xTest (xOp2 oNe (xVar 2) (xC (.int 0)))) (sSeq (sExpr (xMt gAppend (xVar 3) (aCons (xCall m_cut_off [] (aCons (xVar 1) (aCons (xVar 2) aNil))) aNil))) (sSeq (sPar 1 2 (aCons (xVar 2) (aCons (xOp2 oSub (xOp2 oMul (xOp2 oIx (xVar 3) (xOp1 oNeg (xC (.int 1)))) (xVar 2)) (xVar 1)) aNil))) sNil)) 100000) (sSeq (sRet (xTup (aCons (xVar 3) (aCons (xTup (aCons (xVar 1) (aCons (xVar 2) aNil))) aNil)))) sNil))))
def m_steps_told : MF := pureF <| runF 4 b_steps_told
theorem ok_steps_told (Z : Fs K mg) (TB : ∀ p ∈ TF, TabB base mg (cT K (p, none)).1 (cT K (p, none)).2) : FnOk PP w K mg base (CX PP w) 2 (ga K "steps_told") Z.fd_steps_told [("pair" : Str)] (spF (Γm K mg) 1 m_steps_told) :=
  FnOk.pure <| fn_mirD (P := PP) (w := w) (mg := mg) (base := base) (Γ := Γm K mg) (k := 1) (N := [("pair" : Str), ("x" : Str), ("y" : Str), ("found" : Str)]) (b := b_steps_told) Z.F_steps_told sc_steps_told (fun cdv A outer s H E lk hcd hr =>
 (fss_cons (fs_asg (fe_var (i := 0) rfl (by first | exact .inl rfl | exact .inr (.inl rfl) | exact .inr (.inr rfl))) (fp_tup ⟨rfl, rfl⟩ rfl (fps_cons (fp_name (i := 1) nd_steps_told rfl (by first | exact .inl rfl | exact .inr rfl)) (fps_cons (fp_name (i := 2) nd_steps_told rfl (by first | exact .inl rfl | exact .inr rfl)) fps_nil))))
 (fss_cons (fs_set (i := 3) nd_steps_told rfl (by first | exact .inl rfl | exact .inr rfl) (fe_new fa_nil))
 (fss_cons (fs_while passes_cx (ft_cmp (op_neA ⟨rfl, rfl⟩ hr) o_ne (fe_var (i := 2) rfl (by first | exact .inl rfl | exact .inr (.inl rfl) | exact .inr (.inr rfl))) fe_int rfl) (fss_cons (fs_expr (fe_mt ⟨rfl, rfl⟩ PySem.F.plainAttrs_list PySem.F.slot_list_append PySem.F.type_list_append mt_append ok_append (fe_var (i := 3) rfl (by first | exact .inl rfl | exact .inr (.inl rfl) | exact .inr (.inr rfl))) (fa_cons (fe_call (ok_cut_off Z TB) (hr.mono (by omega)) takes_cx (by rfl) Z.g_cut_off Z.F_cut_off.kp (bd_cut_off Z) .nil (fun _ _ => rfl) (fa_cons (fe_var (i := 1) rfl (by first | exact .inl rfl | exact .inr (.inl rfl) | exact .inr (.inr rfl))) (fa_cons (fe_var (i := 2) rfl (by first | exact .inl rfl | exact .inr (.inl rfl) | exact .inr (.inr rfl))) fa_nil)) (len_cons (len_cons len_nil)) rfl) fa_nil)))
 (fss_cons (fs_par (i := 1) (j := 2) rfl nd_steps_told rfl rfl (by decide) (by rfl) (by rfl) (fa_cons (fe_var (i := 2) rfl (by first | exact .inl rfl | exact .inr (.inl rfl) | exact .inr (.inr rfl))) (fa_cons (fe_bin op_sub o_sub (fe_bin (op_mulAll ⟨rfl, rfl⟩) o_mul (fe_ix (ix_all ⟨rfl, rfl⟩) o_ix (fe_var (i := 3) rfl (by first | exact .inl rfl | exact .inr (.inl rfl) | exact .inr (.inr rfl))) (fe_un un_neg o_neg fe_int) (fun _ _ => rfl)) (fe_var (i := 2) rfl (by first | exact .inl rfl | exact .inr (.inl rfl) | exact .inr (.inr rfl)))) (fe_var (i := 1) rfl (by first | exact .inl rfl | exact .inr (.inl rfl) | exact .inr (.inr rfl)))) fa_nil)) (by rfl))
 fss_nil)))
 (fss_cons (fs_ret (fe_tup (fa_cons (fe_var (i := 3) rfl (by first | exact .inl rfl | exact .inr (.inl rfl) | exact .inr (.inr rfl))) (fa_cons (fe_tup (fa_cons (fe_var (i := 1) rfl (by first | exact .inl rfl | exact .inr (.inl rfl) | exact .inr (.inr rfl))) (fa_cons (fe_var (i := 2) rfl (by first | exact .inl rfl | exact .inr (.inl rfl) | exact .inr (.inr rfl))) fa_nil))) fa_nil))))
 fss_nil)))))
theorem sc_reduced_told : FnScope [("pair" : Str), ("some" : Str), ("last" : Str), ("table" : Str), ("many" : Str)] [("pair" : Str)] (defScope (top 22)) := ⟨rfl, rfl, rfl, by decide +kernel, rfl, by decide +kernel, by decide +kernel⟩
theorem nd_reduced_told : ([("pair" : Str), ("some" : Str), ("last" : Str), ("table" : Str), ("many" : Str)] : List Str).Nodup := by decide +kernel
theorem bd_reduced_told (Z : Fs K mg) : Binds K Z.fd_reduced_told [("pair" : Str)] [] := Z.F_reduced_told.bindsN fun _ _ _ _ _ _ us hl => match us, hl with | [_], _ => rfl
def b_reduced_told : MS := (sSeq (sAsg (.tp [(.nm 1), (.nm 2)]) (xCall m_steps_told [] (aCons (xVar 0) aNil))) (sSeq (sSet 3 (xC (.tup [.int 1, .int 0, .int 0, .int 1]))) (sSeq (sFor (xIt (xVar 1)) (.nm 4) (sSeq (sSet 3 (xCall m_times_of [] (aCons (xVar 3) (aCons (xTup (aCons (xC (.int 0)) (aCons (xOp1 oNeg (xC (.int 1))) (aCons (xC (.int 1)) (aCons (xVar 4) aNil))))) aNil)))) sNil)) (sSeq (sRet (xTup (aCons (xCB oAbs (aCons (xOp2 oIx (xVar 2) (xC (.int 0))) aNil)) (aCons (xIf (xTest (xOp2 oLt (xOp2 oIx (xVar 2) (xC (.int 0))) (xC (.int 0)))) (xCall m_minus_of [] (aCons (xVar 3) aNil)) (xVar 3)) aNil)))) sNil))))
def m_reduced_told : MF := runF 5 b_reduced_told
theorem ok_reduced_told (Z : Fs K mg) (TB : ∀ p ∈ TF, TabB base mg (cT K (p, none)).1 (cT K (p, none)).2) : FnOk PP w K mg base (CX PP w) 3 (ga K "reduced_told") Z.fd_reduced_told [("pair" : Str)] (spF (Γm K mg) 1 m_reduced_told) :=
  fn_mirD (P := PP) (w := w) (mg := mg) (base := base) (Γ := Γm K mg) (k := 2) (N := [("pair" : Str), ("some" : Str), ("last" : Str), ("table" : Str), ("many" : Str)]) (b := b_reduced_told) Z.F_reduced_told sc_reduced_told (fun cdv A outer s H E lk hcd hr =>
 (fss_cons (fs_asg (fe_call (ok_steps_told Z TB) (hr.mono (by omega)) takes_cx (by rfl) Z.g_steps_told Z.F_steps_told.kp (bd_steps_told Z) .nil (fun _ _ => rfl) (fa_cons (fe_var (i := 0) rfl (by first | exact .inl rfl | exact .inr (.inl rfl) | exact .inr (.inr rfl))) fa_nil) (len_cons len_nil) rfl) (fp_tup ⟨rfl, rfl⟩ rfl (fps_cons (fp_name (i := 1) nd_reduced_told rfl (by first | exact .inl rfl | exact .inr rfl)) (fps_cons (fp_name (i := 2) nd_reduced_told rfl (by first | exact .inl rfl | exact .inr rfl)) fps_nil))))
 (fss_cons (fs_set (i := 3) nd_reduced_told rfl (by first | exact .inl rfl | exact .inr rfl) (fe_cst ⟨rfl, rfl⟩ (by rfl) Z.c_ONE))
 (fss_cons (fs_for passes_cx rfl (fi_it ⟨rfl, rfl⟩ (fe_var (i := 1) rfl (by first | exact .inl rfl | exact .inr (.inl rfl) | exact .inr (.inr rfl)))) (fp_name (i := 4) nd_reduced_told rfl (by first | exact .inl rfl | exact .inr rfl)) (fss_cons (fs_set (i := 3) nd_reduced_told rfl (by first | exact .inl rfl | exact .inr rfl) (fe_call (ok_times_of Z TB) (hr.mono (by omega)) takes_cx (by rfl) Z.g_times_of Z.F_times_of.kp (bd_times_of Z) .nil (fun _ _ => rfl) (fa_cons (fe_var (i := 3) rfl (by first | exact .inl rfl | exact .inr (.inl rfl) | exact .inr (.inr rfl))) (fa_cons (fe_tup (fa_cons fe_int (fa_cons (fe_un un_neg o_neg fe_int) (fa_cons fe_int (fa_cons (fe_var (i := 4) rfl (by first | exact .inl rfl | exact .inr (.inl rfl) | exact .inr (.inr rfl))) fa_nil))))) fa_nil)) (len_cons (len_cons len_nil)) rfl))
 fss_nil))
 (fss_cons (fs_ret (fe_tup (fa_cons (fe_callB call_abs o_abs (by rfl) Z.f_abs (by decide +kernel) (fa_cons (fe_ix (ix_all ⟨rfl, rfl⟩) o_ix (fe_var (i := 2) rfl (by first | exact .inl rfl | exact .inr (.inl rfl) | exact .inr (.inr rfl))) fe_int (fun _ _ => rfl)) fa_nil)) (fa_cons (fe_if (ft_cmp op_ltA o_lt (fe_ix (ix_all ⟨rfl, rfl⟩) o_ix (fe_var (i := 2) rfl (by first | exact .inl rfl | exact .inr (.inl rfl) | exact .inr (.inr rfl))) fe_int (fun _ _ => rfl)) fe_int rfl) (fe_call (ok_minus_of Z TB) (hr.mono (by omega)) takes_cx (by rfl) Z.g_minus_of Z.F_minus_of.kp (bd_minus_of Z) .nil (fun _ _ => rfl) (fa_cons (fe_var (i := 3) rfl (by first | exact .inl rfl | exact .inr (.inl rfl) | exact .inr (.inr rfl))) fa_nil) (len_cons len_nil) rfl) (fe_var (i := 3) rfl (by first | exact .inl rfl | exact .inr (.inl rfl) | exact .inr (.inr rfl)))) fa_nil))))
 fss_nil)))))
theorem sc_is_integer : FnScope [("value" : Str)] [("value" : Str)] (defScope (top 5)) := ⟨rfl, rfl, rfl, by decide +kernel, rfl, by decide +kernel, by decide +kernel⟩
theorem nd_is_integer : ([("value" : Str)] : List Str).Nodup := by decide +kernel
theorem bd_is_integer (Z : Fs K mg) : Binds K Z.fd_is_integer [("value" : Str)] [] := Z.F_is_integer.bindsN fun _ _ _ _ _ _ us hl => match us, hl with | [_], _ => rfl
def b_is_integer : MS := (sSeq (sRet (xAndV (xIsi ["int"] (xVar 0)) (xNotV (xIsi ["bool"] (xVar 0))))) sNil)
def m_is_integer : MF := runF 1 b_is_integer
theorem ok_is_integer (Z : Fs K mg) (TB : ∀ p ∈ TF, TabB base mg (cT K (p, none)).1 (cT K (p, none)).2) : FnOk PP w K mg base (CX PP w) 1 (ga K "is_integer") Z.fd_is_integer [("value" : Str)] (spF (Γm K mg) 1 m_is_integer) :=
  fn_mirD (P := PP) (w := w) (mg := mg) (base := base) (Γ := Γm K mg) (k := 0) (N := [("value" : Str)]) (b := b_is_integer) Z.F_is_integer sc_is_integer (fun cdv A outer s H E lk hcd hr =>
 (fss_cons (fs_ret (fe_and (fe_isi ⟨rfl, rfl⟩ (by rfl) Z.f_isinstance (by rfl) Z.f_int (by decide +kernel) (fe_var (i := 0) rfl (by first | exact .inl rfl | exact .inr (.inl rfl) | exact .inr (.inr rfl)))) (fe_one (fe_not (fe_isi ⟨rfl, rfl⟩ (by rfl) Z.f_isinstance (by rfl) Z.f_bool (by decide +kernel) (fe_var (i := 0) rfl (by first | exact .inl rfl | exact .inr (.inl rfl) | exact .inr (.inr rfl))))))))
 fss_nil))
theorem sc_is_light : FnScope [("value" : Str)] [("value" : Str)] (defScope (top 11)) := ⟨rfl, rfl, rfl, by decide +kernel, rfl, by decide +kernel, by decide +kernel⟩
theorem nd_is_light : ([("value" : Str)] : List Str).Nodup := by decide +kernel
theorem bd_is_light (Z : Fs K mg) : Binds K Z.fd_is_light [("value" : Str)] [] := Z.F_is_light.bindsN fun _ _ _ _ _ _ us hl => match us, hl with | [_], _ => rfl
def b_is_light : MS := (sSeq (sRet (xAndV (xCall m_is_integer [] (aCons (xVar 0) aNil)) (xChain oLt oLt (xOp1 oNeg (xC (.int 10000000000000000000000000000000000000000))) (xVar 0) (xC (.int 10000000000000000000000000000000000000000))))) sNil)
def m_is_light : MF := runF 1 b_is_light
theorem ok_is_light (Z : Fs K mg) (TB : ∀ p ∈ TF, TabB base mg (cT K (p, none)).1 (cT K (p, none)).2) : FnOk PP w K mg base (CX PP w) 2 (ga K "is_light") Z.fd_is_light [("value" : Str)] (spF (Γm K mg) 1 m_is_light) :=
  fn_mirD (P := PP) (w := w) (mg := mg) (base := base) (Γ := Γm K mg) (k := 1) (N := [("value" : Str)]) (b := b_is_light) Z.F_is_light sc_is_light (fun cdv A outer s H E lk hcd hr =>
 (fss_cons (fs_ret (fe_and (fe_call (ok_is_integer Z TB) (hr.mono (by omega)) takes_cx (by rfl) Z.g_is_integer Z.F_is_integer.kp (bd_is_integer Z) .nil (fun _ _ => rfl) (fa_cons (fe_var (i := 0) rfl (by first | exact .inl rfl | exact .inr (.inl rfl) | exact .inr (.inr rfl))) fa_nil) (len_cons len_nil) rfl) (fe_one (fe_chain op_ltA op_ltA o_lt o_lt (fe_un un_neg o_neg (fe_cst ⟨rfl, rfl⟩ (by rfl) Z.c_LIMIT)) (fe_var (i := 0) rfl (by first | exact .inl rfl | exact .inr (.inl rfl) | exact .inr (.inr rfl))) (fe_cst ⟨rfl, rfl⟩ (by rfl) Z.c_LIMIT)))))
 fss_nil))
theorem sc_is_sequence : FnScope [("value" : Str)] [("value" : Str)] (defScope (top 6)) := ⟨rfl, rfl, rfl, by decide +kernel, rfl, by decide +kernel, by decide +kernel⟩
theorem nd_is_sequence : ([("value" : Str)] : List Str).Nodup := by decide +kernel
theorem bd_is_sequence (Z : Fs K mg) : Binds K Z.fd_is_sequence [("value" : Str)] [] := Z.F_is_sequence.bindsN fun _ _ _ _ _ _ us hl => match us, hl with | [_], _ => rfl
def b_is_sequence : MS := (sSeq (sRet (xIsi ["list", "tuple"] (xVar 0))) sNil)
def m_is_sequence : MF := runF 1 b_is_sequence
theorem ok_is_sequence (Z : Fs K mg) (TB : ∀ p ∈ TF, TabB base mg (cT K (p, none)).1 (cT K (p, none)).2) : FnOk PP w K mg base (CX PP w) 1 (ga K "is_sequence") Z.fd_is_sequence [("value" : Str)] (spF (Γm K mg) 1 m_is_sequence) :=
  fn_mirD (P := PP) (w := w) (mg := mg) (base := base) (Γ := Γm K mg) (k := 0) (N := [("value" : Str)]) (b := b_is_sequence) Z.F_is_sequence sc_is_sequence (fun cdv A outer s H E lk hcd hr =>
 (fss_cons (fs_ret (fe_isi2 ⟨rfl, rfl⟩ (by rfl) Z.f_isinstance (by rfl) Z.f_list (by decide +kernel) (by rfl) Z.f_tuple (by decide +kernel) (fe_var (i := 0) rfl (by first | exact .inl rfl | exact .inr (.inl rfl) | exact .inr (.inr rfl)))))
 fss_nil))
theorem sc_is_row_of : FnScope [("value" : Str), ("many" : Str)] [("value" : Str), ("many" : Str)] (defScope (top 7)) := ⟨rfl, rfl, rfl, by decide +kernel, rfl, by decide +kernel, by decide +kernel⟩
theorem nd_is_row_of : ([("value" : Str), ("many" : Str)] : List Str).Nodup := by decide +kernel
theorem bd_is_row_of (Z : Fs K mg) : Binds K Z.fd_is_row_of [("value" : Str), ("many" : Str)] [] := Z.F_is_row_of.bindsN fun _ _ _ _ _ _ us hl => match us, hl with | [_, _], _ => rfl
def b_is_row_of : MS := (sSeq (sRet (xAndV (xCall m_is_sequence [] (aCons (xVar 0) aNil)) (xOp2 oEq (xCB oLen (aCons (xVar 0) aNil)) (xVar 1)))) sNil)
def m_is_row_of : MF := runF 2 b_is_row_of
theorem ok_is_row_of (Z : Fs K mg) (TB : ∀ p ∈ TF, TabB base mg (cT K (p, none)).1 (cT K (p, none)).2) : FnOk PP w K mg base (CX PP w) 2 (ga K "is_row_of") Z.fd_is_row_of [("value" : Str), ("many" : Str)] (spF (Γm K mg) 2 m_is_row_of) :=
  fn_mirD (P := PP) (w := w) (mg := mg) (base := base) (Γ := Γm K mg) (k := 1) (N := [("value" : Str), ("many" : Str)]) (b := b_is_row_of) Z.F_is_row_of sc_is_row_of (fun cdv A outer s H E lk hcd hr =>
 (fss_cons (fs_ret (fe_and (fe_call (ok_is_sequence Z TB) (hr.mono (by omega)) takes_cx (by rfl) Z.g_is_sequence Z.F_is_sequence.kp (bd_is_sequence Z) .nil (fun _ _ => rfl) (fa_cons (fe_var (i := 0) rfl (by first | exact .inl rfl | exact .inr (.inl rfl) | exact .inr (.inr rfl))) fa_nil) (len_cons len_nil) rfl) (fe_one (fe_cmp (op_eqA ⟨rfl, rfl⟩ hr) o_eq (fe_callB call_len (o_len ⟨rfl, rfl⟩) (by rfl) Z.f_len (by decide +kernel) (fa_cons (fe_var (i := 0) rfl (by first | exact .inl rfl | exact .inr (.inl rfl) | exact .inr (.inr rfl))) fa_nil)) (fe_var (i := 1) rfl (by first | exact .inl rfl | exact .inr (.inl rfl) | exact .inr (.inr rfl))) rfl))))
 fss_nil))
theorem sc_need_pair : FnScope [("value" : Str), ("at" : Str), ("one" : Str)] [("value" : Str), ("at" : Str)] (defScope (top 14)) := ⟨rfl, rfl, rfl, by decide +kernel, rfl, by decide +kernel, by decide +kernel⟩
theorem nd_need_pair : ([("value" : Str), ("at" : Str), ("one" : Str)] : List Str).Nodup := by decide +kernel
theorem bdd_need_pair_0 (Z : Fs K mg) : ∃ ds, Vals ([] : List V) ds ∧ Binds K Z.fd_need_pair [("value" : Str), ("at" : Str)] ds := Z.F_need_pair.binds1 (ps := [("value" : Str), ("at" : Str)]) 2 1 (by simp) rfl fun T kV doc pm an cdv ct us its h1 h2 => match us, its, h1, h2 with | [_, _], [_], _, _ => ⟨_, rfl, rfl⟩
theorem den_need_pair_0 {Γ : G} {μ : List Addr} {H : Hp} : Dens Γ μ H ([] : List V) [] := rfl
theorem bdd_need_pair_1 (Z : Fs K mg) : ∃ ds, Vals ([.int (-1)] : List V) ds ∧ Binds K Z.fd_need_pair [("value" : Str), ("at" : Str)] ds := Z.F_need_pair.binds1 (ps := [("value" : Str), ("at" : Str)]) 1 0 (by simp) rfl fun T kV doc pm an cdv ct us its h1 h2 => match us, its, h1, h2 with | [_], [_], _, _ => ⟨_, rfl, rfl⟩
theorem den_need_pair_1 {Γ : G} {μ : List Addr} {H : Hp} : Dens Γ μ H ([.int (-1)] : List V) [.int (-1)] := ⟨_, _, rfl, rfl, rfl⟩
theorem bd_need_pair (Z : Fs K mg) : Binds K Z.fd_need_pair [("value" : Str), ("at" : Str)] [] := by
  obtain ⟨ds, h1, h2⟩ := bdd_need_pair_0 Z
  cases h1
  exact h2
def b_need_pair : MS := (sSeq (sIf (xOr (xNot (xTru (xCall m_is_row_of [] (aCons (xVar 0) (aCons (xC (.int 2)) aNil))))) (xNot (xTru (xCB oAll (aCons (xLc (xIt (xVar 0)) (.nm 2) xYes (xCall m_is_light [] (aCons (xVar 2) aNil)) [2]) aNil))))) (sSeq (sRaise "InvalidPair" ["at"] (aCons (xVar 1) aNil)) sNil) sNil) (sSeq (sRet (xCB oTuple (aCons (xVar 0) aNil))) sNil))
def m_need_pair : MF := runF 3 b_need_pair
theorem ok_need_pair (Z : Fs K mg) (TB : ∀ p ∈ TF, TabB base mg (cT K (p, none)).1 (cT K (p, none)).2) : FnOk PP w K mg base (CX PP w) 3 (ga K "need_pair") Z.fd_need_pair [("value" : Str), ("at" : Str)] (spF (Γm K mg) 2 m_need_pair) :=
  fn_mirD (P := PP) (w := w) (mg := mg) (base := base) (Γ := Γm K mg) (k := 2) (N := [("value" : Str), ("at" : Str), ("one" : Str)]) (b := b_need_pair) Z.F_need_pair sc_need_pair (fun cdv A outer s H E lk hcd hr =>
 (fss_cons (fs_if (ft_w (fw_or (ft_not (ft_tru ⟨rfl, rfl⟩ (fe_call (ok_is_row_of Z TB) (hr.mono (by omega)) takes_cx (by rfl) Z.g_is_row_of Z.F_is_row_of.kp (bd_is_row_of Z) .nil (fun _ _ => rfl) (fa_cons (fe_var (i := 0) rfl (by first | exact .inl rfl | exact .inr (.inl rfl) | exact .inr (.inr rfl))) (fa_cons fe_int fa_nil)) (len_cons (len_cons len_nil)) rfl))) (fw_or1 (ft_not (ft_tru ⟨rfl, rfl⟩ (fe_callB (cr_all rfl) (o_all ⟨rfl, rfl⟩) (by rfl) Z.f_all (by decide +kernel) (fa_cons (fe_lc (own := [("one", 2)]) rfl (by exact nd_need_pair) (fi_it ⟨rfl, rfl⟩ (fe_var (i := 0) rfl (by first | exact .inl rfl | exact .inr (.inl rfl) | exact .inr (.inr rfl)))) (blkOk_by (by kernel_rfl)) (by decide) (fun _ _ _ _ _ => (fp_name (i := 2) nd_need_pair rfl (by first | exact .inl rfl | exact .inr rfl))) (fun _ _ _ _ _ => ft_nil) (fun _ _ _ _ _ => (fe_call (ok_is_light Z TB) (hr.mono (by omega)) MP.takes0 (by rfl) Z.g_is_light Z.F_is_light.kp (bd_is_light Z) .nil (fun _ _ => rfl) (fa_cons (fe_var (i := 2) rfl (by first | exact .inl rfl | exact .inr (.inl rfl) | exact .inr (.inr rfl))) fa_nil) (len_cons len_nil) rfl))) fa_nil))))))) (fss_cons (fs_raise ⟨rfl, rfl⟩ rfl takes_cx Z.g_InvalidPair (mkx_InvalidPair Z rfl rfl rfl (hr.mono (by omega)) (by rfl)) (fa_cons (fe_var (i := 1) rfl (by first | exact .inl rfl | exact .inr (.inl rfl) | exact .inr (.inr rfl))) fa_nil))
 fss_nil) fss_nil)
 (fss_cons (fs_ret (fe_callT call_tuple_of (o_tuple ⟨rfl, rfl⟩) (by rfl) Z.f_tuple (by decide +kernel) (fa_cons (fe_var (i := 0) rfl (by first | exact .inl rfl | exact .inr (.inl rfl) | exact .inr (.inr rfl))) fa_nil)))
 fss_nil)))
theorem sc_reduced : FnScope [("pair" : Str)] [("pair" : Str)] (defScope (top 23)) := ⟨rfl, rfl, rfl, by decide +kernel, rfl, by decide +kernel, by decide +kernel⟩
theorem nd_reduced : ([("pair" : Str)] : List Str).Nodup := by decide +kernel
theorem bd_reduced (Z : Fs K mg) : Binds K Z.fd_reduced [("pair" : Str)] [] := Z.F_reduced.bindsN fun _ _ _ _ _ _ us hl => match us, hl with | [_], _ => rfl
theorem kb_reduced (Z : Fs K mg) : ∀ (s : Shared) (ws : List Value), ws.length = ([("pair" : Str)] : List Str).length → BindsTo s Z.fd_reduced ⟨[], ([("pair" : Str)] : List Str).zip ws⟩ (([("pair" : Str)] : List Str).zip ws) := fun s ws hl => by
  obtain ⟨oc, od, dV, kV, doc, pm, an, cdv, ct, osl, e, lk, hcd, hD, hK⟩ := Z.F_reduced.ex
  rw [e]
  rcases hD with ⟨_, rfl⟩ | ⟨e, _⟩
  · match ws, hl with | [_], _ => exact .of_eq (by rfl)
  · exact absurd rfl e
def b_reduced : MS := (sSeq (sRet (xCall m_reduced_told [] (aCons (xCall m_need_pair [.int (-1)] (aCons (xVar 0) aNil)) aNil))) sNil)
def m_reduced : MF := runF 1 b_reduced
theorem ok_reduced (Z : Fs K mg) (TB : ∀ p ∈ TF, TabB base mg (cT K (p, none)).1 (cT K (p, none)).2) : FnOk PP w K mg base (CX PP w) 4 (ga K "reduced") Z.fd_reduced [("pair" : Str)] (spF (Γm K mg) 1 m_reduced) :=
  fn_mirD (P := PP) (w := w) (mg := mg) (base := base) (Γ := Γm K mg) (k := 3) (N := [("pair" : Str)]) (b := b_reduced) Z.F_reduced sc_reduced (fun cdv A outer s H E lk hcd hr =>
 (fss_cons (fs_ret (fe_call (ok_reduced_told Z TB) (hr.mono (by omega)) takes_cx (by rfl) Z.g_reduced_told Z.F_reduced_told.kp (bd_reduced_told Z) .nil (fun _ _ => rfl) (fa_cons (fe_call (ok_need_pair Z TB) (hr.mono (by omega)) takes_cx (by rfl) Z.g_need_pair Z.F_need_pair.kp (bdd_need_pair_1 Z).choose_spec.2 (bdd_need_pair_1 Z).choose_spec.1 (fun _ _ => den_need_pair_1) (fa_cons (fe_var (i := 0) rfl (by first | exact .inl rfl | exact .inr (.inl rfl) | exact .inr (.inr rfl))) fa_nil) (len_cons len_nil) rfl) fa_nil) (len_cons len_nil) rfl))
 fss_nil))
theorem sc_quotients : FnScope [("pair" : Str)] [("pair" : Str)] (defScope (top 21)) := ⟨rfl, rfl, rfl, by decide +kernel, rfl, by decide +kernel, by decide +kernel⟩
theorem nd_quotients : ([("pair" : Str)] : List Str).Nodup := by decide +kernel
theorem bd_quotients (Z : Fs K mg) : Binds K Z.fd_quotients [("pair" : Str)] [] := Z.F_quotients.bindsN fun _ _ _ _ _ _ us hl => match us, hl with | [_], _ => rfl
theorem kb_quotients (Z : Fs K mg) : ∀ (s : Shared) (ws : List Value), ws.length = ([("pair" : Str)] : List Str).length → BindsTo s Z.fd_quotients ⟨[], ([("pair" : Str)] : List Str).zip ws⟩ (([("pair" : Str)] : List Str).zip ws) := fun s ws hl => by
  obtain ⟨oc, od, dV, kV, doc, pm, an, cdv, ct, osl, e, lk, hcd, hD, hK⟩ := Z.F_quotients.ex
  rw [e]
  rcases hD with ⟨_, rfl⟩ | ⟨e, _⟩
  · match ws, hl with | [_], _ => exact .of_eq (by rfl)
  · exact absurd rfl e
def b_quotients : MS := (sSeq (sRet (xCB oTuple (aCons (xOp2 oIx (xCall m_steps_told [] (aCons (xCall m_need_pair [.int (-1)] (aCons (xVar 0) aNil)) aNil)) (xC (.int 0))) aNil))) sNil)
def m_quotients : MF := runF 1 b_quotients
theorem ok_quotients (Z : Fs K mg) (TB : ∀ p ∈ TF, TabB base mg (cT K (p, none)).1 (cT K (p, none)).2) : FnOk PP w K mg base (CX PP w) 4 (ga K "quotients") Z.fd_quotients [("pair" : Str)] (spF (Γm K mg) 1 m_quotients) :=
  fn_mirD (P := PP) (w := w) (mg := mg) (base := base) (Γ := Γm K mg) (k := 3) (N := [("pair" : Str)]) (b := b_quotients) Z.F_quotients sc_quotients (fun cdv A outer s H E lk hcd hr =>
 (fss_cons (fs_ret (fe_callT call_tuple_of (o_tuple ⟨rfl, rfl⟩) (by rfl) Z.f_tuple (by decide +kernel) (fa_cons (fe_ix (ix_all ⟨rfl, rfl⟩) o_ix (fe_call (ok_steps_told Z TB) (hr.mono (by omega)) takes_cx (by rfl) Z.g_steps_told Z.F_steps_told.kp (bd_steps_told Z) .nil (fun _ _ => rfl) (fa_cons (fe_call (ok_need_pair Z TB) (hr.mono (by omega)) takes_cx (by rfl) Z.g_need_pair Z.F_need_pair.kp (bdd_need_pair_1 Z).choose_spec.2 (bdd_need_pair_1 Z).choose_spec.1 (fun _ _ => den_need_pair_1) (fa_cons (fe_var (i := 0) rfl (by first | exact .inl rfl | exact .inr (.inl rfl) | exact .inr (.inr rfl))) fa_nil) (len_cons len_nil) rfl) fa_nil) (len_cons len_nil) rfl) fe_int (fun _ _ => rfl)) fa_nil)))
 fss_nil))
def disp1 : D → Option MF
  | .glo x => if x = "quotients" then some (gloF m_quotients 1) else if x = "reduced" then some (gloF m_reduced 1) else none
  | .clo n cs =>  none
  | _ => none
theorem disp1_ok (Z : Fs K mg) (TB : ∀ p ∈ TF, TabB base mg (cT K (p, none)).1 (cT K (p, none)).2) : DispOk (Γm K mg) PP w K mg base 3 disp1 := by
  intro d g h
  cases d with
  | glo x =>
    simp only [disp1] at h
    split at h
    · rename_i e; subst e; cases h; exact .inl ⟨_, _, _, [("pair" : Str)], _, rfl, Z.g_quotients, Z.F_quotients.kp, (ok_quotients Z TB).mono (by omega), bd_quotients Z, rfl⟩
    split at h
    · rename_i e; subst e; cases h; exact .inl ⟨_, _, _, [("pair" : Str)], _, rfl, Z.g_reduced, Z.F_reduced.kp, (ok_reduced Z TB).mono (by omega), bd_reduced Z, rfl⟩
    cases h
  | clo n cs =>
    simp only [disp1] at h
    exact absurd h (by simp)
  | _ => cases h
def e_0 : ME := (xCallV disp1 1 (aCons (xVar 0) aNil))
theorem lamF_0 (Z : Fs K mg) (TB : ∀ p ∈ TF, TabB base mg (cT K (p, none)).1 (cT K (p, none)).2) : LamF (Γm K mg) PP w K mg base 4 0 lam_0 [] e_0 :=
  ⟨rfl, lamS2_by (by decide +kernel), fun clos pm c' ctv us hl => match us, hl with | [], _ => rfl, fun A outer s H E f c' clos hr =>
 (fe_callV (fun _ _ => True.intro) ⟨rfl, rfl⟩ (disp1_ok Z TB) (hr.mono (by omega)) takes_lam rfl (by first | exact .inl rfl | exact .inr (.inl rfl) | exact .inr (.inr rfl)) (fa_cons (fe_var (i := 0) rfl (by first | exact .inl rfl | exact .inr (.inl rfl) | exact .inr (.inr rfl))) fa_nil))⟩
def disp0 : D → Option MF
  | .glo x =>  none
  | .clo n cs => if n = 0 then some (cloF e_0 0 cs) else none
  | _ => none
theorem disp0_ok (Z : Fs K mg) (TB : ∀ p ∈ TF, TabB base mg (cT K (p, none)).1 (cT K (p, none)).2) : DispOk (Γm K mg) PP w K mg base 4 disp0 := by
  intro d g h
  cases d with
  | glo x =>
    simp only [disp0] at h
    exact absurd h (by simp)
  | clo n cs =>
    simp only [disp0] at h
    split at h
    · rename_i e; subst e; cases h; exact .inr ⟨_, cs, _, [], _, rfl, lamF_0 Z TB, rfl⟩
    cases h
  | _ => cases h
theorem sc__law_place : FnScope [("value" : Str), ("one" : Str)] [("value" : Str)] (defScope (top 29)) := ⟨rfl, rfl, rfl, by decide +kernel, rfl, by decide +kernel, by decide +kernel⟩
theorem nd__law_place : ([("value" : Str), ("one" : Str)] : List Str).Nodup := by decide +kernel
theorem bd__law_place (Z : Fs K mg) : Binds K Z.fd__law_place [("value" : Str)] [] := Z.F__law_place.bindsN fun _ _ _ _ _ _ us hl => match us, hl with | [_], _ => rfl
def b__law_place : MS := (sSeq (sIf (xAnd (xTru (xIsi ["tuple"] (xVar 0))) (xTest (xOp2 oEq (xLc (xIt (xVar 0)) (.nm 1) (xNot (xTru (xCall m__law_is_int [] (aCons (xVar 1) aNil)))) (xVar 1) [1]) (xLst aNil)))) (sSeq (sRet (xVar 0)) sNil) sNil) (sSeq (sRet (xIf (xOr (xTru (xCall m__law_is_int [] (aCons (xVar 0) aNil))) (xTru (xIsi ["str"] (xVar 0)))) (xVar 0) (xC (.str [63])))) sNil))
def m__law_place : MF := runF 2 b__law_place
theorem ok__law_place (Z : Fs K mg) (TB : ∀ p ∈ TF, TabB base mg (cT K (p, none)).1 (cT K (p, none)).2) : FnOk PP w K mg base (CX PP w) 2 (ga K "_law_place") Z.fd__law_place [("value" : Str)] (spF (Γm K mg) 1 m__law_place) :=
  fn_mirD (P := PP) (w := w) (mg := mg) (base := base) (Γ := Γm K mg) (k := 1) (N := [("value" : Str), ("one" : Str)]) (b := b__law_place) Z.F__law_place sc__law_place (fun cdv A outer s H E lk hcd hr =>
 (fss_cons (fs_if (ft_w (fw_and (ft_tru ⟨rfl, rfl⟩ (fe_isi ⟨rfl, rfl⟩ (by rfl) Z.f_isinstance (by rfl) Z.f_tuple (by decide +kernel) (fe_var (i := 0) rfl (by first | exact .inl rfl | exact .inr (.inl rfl) | exact .inr (.inr rfl))))) (fw_and1 (ft_cmp (op_eqA ⟨rfl, rfl⟩ hr) o_eq (fe_lc (own := [("one", 1)]) rfl (by exact nd__law_place) (fi_it ⟨rfl, rfl⟩ (fe_var (i := 0) rfl (by first | exact .inl rfl | exact .inr (.inl rfl) | exact .inr (.inr rfl)))) (blkOk_by (by kernel_rfl)) (by decide) (fun _ _ _ _ _ => (fp_name (i := 1) nd__law_place rfl (by first | exact .inl rfl | exact .inr rfl))) (fun _ _ _ _ _ => (ft_one (ft_not (ft_tru ⟨rfl, rfl⟩ (fe_call (ok__law_is_int Z TB) (hr.mono (by omega)) MP.takes0 (by rfl) Z.g__law_is_int Z.F__law_is_int.kp (bd__law_is_int Z) .nil (fun _ _ => rfl) (fa_cons (fe_var (i := 1) rfl (by first | exact .inl rfl | exact .inr (.inl rfl) | exact .inr (.inr rfl))) fa_nil) (len_cons len_nil) rfl))))) (fun _ _ _ _ _ => (fe_var (i := 1) rfl (by first | exact .inl rfl | exact .inr (.inl rfl) | exact .inr (.inr rfl))))) (fe_lst fa_nil) rfl)))) (fss_cons (fs_ret (fe_var (i := 0) rfl (by first | exact .inl rfl | exact .inr (.inl rfl) | exact .inr (.inr rfl))))
 fss_nil) fss_nil)
 (fss_cons (fs_ret (fe_if (ft_w (fw_or (ft_tru ⟨rfl, rfl⟩ (fe_call (ok__law_is_int Z TB) (hr.mono (by omega)) takes_cx (by rfl) Z.g__law_is_int Z.F__law_is_int.kp (bd__law_is_int Z) .nil (fun _ _ => rfl) (fa_cons (fe_var (i := 0) rfl (by first | exact .inl rfl | exact .inr (.inl rfl) | exact .inr (.inr rfl))) fa_nil) (len_cons len_nil) rfl)) (fw_or1 (ft_tru ⟨rfl, rfl⟩ (fe_isi ⟨rfl, rfl⟩ (by rfl) Z.f_isinstance (by rfl) Z.f_str (by decide +kernel) (fe_var (i := 0) rfl (by first | exact .inl rfl | exact .inr (.inl rfl) | exact .inr (.inr rfl)))))))) (fe_var (i := 0) rfl (by first | exact .inl rfl | exact .inr (.inl rfl) | exact .inr (.inr rfl))) (fe_str (l := [63]) (by decide +kernel))))
 fss_nil)))
def bq__law_is_int : MS := (sSeq (sRet (xAndV (xIsi ["int"] (xVar 0)) (xNotV (xIsi ["bool"] (xVar 0))))) sNil)
def mq__law_is_int : MF := runF 1 bq__law_is_int
theorem okq__law_is_int (Z : Fs K mg) (TB : ∀ p ∈ TF, TabB base mg (cT K (p, none)).1 (cT K (p, none)).2) : FnQ PP w K mg base 1 (ga K "_law_is_int") Z.fd__law_is_int [("value" : Str)] (spF (Γm K mg) 1 mq__law_is_int) :=
  fn_mirQ (P := PP) (w := w) (mg := mg) (base := base) (Γ := Γm K mg) (k := 0) (N := [("value" : Str)]) (b := bq__law_is_int) Z.F__law_is_int sc__law_is_int (fun cdv A outer s H hr =>
 (fss_cons (fs_ret (fe_and (fe_isi ⟨rfl, rfl⟩ (by rfl) Z.f_isinstance (by rfl) Z.f_int (by decide +kernel) (fe_var (i := 0) rfl (by first | exact .inl rfl | exact .inr (.inl rfl) | exact .inr (.inr rfl)))) (fe_one (fe_not (fe_isi ⟨rfl, rfl⟩ (by rfl) Z.f_isinstance (by rfl) Z.f_bool (by decide +kernel) (fe_var (i := 0) rfl (by first | exact .inl rfl | exact .inr (.inl rfl) | exact .inr (.inr rfl))))))))
 fss_nil))
def bq__law_place : MS := (sSeq (sIf (xAnd (xTru (xIsi ["tuple"] (xVar 0))) xStuckT) (sSeq (sRet (xVar 0)) sNil) sNil) (sSeq (sRet (xIf (xOr (xTru (xCallQ mq__law_is_int (aCons (xVar 0) aNil))) (xTru (xIsi ["str"] (xVar 0)))) (xVar 0) (xC (.str [63])))) sNil))
def mq__law_place : MF := runF 2 bq__law_place
theorem okq__law_place (Z : Fs K mg) (TB : ∀ p ∈ TF, TabB base mg (cT K (p, none)).1 (cT K (p, none)).2) : FnQ PP w K mg base 2 (ga K "_law_place") Z.fd__law_place [("value" : Str)] (spF (Γm K mg) 1 mq__law_place) :=
  fn_mirQ (P := PP) (w := w) (mg := mg) (base := base) (Γ := Γm K mg) (k := 1) (N := [("value" : Str), ("one" : Str)]) (b := bq__law_place) Z.F__law_place sc__law_place (fun cdv A outer s H hr =>
 (fss_cons (fs_if (ft_w (fw_and (ft_tru ⟨rfl, rfl⟩ (fe_isi ⟨rfl, rfl⟩ (by rfl) Z.f_isinstance (by rfl) Z.f_tuple (by decide +kernel) (fe_var (i := 0) rfl (by first | exact .inl rfl | exact .inr (.inl rfl) | exact .inr (.inr rfl))))) (fw_and1 ft_stuck))) (fss_cons (fs_ret (fe_var (i := 0) rfl (by first | exact .inl rfl | exact .inr (.inl rfl) | exact .inr (.inr rfl))))
 fss_nil) fss_nil)
 (fss_cons (fs_ret (fe_if (ft_w (fw_or (ft_tru ⟨rfl, rfl⟩ (fe_callQ (okq__law_is_int Z TB) (hr.mono (by omega)) (by rfl) Z.g__law_is_int Z.F__law_is_int.kp (bd__law_is_int Z) (fa_cons (fe_var (i := 0) rfl (by first | exact .inl rfl | exact .inr (.inl rfl) | exact .inr (.inr rfl))) fa_nil) (len_cons len_nil) rfl)) (fw_or1 (ft_tru ⟨rfl, rfl⟩ (fe_isi ⟨rfl, rfl⟩ (by rfl) Z.f_isinstance (by rfl) Z.f_str (by decide +kernel) (fe_var (i := 0) rfl (by first | exact .inl rfl | exact .inr (.inl rfl) | exact .inr (.inr rfl)))))))) (fe_var (i := 0) rfl (by first | exact .inl rfl | exact .inr (.inl rfl) | exact .inr (.inr rfl))) (fe_str (l := [63]) (by decide +kernel))))
 fss_nil)))
theorem sc__law_heard : FnScope [("call" : Str), ("e" : Str)] [("call" : Str)] (defScope (top 27)) := ⟨rfl, rfl, rfl, by decide +kernel, rfl, by decide +kernel, by decide +kernel⟩
theorem nd__law_heard : ([("call" : Str), ("e" : Str)] : List Str).Nodup := by decide +kernel
theorem bd__law_heard (Z : Fs K mg) : Binds K Z.fd__law_heard [("call" : Str)] [] := Z.F__law_heard.bindsN fun _ _ _ _ _ _ us hl => match us, hl with | [_], _ => rfl
def b__law_heard : MS := (sSeq (sTry 1 (sSeq (sRet (xTup (aCons (xC (.str [116, 111, 108, 100])) (aCons (xCallV disp0 0 aNil) aNil)))) sNil) [⟨tab_InvalidPair, goRetC [112, 97, 105, 114] mq__law_place "at"⟩]) sNil)
def m__law_heard : MF := runF 2 b__law_heard
theorem ok__law_heard (Z : Fs K mg) (TB : ∀ p ∈ TF, TabB base mg (cT K (p, none)).1 (cT K (p, none)).2) : FnOk PP w K mg base (CX PP w) 6 (ga K "_law_heard") Z.fd__law_heard [("call" : Str)] (spF (Γm K mg) 1 m__law_heard) :=
  fn_mirD (P := PP) (w := w) (mg := mg) (base := base) (Γ := Γm K mg) (k := 5) (N := [("call" : Str), ("e" : Str)]) (b := b__law_heard) Z.F__law_heard sc__law_heard (fun cdv A outer s H E lk hcd hr =>
 (fss_cons (fs_try (i := 1) rfl rfl nd__law_heard rfl (by rfl) takes_cx (fun _ _ _ tk_ hp_ => (fss_cons (fs_ret (fe_tup (fa_cons (fe_str (l := [116, 111, 108, 100]) (by decide +kernel)) (fa_cons (fe_callV0 (fun _ _ => True.intro) ⟨rfl, rfl⟩ (disp0_ok Z TB) (hr.mono (by omega)) tk_ rfl (by first | exact .inl rfl | exact .inr (.inl rfl) | exact .inr (.inr rfl))) fa_nil))))
 fss_nil)) (.cons (fc_retC (i := 1) (l := [112, 97, 105, 114]) ⟨rfl, rfl⟩ ⟨(by rfl), by decide, .inl Z.g_InvalidPair⟩ Z.g_InvalidPair Z.X_InvalidPair.2 rfl (by first | exact .inl rfl | exact .inr (.inl rfl) | exact .inr (.inr rfl)) (by decide) (by decide) (fun _ => rfl) (tab_InvalidPair_ok Z) (tab_InvalidPair_1) Z.n_InvalidPair_at (by decide +kernel) (okq__law_place Z TB) (hr.mono (by omega)) (by rfl) Z.g__law_place Z.F__law_place.kp (bd__law_place Z)) .nil))
 fss_nil))
theorem sc__law_all_heard : FnScope [("ask" : Str), ("some" : Str), ("due" : Str), ("value" : Str)] [("ask" : Str), ("some" : Str), ("due" : Str)] (defScope (top 36)) := ⟨rfl, rfl, rfl, by decide +kernel, rfl, by decide +kernel, by decide +kernel⟩
theorem nd__law_all_heard : ([("ask" : Str), ("some" : Str), ("due" : Str), ("value" : Str)] : List Str).Nodup := by decide +kernel
theorem bd__law_all_heard (Z : Fs K mg) : Binds K Z.fd__law_all_heard [("ask" : Str), ("some" : Str), ("due" : Str)] [] := Z.F__law_all_heard.bindsN fun _ _ _ _ _ _ us hl => match us, hl with | [_, _, _], _ => rfl
def b__law_all_heard : MS := (sSeq (sRet (xOp2 oEq (xLc (xIt (xVar 1)) (.nm 3) (xTest (xOp2 oNe (xCallC m__law_heard 0 [3, 0] aNil) (xVar 2))) (xVar 3) [3]) (xLst aNil))) sNil)
def m__law_all_heard : MF := runF 4 b__law_all_heard
theorem ok__law_all_heard (Z : Fs K mg) (TB : ∀ p ∈ TF, TabB base mg (cT K (p, none)).1 (cT K (p, none)).2) : FnOk PP w K mg base (CX PP w) 7 (ga K "_law_all_heard") Z.fd__law_all_heard [("ask" : Str), ("some" : Str), ("due" : Str)] (spF (Γm K mg) 3 m__law_all_heard) :=
  fn_mirD (P := PP) (w := w) (mg := mg) (base := base) (Γ := Γm K mg) (k := 6) (N := [("ask" : Str), ("some" : Str), ("due" : Str), ("value" : Str)]) (b := b__law_all_heard) Z.F__law_all_heard sc__law_all_heard (fun cdv A outer s H E lk hcd hr =>
 (fss_cons (fs_ret (fe_cmp (op_eqA ⟨rfl, rfl⟩ hr) o_eq (fe_lcC (own := [("value", 3)]) rfl cells_cx (by exact nd__law_all_heard) (fi_it ⟨rfl, rfl⟩ (fe_var (i := 1) rfl (by first | exact .inl rfl | exact .inr (.inl rfl) | exact .inr (.inr rfl)))) (blkOk_by (by kernel_rfl)) (by decide) (fun _ _ _ _ _ => (fp_name (i := 3) nd__law_all_heard rfl (by first | exact .inl rfl | exact .inr rfl))) (fun _ _ _ _ _ new_ => (ft_one (ft_cmp (op_neA ⟨rfl, rfl⟩ hr) o_ne (fe_callC (I := lam_0) (slots := [3, 0]) (fun _ _ => True.intro) (ok__law_heard Z TB) (hr.mono (by omega)) MP.takes0 (by rfl) Z.g__law_heard Z.F__law_heard.kp (bd__law_heard Z) (lamT_blk (lamT_cx Z.F__law_all_heard hcd TB Z.nd (by decide))) rfl rfl (by rfl) (free_by (sc := L2.relS (compSc (eAt (kidX (eAt (kidE (sAt (defBody (top 36)) 0)) 0)) 0)) (defScope (top 36))) (by decide +kernel)) (blk_new new_) (fun _ => rfl) (by decide +kernel) (slots_by (N := [("ask" : Str), ("some" : Str), ("due" : Str), ("value" : Str)]) (by decide +kernel)) rfl (vis_by (sc := L2.relS (compSc (eAt (kidX (eAt (kidE (sAt (defBody (top 36)) 0)) 0)) 0)) (defScope (top 36))) (by decide +kernel)) fa_nil len_nil rfl) (fe_var (i := 2) rfl (by first | exact .inl rfl | exact .inr (.inl rfl) | exact .inr (.inr rfl))) rfl))) (fun _ _ _ _ _ new_ => (fe_var (i := 3) rfl (by first | exact .inl rfl | exact .inr (.inl rfl) | exact .inr (.inr rfl))))) (fe_lst fa_nil) rfl))
 fss_nil))
theorem sc__law_draw : FnScope [("box" : Str), ("many" : Str), ("turn" : Str), ("rest" : Str)] [("box" : Str), ("many" : Str)] (defScope (top 30)) := ⟨rfl, rfl, rfl, by decide +kernel, rfl, by decide +kernel, by decide +kernel⟩
theorem nd__law_draw : ([("box" : Str), ("many" : Str), ("turn" : Str), ("rest" : Str)] : List Str).Nodup := by decide +kernel
theorem bd__law_draw (Z : Fs K mg) : Binds K Z.fd__law_draw [("box" : Str), ("many" : Str)] [] := Z.F__law_draw.bindsN fun _ _ _ _ _ _ us hl => match us, hl with | [_, _], _ => rfl
def b__law_draw : MS := (sSeq (sFor (xRange1 (aCons (xC (.int 60)) aNil)) (.nm 2) (sSeq (sIf (xAnd (xTest (xOp2 oNe (xOp2 oIx (xVar 0) (xC (.int 0))) (xLst aNil))) (xTest (xOp2 oEq (xOp2 oIx (xOp2 oIx (xVar 0) (xC (.int 0))) (xC (.int 0))) (xC (.int 0))))) (sSeq (sExpr (xMt gPopAt (xOp2 oIx (xVar 0) (xC (.int 0))) (aCons (xC (.int 0)) aNil))) sNil) sNil) sNil)) (sSeq (sIf (xTest (xOp2 oNe (xOp2 oIx (xVar 0) (xC (.int 0))) (xLst aNil))) (sSeq (sSet 3 (xCB oInt (aCons (xMt gPopAt (xOp2 oIx (xVar 0) (xC (.int 0))) (aCons (xC (.int 0)) aNil)) aNil))) (sSeq (sExpr (xMt gInsert (xOp2 oIx (xVar 0) (xC (.int 0))) (aCons (xC (.int 0)) (aCons (xOp2 oFdiv (xVar 3) (xVar 1)) aNil)))) (sSeq (sRet (xOp2 oMod (xCB oInt (aCons (xVar 3) aNil)) (xVar 1))) sNil))) sNil) (sSeq (sSub (xOp2 oMod (xCB oInt (aCons (xOp2 oAdd (xOp2 oMul (xOp2 oIx (xVar 0) (xC (.int 1))) (xC (.int 16807))) (xC (.int 41))) aNil)) (xC (.int 2147483647))) (xVar 0) (xC (.int 1))) (sSeq (sRet (xOp2 oMod (xCB oInt (aCons (xOp2 oFdiv (xOp2 oIx (xVar 0) (xC (.int 1))) (xC (.int 101))) aNil)) (xVar 1))) sNil))))
def m__law_draw : MF := runF 4 b__law_draw
theorem ok__law_draw (Z : Fs K mg) (TB : ∀ p ∈ TF, TabB base mg (cT K (p, none)).1 (cT K (p, none)).2) : FnOk PP w K mg base (CX PP w) 1 (ga K "_law_draw") Z.fd__law_draw [("box" : Str), ("many" : Str)] (spF (Γm K mg) 2 m__law_draw) :=
  fn_mirD (P := PP) (w := w) (mg := mg) (base := base) (Γ := Γm K mg) (k := 0) (N := [("box" : Str), ("many" : Str), ("turn" : Str), ("rest" : Str)]) (b := b__law_draw) Z.F__law_draw sc__law_draw (fun cdv A outer s H E lk hcd hr =>
 (fss_cons (fs_for passes_cx rfl (fi_range1 (by rfl) Z.f_range (fa_cons fe_int fa_nil)) (fp_name (i := 2) nd__law_draw rfl (by first | exact .inl rfl | exact .inr rfl)) (fss_cons (fs_if (ft_w (fw_and (ft_cmp (op_neA ⟨rfl, rfl⟩ hr) o_ne (fe_ix (ix_all ⟨rfl, rfl⟩) o_ix (fe_var (i := 0) rfl (by first | exact .inl rfl | exact .inr (.inl rfl) | exact .inr (.inr rfl))) fe_int (fun _ _ => rfl)) (fe_lst fa_nil) rfl) (fw_and1 (ft_cmp (op_eqA ⟨rfl, rfl⟩ hr) o_eq (fe_ix (ix_all ⟨rfl, rfl⟩) o_ix (fe_ix (ix_all ⟨rfl, rfl⟩) o_ix (fe_var (i := 0) rfl (by first | exact .inl rfl | exact .inr (.inl rfl) | exact .inr (.inr rfl))) fe_int (fun _ _ => rfl)) fe_int (fun _ _ => rfl)) fe_int rfl)))) (fss_cons (fs_expr (fe_mt ⟨rfl, rfl⟩ PySem.F.plainAttrs_list PySem.F.slot_list_pop PySem.F.type_list_pop mt_popAt ok_popAt (fe_ix (ix_all ⟨rfl, rfl⟩) o_ix (fe_var (i := 0) rfl (by first | exact .inl rfl | exact .inr (.inl rfl) | exact .inr (.inr rfl))) fe_int (fun _ _ => rfl)) (fa_cons fe_int fa_nil)))
 fss_nil) fss_nil)
 fss_nil))
 (fss_cons (fs_if (ft_cmp (op_neA ⟨rfl, rfl⟩ hr) o_ne (fe_ix (ix_all ⟨rfl, rfl⟩) o_ix (fe_var (i := 0) rfl (by first | exact .inl rfl | exact .inr (.inl rfl) | exact .inr (.inr rfl))) fe_int (fun _ _ => rfl)) (fe_lst fa_nil) rfl) (fss_cons (fs_set (i := 3) nd__law_draw rfl (by first | exact .inl rfl | exact .inr rfl) (fe_callT call_int1 o_int (by rfl) Z.f_int (by decide +kernel) (fa_cons (fe_mt ⟨rfl, rfl⟩ PySem.F.plainAttrs_list PySem.F.slot_list_pop PySem.F.type_list_pop mt_popAt ok_popAt (fe_ix (ix_all ⟨rfl, rfl⟩) o_ix (fe_var (i := 0) rfl (by first | exact .inl rfl | exact .inr (.inl rfl) | exact .inr (.inr rfl))) fe_int (fun _ _ => rfl)) (fa_cons fe_int fa_nil)) fa_nil)))
 (fss_cons (fs_expr (fe_mt ⟨rfl, rfl⟩ PySem.F.plainAttrs_list PySem.F.slot_list_insert PySem.F.type_list_insert mt_insert ok_insert (fe_ix (ix_all ⟨rfl, rfl⟩) o_ix (fe_var (i := 0) rfl (by first | exact .inl rfl | exact .inr (.inl rfl) | exact .inr (.inr rfl))) fe_int (fun _ _ => rfl)) (fa_cons fe_int (fa_cons (fe_bin op_fdivA o_fdiv (fe_var (i := 3) rfl (by first | exact .inl rfl | exact .inr (.inl rfl) | exact .inr (.inr rfl))) (fe_var (i := 1) rfl (by first | exact .inl rfl | exact .inr (.inl rfl) | exact .inr (.inr rfl)))) fa_nil))))
 (fss_cons (fs_ret (fe_bin op_modN o_mod (fe_callT call_int1 o_int (by rfl) Z.f_int (by decide +kernel) (fa_cons (fe_var (i := 3) rfl (by first | exact .inl rfl | exact .inr (.inl rfl) | exact .inr (.inr rfl))) fa_nil)) (fe_var (i := 1) rfl (by first | exact .inl rfl | exact .inr (.inl rfl) | exact .inr (.inr rfl)))))
 fss_nil))) fss_nil)
 (fss_cons (fs_sub (fe_bin op_modN o_mod (fe_callT call_int1 o_int (by rfl) Z.f_int (by decide +kernel) (fa_cons (fe_binz (op_addAll ⟨rfl, rfl⟩) o_add (fe_bin (op_mulAll ⟨rfl, rfl⟩) o_mul (fe_ix (ix_all ⟨rfl, rfl⟩) o_ix (fe_var (i := 0) rfl (by first | exact .inl rfl | exact .inr (.inl rfl) | exact .inr (.inr rfl))) fe_int (fun _ _ => rfl)) fe_int) fe_int) fa_nil)) fe_int) (fe_var (i := 0) rfl (by first | exact .inl rfl | exact .inr (.inl rfl) | exact .inr (.inr rfl))) fe_int)
 (fss_cons (fs_ret (fe_bin op_modN o_mod (fe_callT call_int1 o_int (by rfl) Z.f_int (by decide +kernel) (fa_cons (fe_bin op_fdivA o_fdiv (fe_ix (ix_all ⟨rfl, rfl⟩) o_ix (fe_var (i := 0) rfl (by first | exact .inl rfl | exact .inr (.inl rfl) | exact .inr (.inr rfl))) fe_int (fun _ _ => rfl)) fe_int) fa_nil)) (fe_var (i := 1) rfl (by first | exact .inl rfl | exact .inr (.inl rfl) | exact .inr (.inr rfl)))))
 fss_nil)))))
theorem sc__law_pick : FnScope [("box" : Str), ("some" : Str)] [("box" : Str), ("some" : Str)] (defScope (top 31)) := ⟨rfl, rfl, rfl, by decide +kernel, rfl, by decide +kernel, by decide +kernel⟩
theorem nd__law_pick : ([("box" : Str), ("some" : Str)] : List Str).Nodup := by decide +kernel
theorem bd__law_pick (Z : Fs K mg) : Binds K Z.fd__law_pick [("box" : Str), ("some" : Str)] [] := Z.F__law_pick.bindsN fun _ _ _ _ _ _ us hl => match us, hl with | [_, _], _ => rfl
def b__law_pick : MS := (sSeq (sRet (xOp2 oIx (xVar 1) (xCall m__law_draw [] (aCons (xVar 0) (aCons (xCB oLen (aCons (xVar 1) aNil)) aNil))))) sNil)
def m__law_pick : MF := runF 2 b__law_pick
theorem ok__law_pick (Z : Fs K mg) (TB : ∀ p ∈ TF, TabB base mg (cT K (p, none)).1 (cT K (p, none)).2) : FnOk PP w K mg base (CX PP w) 2 (ga K "_law_pick") Z.fd__law_pick [("box" : Str), ("some" : Str)] (spF (Γm K mg) 2 m__law_pick) :=
  fn_mirD (P := PP) (w := w) (mg := mg) (base := base) (Γ := Γm K mg) (k := 1) (N := [("box" : Str), ("some" : Str)]) (b := b__law_pick) Z.F__law_pick sc__law_pick (fun cdv A outer s H E lk hcd hr =>
 (fss_cons (fs_ret (fe_ix (ix_all ⟨rfl, rfl⟩) o_ix (fe_var (i := 1) rfl (by first | exact .inl rfl | exact .inr (.inl rfl) | exact .inr (.inr rfl))) (fe_call (ok__law_draw Z TB) (hr.mono (by omega)) takes_cx (by rfl) Z.g__law_draw Z.F__law_draw.kp (bd__law_draw Z) .nil (fun _ _ => rfl) (fa_cons (fe_var (i := 0) rfl (by first | exact .inl rfl | exact .inr (.inl rfl) | exact .inr (.inr rfl))) (fa_cons (fe_callB call_len (o_len ⟨rfl, rfl⟩) (by rfl) Z.f_len (by decide +kernel) (fa_cons (fe_var (i := 1) rfl (by first | exact .inl rfl | exact .inr (.inl rfl) | exact .inr (.inr rfl))) fa_nil)) fa_nil)) (len_cons (len_cons len_nil)) rfl) (fun _ _ => rfl)))
 fss_nil))
theorem sc__law_pairs : FnScope [("box" : Str), ("high" : Str), ("x" : Str), ("y" : Str), ("times" : Str), ("one" : Str), ("other" : Str), ("turn" : Str), ("signs" : Str), ("some" : Str), ("part" : Str), ("pair" : Str)] [("box" : Str)] (defScope (top 40)) := ⟨rfl, rfl, rfl, by decide +kernel, rfl, by decide +kernel, by decide +kernel⟩
theorem nd__law_pairs : ([("box" : Str), ("high" : Str), ("x" : Str), ("y" : Str), ("times" : Str), ("one" : Str), ("other" : Str), ("turn" : Str), ("signs" : Str), ("some" : Str), ("part" : Str), ("pair" : Str)] : List Str).Nodup := by decide +kernel
theorem bd__law_pairs (Z : Fs K mg) : Binds K Z.fd__law_pairs [("box" : Str)] [] := Z.F__law_pairs.bindsN fun _ _ _ _ _ _ us hl => match us, hl with | [_], _ => rfl
def b__law_pairs : MS := (sSeq (sSet 1 (xCall m__law_pick [] (aCons (xVar 0) (aCons (xLst (aCons (xC (.int 3)) (aCons (xC (.int 12)) (aCons (xC (.int 1000)) (aCons (xOp2 oPow (xC (.int 10)) (xC (.int 18))) (aCons (xOp2 oPow (xC (.int 10)) (xC (.int 39))) aNil)))))) aNil)))) (sSeq (sPar3 2 3 4 (aCons (xOp2 oSub (xCall m__law_draw [] (aCons (xVar 0) (aCons (xOp2 oAdd (xOp2 oMul (xC (.int 2)) (xVar 1)) (xC (.int 1))) aNil))) (xVar 1)) (aCons (xOp2 oSub (xCall m__law_draw [] (aCons (xVar 0) (aCons (xOp2 oAdd (xOp2 oMul (xC (.int 2)) (xVar 1)) (xC (.int 1))) aNil))) (xVar 1)) (aCons (xOp2 oAdd (xC (.int 1)) (xCall m__law_draw [] (aCons (xVar 0) (aCons (xC (.int 9)) aNil)))) aNil)))) (sSeq (sAsg (.tp [(.nm 5), (.nm 6)]) (xTup (aCons (xC (.int 1)) (aCons (xC (.int 1)) aNil)))) (sSeq (sFor (xRange1 (aCons (xCall m__law_draw [] (aCons (xVar 0) (aCons (xC (.int 180)) aNil))) aNil)) (.nm 7) (sSeq (sPar 5 6 (aCons (xVar 6) (aCons (xOp2 oAdd (xVar 5) (xVar 6)) aNil))) sNil)) (sSeq (sSet 8 (xLc (xIt (xTup (aCons (xC (.int 0)) (aCons (xC (.int 1)) aNil)))) (.nm 10) xYes (xCall m__law_pick [] (aCons (xVar 0) (aCons (xLst (aCons (xC (.int 1)) (aCons (xOp2 oSub (xC (.int 0)) (xC (.int 1))) aNil))) aNil))) [10])) (sSeq (sSet 9 (xLst (aCons (xTup (aCons (xVar 2) (aCons (xVar 3) aNil))) (aCons (xTup (aCons (xVar 3) (aCons (xC (.int 0)) aNil))) (aCons (xTup (aCons (xC (.int 0)) (aCons (xVar 2) aNil))) (aCons (xTup (aCons (xOp2 oSub (xVar 3) (xC (.int 1))) (aCons (xVar 3) aNil))) (aCons (xTup (aCons (xVar 2) (aCons (xVar 2) aNil))) (aCons (xTup (aCons (xVar 2) (aCons (xOp2 oSub (xC (.int 0)) (xVar 2)) aNil))) (aCons (xTup (aCons (xOp2 oMul (xVar 5) (xOp2 oIx (xVar 8) (xC (.int 0)))) (aCons (xOp2 oMul (xVar 6) (xOp2 oIx (xVar 8) (xC (.int 1)))) aNil))) (aCons (xTup (aCons (xOp2 oMul (xVar 4) (xOp2 oFdiv (xVar 1) (xC (.int 10)))) (aCons (xOp2 oMul (xVar 4) (xOp2 oFdiv (xVar 1) (xC (.int 15)))) aNil))) aNil)))))))))) (sSeq (sRet (xLc (xIt (xVar 9)) (.nm 11) (xTest (xOp2 oLt (xCB oMax (aCons (xLc (xIt (xVar 11)) (.nm 10) xYes (xCB oAbs (aCons (xVar 10) aNil)) [10]) aNil)) (xOp2 oPow (xC (.int 10)) (xC (.int 40))))) (xVar 11) [11])) sNil)))))))
def m__law_pairs : MF := runF 12 b__law_pairs
theorem ok__law_pairs (Z : Fs K mg) (TB : ∀ p ∈ TF, TabB base mg (cT K (p, none)).1 (cT K (p, none)).2) : FnOk PP w K mg base (CX PP w) 3 (ga K "_law_pairs") Z.fd__law_pairs [("box" : Str)] (spF (Γm K mg) 1 m__law_pairs) :=
  fn_mirD (P := PP) (w := w) (mg := mg) (base := base) (Γ := Γm K mg) (k := 2) (N := [("box" : Str), ("high" : Str), ("x" : Str), ("y" : Str), ("times" : Str), ("one" : Str), ("other" : Str), ("turn" : Str), ("signs" : Str), ("some" : Str), ("part" : Str), ("pair" : Str)]) (b := b__law_pairs) Z.F__law_pairs sc__law_pairs (fun cdv A outer s H E lk hcd hr =>
 (fss_cons (fs_set (i := 1) nd__law_pairs rfl (by first | exact .inl rfl | exact .inr rfl) (fe_call (ok__law_pick Z TB) (hr.mono (by omega)) takes_cx (by rfl) Z.g__law_pick Z.F__law_pick.kp (bd__law_pick Z) .nil (fun _ _ => rfl) (fa_cons (fe_var (i := 0) rfl (by first | exact .inl rfl | exact .inr (.inl rfl) | exact .inr (.inr rfl))) (fa_cons (fe_lst (fa_cons fe_int (fa_cons fe_int (fa_cons fe_int (fa_cons (fe_bin op_pow o_pow fe_int fe_int) (fa_cons (fe_bin op_pow o_pow fe_int fe_int) fa_nil)))))) fa_nil)) (len_cons (len_cons len_nil)) rfl))
 (fss_cons (fs_par3 (i := 2) (j := 3) (l := 4) rfl nd__law_pairs rfl rfl rfl (by decide) (by decide) (by decide) (by rfl) (by rfl) (by rfl) (fa_cons (fe_bin op_sub o_sub (fe_call (ok__law_draw Z TB) (hr.mono (by omega)) takes_cx (by rfl) Z.g__law_draw Z.F__law_draw.kp (bd__law_draw Z) .nil (fun _ _ => rfl) (fa_cons (fe_var (i := 0) rfl (by first | exact .inl rfl | exact .inr (.inl rfl) | exact .inr (.inr rfl))) (fa_cons (fe_binz (op_addAll ⟨rfl, rfl⟩) o_add (fe_bin (op_mulAll ⟨rfl, rfl⟩) o_mul fe_int (fe_var (i := 1) rfl (by first | exact .inl rfl | exact .inr (.inl rfl) | exact .inr (.inr rfl)))) fe_int) fa_nil)) (len_cons (len_cons len_nil)) rfl) (fe_var (i := 1) rfl (by first | exact .inl rfl | exact .inr (.inl rfl) | exact .inr (.inr rfl)))) (fa_cons (fe_bin op_sub o_sub (fe_call (ok__law_draw Z TB) (hr.mono (by omega)) takes_cx (by rfl) Z.g__law_draw Z.F__law_draw.kp (bd__law_draw Z) .nil (fun _ _ => rfl) (fa_cons (fe_var (i := 0) rfl (by first | exact .inl rfl | exact .inr (.inl rfl) | exact .inr (.inr rfl))) (fa_cons (fe_binz (op_addAll ⟨rfl, rfl⟩) o_add (fe_bin (op_mulAll ⟨rfl, rfl⟩) o_mul fe_int (fe_var (i := 1) rfl (by first | exact .inl rfl | exact .inr (.inl rfl) | exact .inr (.inr rfl)))) fe_int) fa_nil)) (len_cons (len_cons len_nil)) rfl) (fe_var (i := 1) rfl (by first | exact .inl rfl | exact .inr (.inl rfl) | exact .inr (.inr rfl)))) (fa_cons (fe_binz (op_addAll ⟨rfl, rfl⟩) o_add fe_int (fe_call (ok__law_draw Z TB) (hr.mono (by omega)) takes_cx (by rfl) Z.g__law_draw Z.F__law_draw.kp (bd__law_draw Z) .nil (fun _ _ => rfl) (fa_cons (fe_var (i := 0) rfl (by first | exact .inl rfl | exact .inr (.inl rfl) | exact .inr (.inr rfl))) (fa_cons fe_int fa_nil)) (len_cons (len_cons len_nil)) rfl)) fa_nil))) (by rfl))
 (fss_cons (fs_asg (fe_tup (fa_cons fe_int (fa_cons fe_int fa_nil))) (fp_tup ⟨rfl, rfl⟩ rfl (fps_cons (fp_name (i := 5) nd__law_pairs rfl (by first | exact .inl rfl | exact .inr rfl)) (fps_cons (fp_name (i := 6) nd__law_pairs rfl (by first | exact .inl rfl | exact .inr rfl)) fps_nil))))
 (fss_cons (fs_for passes_cx rfl (fi_range1 (by rfl) Z.f_range (fa_cons (fe_call (ok__law_draw Z TB) (hr.mono (by omega)) takes_cx (by rfl) Z.g__law_draw Z.F__law_draw.kp (bd__law_draw Z) .nil (fun _ _ => rfl) (fa_cons (fe_var (i := 0) rfl (by first | exact .inl rfl | exact .inr (.inl rfl) | exact .inr (.inr rfl))) (fa_cons fe_int fa_nil)) (len_cons (len_cons len_nil)) rfl) fa_nil)) (fp_name (i := 7) nd__law_pairs rfl (by first | exact .inl rfl | exact .inr rfl)) (fss_cons (fs_par (i := 5) (j := 6) rfl nd__law_pairs rfl rfl (by decide) (by rfl) (by rfl) (fa_cons (fe_var (i := 6) rfl (by first | exact .inl rfl | exact .inr (.inl rfl) | exact .inr (.inr rfl))) (fa_cons (fe_binz (op_addAll ⟨rfl, rfl⟩) o_add (fe_var (i := 5) rfl (by first | exact .inl rfl | exact .inr (.inl rfl) | exact .inr (.inr rfl))) (fe_var (i := 6) rfl (by first | exact .inl rfl | exact .inr (.inl rfl) | exact .inr (.inr rfl)))) fa_nil)) (by rfl))
 fss_nil))
 (fss_cons (fs_setLc (own := [("part", 10)]) (i := 8) rfl nd__law_pairs rfl (by rfl) (sw_true (by rfl) (by rfl) (by rfl) (by rfl)) (fi_it ⟨rfl, rfl⟩ (fe_tup (fa_cons fe_int (fa_cons fe_int fa_nil)))) (blkOk_by (by kernel_rfl)) (by decide) (fun _ _ _ _ _ => (fp_name (i := 10) nd__law_pairs rfl (by first | exact .inl rfl | exact .inr rfl))) (fun _ _ _ _ _ => ft_nil) (fun _ _ _ _ _ => (fe_call (ok__law_pick Z TB) (hr.mono (by omega)) MP.takes0 (by rfl) Z.g__law_pick Z.F__law_pick.kp (bd__law_pick Z) .nil (fun _ _ => rfl) (fa_cons (fe_var (i := 0) rfl (by first | exact .inl rfl | exact .inr (.inl rfl) | exact .inr (.inr rfl))) (fa_cons (fe_lst (fa_cons fe_int (fa_cons (fe_bin op_sub o_sub fe_int fe_int) fa_nil))) fa_nil)) (len_cons (len_cons len_nil)) rfl)))
 (fss_cons (fs_set (i := 9) nd__law_pairs rfl (by first | exact .inl rfl | exact .inr rfl) (fe_lst (fa_cons (fe_tup (fa_cons (fe_var (i := 2) rfl (by first | exact .inl rfl | exact .inr (.inl rfl) | exact .inr (.inr rfl))) (fa_cons (fe_var (i := 3) rfl (by first | exact .inl rfl | exact .inr (.inl rfl) | exact .inr (.inr rfl))) fa_nil))) (fa_cons (fe_tup (fa_cons (fe_var (i := 3) rfl (by first | exact .inl rfl | exact .inr (.inl rfl) | exact .inr (.inr rfl))) (fa_cons fe_int fa_nil))) (fa_cons (fe_tup (fa_cons fe_int (fa_cons (fe_var (i := 2) rfl (by first | exact .inl rfl | exact .inr (.inl rfl) | exact .inr (.inr rfl))) fa_nil))) (fa_cons (fe_tup (fa_cons (fe_bin op_sub o_sub (fe_var (i := 3) rfl (by first | exact .inl rfl | exact .inr (.inl rfl) | exact .inr (.inr rfl))) fe_int) (fa_cons (fe_var (i := 3) rfl (by first | exact .inl rfl | exact .inr (.inl rfl) | exact .inr (.inr rfl))) fa_nil))) (fa_cons (fe_tup (fa_cons (fe_var (i := 2) rfl (by first | exact .inl rfl | exact .inr (.inl rfl) | exact .inr (.inr rfl))) (fa_cons (fe_var (i := 2) rfl (by first | exact .inl rfl | exact .inr (.inl rfl) | exact .inr (.inr rfl))) fa_nil))) (fa_cons (fe_tup (fa_cons (fe_var (i := 2) rfl (by first | exact .inl rfl | exact .inr (.inl rfl) | exact .inr (.inr rfl))) (fa_cons (fe_bin op_sub o_sub fe_int (fe_var (i := 2) rfl (by first | exact .inl rfl | exact .inr (.inl rfl) | exact .inr (.inr rfl)))) fa_nil))) (fa_cons (fe_tup (fa_cons (fe_bin (op_mulAll ⟨rfl, rfl⟩) o_mul (fe_var (i := 5) rfl (by first | exact .inl rfl | exact .inr (.inl rfl) | exact .inr (.inr rfl))) (fe_ix (ix_all ⟨rfl, rfl⟩) o_ix (fe_var (i := 8) rfl (by first | exact .inl rfl | exact .inr (.inl rfl) | exact .inr (.inr rfl))) fe_int (fun _ _ => rfl))) (fa_cons (fe_bin (op_mulAll ⟨rfl, rfl⟩) o_mul (fe_var (i := 6) rfl (by first | exact .inl rfl | exact .inr (.inl rfl) | exact .inr (.inr rfl))) (fe_ix (ix_all ⟨rfl, rfl⟩) o_ix (fe_var (i := 8) rfl (by first | exact .inl rfl | exact .inr (.inl rfl) | exact .inr (.inr rfl))) fe_int (fun _ _ => rfl))) fa_nil))) (fa_cons (fe_tup (fa_cons (fe_bin (op_mulAll ⟨rfl, rfl⟩) o_mul (fe_var (i := 4) rfl (by first | exact .inl rfl | exact .inr (.inl rfl) | exact .inr (.inr rfl))) (fe_bin op_fdivA o_fdiv (fe_var (i := 1) rfl (by first | exact .inl rfl | exact .inr (.inl rfl) | exact .inr (.inr rfl))) fe_int)) (fa_cons (fe_bin (op_mulAll ⟨rfl, rfl⟩) o_mul (fe_var (i := 4) rfl (by first | exact .inl rfl | exact .inr (.inl rfl) | exact .inr (.inr rfl))) (fe_bin op_fdivA o_fdiv (fe_var (i := 1) rfl (by first | exact .inl rfl | exact .inr (.inl rfl) | exact .inr (.inr rfl))) fe_int)) fa_nil))) fa_nil))))))))))
 (fss_cons (fs_ret (fe_lc (own := [("pair", 11)]) rfl (by exact nd__law_pairs) (fi_it ⟨rfl, rfl⟩ (fe_var (i := 9) rfl (by first | exact .inl rfl | exact .inr (.inl rfl) | exact .inr (.inr rfl)))) (blkOk_by (by kernel_rfl)) (by decide) (fun _ _ _ _ _ => (fp_name (i := 11) nd__law_pairs rfl (by first | exact .inl rfl | exact .inr rfl))) (fun _ _ _ _ _ => (ft_one (ft_cmp op_ltA o_lt (fe_callB (CallR.or' (call_max2 rfl) (cr_max rfl)) o_max (by rfl) Z.f_max (by decide +kernel) (fa_cons (fe_lc (own := [("part", 10)]) rfl (by exact nd__law_pairs) (fi_it ⟨rfl, rfl⟩ (fe_var (i := 11) rfl (by first | exact .inl rfl | exact .inr (.inl rfl) | exact .inr (.inr rfl)))) (blkOk_by (by kernel_rfl)) (by decide) (fun _ _ _ _ _ => (fp_name (i := 10) nd__law_pairs rfl (by first | exact .inl rfl | exact .inr rfl))) (fun _ _ _ _ _ => ft_nil) (fun _ _ _ _ _ => (fe_callB call_abs o_abs (by rfl) Z.f_abs (by decide +kernel) (fa_cons (fe_var (i := 10) rfl (by first | exact .inl rfl | exact .inr (.inl rfl) | exact .inr (.inr rfl))) fa_nil)))) fa_nil)) (fe_bin op_pow o_pow fe_int fe_int) rfl))) (fun _ _ _ _ _ => (fe_var (i := 11) rfl (by first | exact .inl rfl | exact .inr (.inl rfl) | exact .inr (.inr rfl))))))
 fss_nil))))))))
theorem sc_led_told : FnScope [("pair" : Str), ("table" : Str)] [("pair" : Str), ("table" : Str)] (defScope (top 17)) := ⟨rfl, rfl, rfl, by decide +kernel, rfl, by decide +kernel, by decide +kernel⟩
theorem nd_led_told : ([("pair" : Str), ("table" : Str)] : List Str).Nodup := by decide +kernel
theorem bd_led_told (Z : Fs K mg) : Binds K Z.fd_led_told [("pair" : Str), ("table" : Str)] [] := Z.F_led_told.bindsN fun _ _ _ _ _ _ us hl => match us, hl with | [_, _], _ => rfl
def b_led_told : MS := (sSeq (sRet (xTup (aCons (xOp2 oAdd (xOp2 oMul (xOp2 oIx (xVar 0) (xC (.int 0))) (xOp2 oIx (xVar 1) (xC (.int 0)))) (xOp2 oMul (xOp2 oIx (xVar 0) (xC (.int 1))) (xOp2 oIx (xVar 1) (xC (.int 2))))) (aCons (xOp2 oAdd (xOp2 oMul (xOp2 oIx (xVar 0) (xC (.int 0))) (xOp2 oIx (xVar 1) (xC (.int 1)))) (xOp2 oMul (xOp2 oIx (xVar 0) (xC (.int 1))) (xOp2 oIx (xVar 1) (xC (.int 3))))) aNil)))) sNil)
def m_led_told : MF := runF 2 b_led_told
theorem ok_led_told (Z : Fs K mg) (TB : ∀ p ∈ TF, TabB base mg (cT K (p, none)).1 (cT K (p, none)).2) : FnOk PP w K mg base (CX PP w) 1 (ga K "led_told") Z.fd_led_told [("pair" : Str), ("table" : Str)] (spF (Γm K mg) 2 m_led_told) :=
  fn_mirD (P := PP) (w := w) (mg := mg) (base := base) (Γ := Γm K mg) (k := 0) (N := [("pair" : Str), ("table" : Str)]) (b := b_led_told) Z.F_led_told sc_led_told (fun cdv A outer s H E lk hcd hr =>
 (fss_cons (fs_ret (fe_tup (fa_cons (fe_binz (op_addAll ⟨rfl, rfl⟩) o_add (fe_bin (op_mulAll ⟨rfl, rfl⟩) o_mul (fe_ix (ix_all ⟨rfl, rfl⟩) o_ix (fe_var (i := 0) rfl (by first | exact .inl rfl | exact .inr (.inl rfl) | exact .inr (.inr rfl))) fe_int (fun _ _ => rfl)) (fe_ix (ix_all ⟨rfl, rfl⟩) o_ix (fe_var (i := 1) rfl (by first | exact .inl rfl | exact .inr (.inl rfl) | exact .inr (.inr rfl))) fe_int (fun _ _ => rfl))) (fe_bin (op_mulAll ⟨rfl, rfl⟩) o_mul (fe_ix (ix_all ⟨rfl, rfl⟩) o_ix (fe_var (i := 0) rfl (by first | exact .inl rfl | exact .inr (.inl rfl) | exact .inr (.inr rfl))) fe_int (fun _ _ => rfl)) (fe_ix (ix_all ⟨rfl, rfl⟩) o_ix (fe_var (i := 1) rfl (by first | exact .inl rfl | exact .inr (.inl rfl) | exact .inr (.inr rfl))) fe_int (fun _ _ => rfl)))) (fa_cons (fe_binz (op_addAll ⟨rfl, rfl⟩) o_add (fe_bin (op_mulAll ⟨rfl, rfl⟩) o_mul (fe_ix (ix_all ⟨rfl, rfl⟩) o_ix (fe_var (i := 0) rfl (by first | exact .inl rfl | exact .inr (.inl rfl) | exact .inr (.inr rfl))) fe_int (fun _ _ => rfl)) (fe_ix (ix_all ⟨rfl, rfl⟩) o_ix (fe_var (i := 1) rfl (by first | exact .inl rfl | exact .inr (.inl rfl) | exact .inr (.inr rfl))) fe_int (fun _ _ => rfl))) (fe_bin (op_mulAll ⟨rfl, rfl⟩) o_mul (fe_ix (ix_all ⟨rfl, rfl⟩) o_ix (fe_var (i := 0) rfl (by first | exact .inl rfl | exact .inr (.inl rfl) | exact .inr (.inr rfl))) fe_int (fun _ _ => rfl)) (fe_ix (ix_all ⟨rfl, rfl⟩) o_ix (fe_var (i := 1) rfl (by first | exact .inl rfl | exact .inr (.inl rfl) | exact .inr (.inr rfl))) fe_int (fun _ _ => rfl)))) fa_nil))))
 fss_nil))
theorem sc_is_table : FnScope [("value" : Str), ("one" : Str)] [("value" : Str)] (defScope (top 12)) := ⟨rfl, rfl, rfl, by decide +kernel, rfl, by decide +kernel, by decide +kernel⟩
theorem nd_is_table : ([("value" : Str), ("one" : Str)] : List Str).Nodup := by decide +kernel
theorem bd_is_table (Z : Fs K mg) : Binds K Z.fd_is_table [("value" : Str)] [] := Z.F_is_table.bindsN fun _ _ _ _ _ _ us hl => match us, hl with | [_], _ => rfl
def b_is_table : MS := (sSeq (sIf (xOr (xNot (xTru (xCall m_is_row_of [] (aCons (xVar 0) (aCons (xC (.int 4)) aNil))))) (xNot (xTru (xCB oAll (aCons (xLc (xIt (xVar 0)) (.nm 1) xYes (xCall m_is_light [] (aCons (xVar 1) aNil)) [1]) aNil))))) (sSeq (sRet (xC (.bl false))) sNil) sNil) (sSeq (sRet (xOp2 oEq (xOp2 oSub (xOp2 oMul (xOp2 oIx (xVar 0) (xC (.int 0))) (xOp2 oIx (xVar 0) (xC (.int 3)))) (xOp2 oMul (xOp2 oIx (xVar 0) (xC (.int 1))) (xOp2 oIx (xVar 0) (xC (.int 2))))) (xC (.int 1)))) sNil))
def m_is_table : MF := runF 2 b_is_table
theorem ok_is_table (Z : Fs K mg) (TB : ∀ p ∈ TF, TabB base mg (cT K (p, none)).1 (cT K (p, none)).2) : FnOk PP w K mg base (CX PP w) 3 (ga K "is_table") Z.fd_is_table [("value" : Str)] (spF (Γm K mg) 1 m_is_table) :=
  fn_mirD (P := PP) (w := w) (mg := mg) (base := base) (Γ := Γm K mg) (k := 2) (N := [("value" : Str), ("one" : Str)]) (b := b_is_table) Z.F_is_table sc_is_table (fun cdv A outer s H E lk hcd hr =>
 (fss_cons (fs_if (ft_w (fw_or (ft_not (ft_tru ⟨rfl, rfl⟩ (fe_call (ok_is_row_of Z TB) (hr.mono (by omega)) takes_cx (by rfl) Z.g_is_row_of Z.F_is_row_of.kp (bd_is_row_of Z) .nil (fun _ _ => rfl) (fa_cons (fe_var (i := 0) rfl (by first | exact .inl rfl | exact .inr (.inl rfl) | exact .inr (.inr rfl))) (fa_cons fe_int fa_nil)) (len_cons (len_cons len_nil)) rfl))) (fw_or1 (ft_not (ft_tru ⟨rfl, rfl⟩ (fe_callB (cr_all rfl) (o_all ⟨rfl, rfl⟩) (by rfl) Z.f_all (by decide +kernel) (fa_cons (fe_lc (own := [("one", 1)]) rfl (by exact nd_is_table) (fi_it ⟨rfl, rfl⟩ (fe_var (i := 0) rfl (by first | exact .inl rfl | exact .inr (.inl rfl) | exact .inr (.inr rfl)))) (blkOk_by (by kernel_rfl)) (by decide) (fun _ _ _ _ _ => (fp_name (i := 1) nd_is_table rfl (by first | exact .inl rfl | exact .inr rfl))) (fun _ _ _ _ _ => ft_nil) (fun _ _ _ _ _ => (fe_call (ok_is_light Z TB) (hr.mono (by omega)) MP.takes0 (by rfl) Z.g_is_light Z.F_is_light.kp (bd_is_light Z) .nil (fun _ _ => rfl) (fa_cons (fe_var (i := 1) rfl (by first | exact .inl rfl | exact .inr (.inl rfl) | exact .inr (.inr rfl))) fa_nil) (len_cons len_nil) rfl))) fa_nil))))))) (fss_cons (fs_ret fe_bl)
 fss_nil) fss_nil)
 (fss_cons (fs_ret (fe_cmp (op_eqA ⟨rfl, rfl⟩ hr) o_eq (fe_bin op_sub o_sub (fe_bin (op_mulAll ⟨rfl, rfl⟩) o_mul (fe_ix (ix_all ⟨rfl, rfl⟩) o_ix (fe_var (i := 0) rfl (by first | exact .inl rfl | exact .inr (.inl rfl) | exact .inr (.inr rfl))) fe_int (fun _ _ => rfl)) (fe_ix (ix_all ⟨rfl, rfl⟩) o_ix (fe_var (i := 0) rfl (by first | exact .inl rfl | exact .inr (.inl rfl) | exact .inr (.inr rfl))) fe_int (fun _ _ => rfl))) (fe_bin (op_mulAll ⟨rfl, rfl⟩) o_mul (fe_ix (ix_all ⟨rfl, rfl⟩) o_ix (fe_var (i := 0) rfl (by first | exact .inl rfl | exact .inr (.inl rfl) | exact .inr (.inr rfl))) fe_int (fun _ _ => rfl)) (fe_ix (ix_all ⟨rfl, rfl⟩) o_ix (fe_var (i := 0) rfl (by first | exact .inl rfl | exact .inr (.inl rfl) | exact .inr (.inr rfl))) fe_int (fun _ _ => rfl)))) fe_int rfl))
 fss_nil)))
theorem sc_need_table : FnScope [("value" : Str), ("at" : Str)] [("value" : Str), ("at" : Str)] (defScope (top 13)) := ⟨rfl, rfl, rfl, by decide +kernel, rfl, by decide +kernel, by decide +kernel⟩
theorem nd_need_table : ([("value" : Str), ("at" : Str)] : List Str).Nodup := by decide +kernel
theorem bdd_need_table_0 (Z : Fs K mg) : ∃ ds, Vals ([] : List V) ds ∧ Binds K Z.fd_need_table [("value" : Str), ("at" : Str)] ds := Z.F_need_table.binds1 (ps := [("value" : Str), ("at" : Str)]) 2 1 (by simp) rfl fun T kV doc pm an cdv ct us its h1 h2 => match us, its, h1, h2 with | [_, _], [_], _, _ => ⟨_, rfl, rfl⟩
theorem den_need_table_0 {Γ : G} {μ : List Addr} {H : Hp} : Dens Γ μ H ([] : List V) [] := rfl
theorem bdd_need_table_1 (Z : Fs K mg) : ∃ ds, Vals ([.int (-1)] : List V) ds ∧ Binds K Z.fd_need_table [("value" : Str), ("at" : Str)] ds := Z.F_need_table.binds1 (ps := [("value" : Str), ("at" : Str)]) 1 0 (by simp) rfl fun T kV doc pm an cdv ct us its h1 h2 => match us, its, h1, h2 with | [_], [_], _, _ => ⟨_, rfl, rfl⟩
theorem den_need_table_1 {Γ : G} {μ : List Addr} {H : Hp} : Dens Γ μ H ([.int (-1)] : List V) [.int (-1)] := ⟨_, _, rfl, rfl, rfl⟩
theorem bd_need_table (Z : Fs K mg) : Binds K Z.fd_need_table [("value" : Str), ("at" : Str)] [] := by
  obtain ⟨ds, h1, h2⟩ := bdd_need_table_0 Z
  cases h1
  exact h2
def b_need_table : MS := (sSeq (sIf (xNot (xTru (xCall m_is_table [] (aCons (xVar 0) aNil)))) (sSeq (sRaise "InvalidTable" ["at"] (aCons (xVar 1) aNil)) sNil) sNil) (sSeq (sRet (xCB oTuple (aCons (xVar 0) aNil))) sNil))
def m_need_table : MF := runF 2 b_need_table
theorem ok_need_table (Z : Fs K mg) (TB : ∀ p ∈ TF, TabB base mg (cT K (p, none)).1 (cT K (p, none)).2) : FnOk PP w K mg base (CX PP w) 4 (ga K "need_table") Z.fd_need_table [("value" : Str), ("at" : Str)] (spF (Γm K mg) 2 m_need_table) :=
  fn_mirD (P := PP) (w := w) (mg := mg) (base := base) (Γ := Γm K mg) (k := 3) (N := [("value" : Str), ("at" : Str)]) (b := b_need_table) Z.F_need_table sc_need_table (fun cdv A outer s H E lk hcd hr =>
 (fss_cons (fs_if (ft_not (ft_tru ⟨rfl, rfl⟩ (fe_call (ok_is_table Z TB) (hr.mono (by omega)) takes_cx (by rfl) Z.g_is_table Z.F_is_table.kp (bd_is_table Z) .nil (fun _ _ => rfl) (fa_cons (fe_var (i := 0) rfl (by first | exact .inl rfl | exact .inr (.inl rfl) | exact .inr (.inr rfl))) fa_nil) (len_cons len_nil) rfl))) (fss_cons (fs_raise ⟨rfl, rfl⟩ rfl takes_cx Z.g_InvalidTable (mkx_InvalidTable Z rfl rfl rfl (hr.mono (by omega)) (by rfl)) (fa_cons (fe_var (i := 1) rfl (by first | exact .inl rfl | exact .inr (.inl rfl) | exact .inr (.inr rfl))) fa_nil))
 fss_nil) fss_nil)
 (fss_cons (fs_ret (fe_callT call_tuple_of (o_tuple ⟨rfl, rfl⟩) (by rfl) Z.f_tuple (by decide +kernel) (fa_cons (fe_var (i := 0) rfl (by first | exact .inl rfl | exact .inr (.inl rfl) | exact .inr (.inr rfl))) fa_nil)))
 fss_nil)))
theorem sc_led_pair : FnScope [("table" : Str), ("pair" : Str), ("told" : Str)] [("table" : Str), ("pair" : Str)] (defScope (top 18)) := ⟨rfl, rfl, rfl, by decide +kernel, rfl, by decide +kernel, by decide +kernel⟩
theorem nd_led_pair : ([("table" : Str), ("pair" : Str), ("told" : Str)] : List Str).Nodup := by decide +kernel
theorem bd_led_pair (Z : Fs K mg) : Binds K Z.fd_led_pair [("table" : Str), ("pair" : Str)] [] := Z.F_led_pair.bindsN fun _ _ _ _ _ _ us hl => match us, hl with | [_, _], _ => rfl
def b_led_pair : MS := (sSeq (sSet 2 (xCall m_need_table [.int (-1)] (aCons (xVar 0) aNil))) (sSeq (sRet (xCall m_led_told [] (aCons (xCall m_need_pair [.int (-1)] (aCons (xVar 1) aNil)) (aCons (xVar 2) aNil)))) sNil))
def m_led_pair : MF := runF 3 b_led_pair
theorem ok_led_pair (Z : Fs K mg) (TB : ∀ p ∈ TF, TabB base mg (cT K (p, none)).1 (cT K (p, none)).2) : FnOk PP w K mg base (CX PP w) 5 (ga K "led_pair") Z.fd_led_pair [("table" : Str), ("pair" : Str)] (spF (Γm K mg) 2 m_led_pair) :=
  fn_mirD (P := PP) (w := w) (mg := mg) (base := base) (Γ := Γm K mg) (k := 4) (N := [("table" : Str), ("pair" : Str), ("told" : Str)]) (b := b_led_pair) Z.F_led_pair sc_led_pair (fun cdv A outer s H E lk hcd hr =>
 (fss_cons (fs_set (i := 2) nd_led_pair rfl (by first | exact .inl rfl | exact .inr rfl) (fe_call (ok_need_table Z TB) (hr.mono (by omega)) takes_cx (by rfl) Z.g_need_table Z.F_need_table.kp (bdd_need_table_1 Z).choose_spec.2 (bdd_need_table_1 Z).choose_spec.1 (fun _ _ => den_need_table_1) (fa_cons (fe_var (i := 0) rfl (by first | exact .inl rfl | exact .inr (.inl rfl) | exact .inr (.inr rfl))) fa_nil) (len_cons len_nil) rfl))
 (fss_cons (fs_ret (fe_call (ok_led_told Z TB) (hr.mono (by omega)) takes_cx (by rfl) Z.g_led_told Z.F_led_told.kp (bd_led_told Z) .nil (fun _ _ => rfl) (fa_cons (fe_call (ok_need_pair Z TB) (hr.mono (by omega)) takes_cx (by rfl) Z.g_need_pair Z.F_need_pair.kp (bdd_need_pair_1 Z).choose_spec.2 (bdd_need_pair_1 Z).choose_spec.1 (fun _ _ => den_need_pair_1) (fa_cons (fe_var (i := 1) rfl (by first | exact .inl rfl | exact .inr (.inl rfl) | exact .inr (.inr rfl))) fa_nil) (len_cons len_nil) rfl) (fa_cons (fe_var (i := 2) rfl (by first | exact .inl rfl | exact .inr (.inl rfl) | exact .inr (.inr rfl))) fa_nil)) (len_cons (len_cons len_nil)) rfl))
 fss_nil)))
theorem sc__law_shared : FnScope [("one" : Str), ("other" : Str), ("turn" : Str)] [("one" : Str), ("other" : Str)] (defScope (top 39)) := ⟨rfl, rfl, rfl, by decide +kernel, rfl, by decide +kernel, by decide +kernel⟩
theorem nd__law_shared : ([("one" : Str), ("other" : Str), ("turn" : Str)] : List Str).Nodup := by decide +kernel
theorem bd__law_shared (Z : Fs K mg) : Binds K Z.fd__law_shared [("one" : Str), ("other" : Str)] [] := Z.F__law_shared.bindsN fun _ _ _ _ _ _ us hl => match us, hl with | [_, _], _ => rfl
def b__law_shared : MS := (sSeq (sPar 0 1 (aCons (xCB oAbs (aCons (xVar 0) aNil)) (aCons (xCB oAbs (aCons (xVar 1) aNil)) aNil))) (sSeq (sFor (xRange1 (aCons (xC (.int 400)) aNil)) (.nm 2) (sSeq (sIf (xTest (xOp2 oNe (xVar 1) (xC (.int 0)))) (sSeq (sPar 0 1 (aCons (xVar 1) (aCons (xOp2 oSub (xVar 0) (xOp2 oMul (xOp2 oFdiv (xVar 0) (xVar 1)) (xVar 1))) aNil))) sNil) sNil) sNil)) (sSeq (sRet (xVar 0)) sNil)))
def m__law_shared : MF := runF 3 b__law_shared
theorem ok__law_shared (Z : Fs K mg) (TB : ∀ p ∈ TF, TabB base mg (cT K (p, none)).1 (cT K (p, none)).2) : FnOk PP w K mg base (CX PP w) 1 (ga K "_law_shared") Z.fd__law_shared [("one" : Str), ("other" : Str)] (spF (Γm K mg) 2 m__law_shared) :=
  fn_mirD (P := PP) (w := w) (mg := mg) (base := base) (Γ := Γm K mg) (k := 0) (N := [("one" : Str), ("other" : Str), ("turn" : Str)]) (b := b__law_shared) Z.F__law_shared sc__law_shared (fun cdv A outer s H E lk hcd hr =>
 (fss_cons (fs_par (i := 0) (j := 1) rfl nd__law_shared rfl rfl (by decide) (by rfl) (by rfl) (fa_cons (fe_callB call_abs o_abs (by rfl) Z.f_abs (by decide +kernel) (fa_cons (fe_var (i := 0) rfl (by first | exact .inl rfl | exact .inr (.inl rfl) | exact .inr (.inr rfl))) fa_nil)) (fa_cons (fe_callB call_abs o_abs (by rfl) Z.f_abs (by decide +kernel) (fa_cons (fe_var (i := 1) rfl (by first | exact .inl rfl | exact .inr (.inl rfl) | exact .inr (.inr rfl))) fa_nil)) fa_nil)) (by rfl))
 (fss_cons (fs_for passes_cx rfl (fi_range1 (by rfl) Z.f_range (fa_cons fe_int fa_nil)) (fp_name (i := 2) nd__law_shared rfl (by first | exact .inl rfl | exact .inr rfl)) (fss_cons (fs_if (ft_cmp (op_neA ⟨rfl, rfl⟩ hr) o_ne (fe_var (i := 1) rfl (by first | exact .inl rfl | exact .inr (.inl rfl) | exact .inr (.inr rfl))) fe_int rfl) (fss_cons (fs_par (i := 0) (j := 1) rfl nd__law_shared rfl rfl (by decide) (by rfl) (by rfl) (fa_cons (fe_var (i := 1) rfl (by first | exact .inl rfl | exact .inr (.inl rfl) | exact .inr (.inr rfl))) (fa_cons (fe_bin op_sub o_sub (fe_var (i := 0) rfl (by first | exact .inl rfl | exact .inr (.inl rfl) | exact .inr (.inr rfl))) (fe_bin (op_mulAll ⟨rfl, rfl⟩) o_mul (fe_bin op_fdivA o_fdiv (fe_var (i := 0) rfl (by first | exact .inl rfl | exact .inr (.inl rfl) | exact .inr (.inr rfl))) (fe_var (i := 1) rfl (by first | exact .inl rfl | exact .inr (.inl rfl) | exact .inr (.inr rfl)))) (fe_var (i := 1) rfl (by first | exact .inl rfl | exact .inr (.inl rfl) | exact .inr (.inr rfl))))) fa_nil)) (by rfl))
 fss_nil) fss_nil)
 fss_nil))
 (fss_cons (fs_ret (fe_var (i := 0) rfl (by first | exact .inl rfl | exact .inr (.inl rfl) | exact .inr (.inr rfl))))
 fss_nil))))
theorem sc__law_seq : FnScope [("box" : Str), ("row" : Str)] [("box" : Str), ("row" : Str)] (defScope (top 33)) := ⟨rfl, rfl, rfl, by decide +kernel, rfl, by decide +kernel, by decide +kernel⟩
theorem nd__law_seq : ([("box" : Str), ("row" : Str)] : List Str).Nodup := by decide +kernel
theorem bd__law_seq (Z : Fs K mg) : Binds K Z.fd__law_seq [("box" : Str), ("row" : Str)] [] := Z.F__law_seq.bindsN fun _ _ _ _ _ _ us hl => match us, hl with | [_, _], _ => rfl
def b__law_seq : MS := (sSeq (sRet (xIf (xTest (xOp2 oEq (xCall m__law_draw [] (aCons (xVar 0) (aCons (xC (.int 2)) aNil))) (xC (.int 0)))) (xCB oList (aCons (xVar 1) aNil)) (xCB oTuple (aCons (xVar 1) aNil)))) sNil)
def m__law_seq : MF := runF 2 b__law_seq
theorem ok__law_seq (Z : Fs K mg) (TB : ∀ p ∈ TF, TabB base mg (cT K (p, none)).1 (cT K (p, none)).2) : FnOk PP w K mg base (CX PP w) 2 (ga K "_law_seq") Z.fd__law_seq [("box" : Str), ("row" : Str)] (spF (Γm K mg) 2 m__law_seq) :=
  fn_mirD (P := PP) (w := w) (mg := mg) (base := base) (Γ := Γm K mg) (k := 1) (N := [("box" : Str), ("row" : Str)]) (b := b__law_seq) Z.F__law_seq sc__law_seq (fun cdv A outer s H E lk hcd hr =>
 (fss_cons (fs_ret (fe_if (ft_cmp (op_eqA ⟨rfl, rfl⟩ hr) o_eq (fe_call (ok__law_draw Z TB) (hr.mono (by omega)) takes_cx (by rfl) Z.g__law_draw Z.F__law_draw.kp (bd__law_draw Z) .nil (fun _ _ => rfl) (fa_cons (fe_var (i := 0) rfl (by first | exact .inl rfl | exact .inr (.inl rfl) | exact .inr (.inr rfl))) (fa_cons fe_int fa_nil)) (len_cons (len_cons len_nil)) rfl) fe_int rfl) (fe_callTz call_list_of (o_list ⟨rfl, rfl⟩) (by rfl) Z.f_list (by decide +kernel) (fa_cons (fe_var (i := 1) rfl (by first | exact .inl rfl | exact .inr (.inl rfl) | exact .inr (.inr rfl))) fa_nil)) (fe_callT call_tuple_of (o_tuple ⟨rfl, rfl⟩) (by rfl) Z.f_tuple (by decide +kernel) (fa_cons (fe_var (i := 1) rfl (by first | exact .inl rfl | exact .inr (.inl rfl) | exact .inr (.inr rfl))) fa_nil))))
 fss_nil))
theorem sc__law_neg : FnScope [("one" : Str)] [("one" : Str)] (defScope (top 35)) := ⟨rfl, rfl, rfl, by decide +kernel, rfl, by decide +kernel, by decide +kernel⟩
theorem nd__law_neg : ([("one" : Str)] : List Str).Nodup := by decide +kernel
theorem bd__law_neg (Z : Fs K mg) : Binds K Z.fd__law_neg [("one" : Str)] [] := Z.F__law_neg.bindsN fun _ _ _ _ _ _ us hl => match us, hl with | [_], _ => rfl
def b__law_neg : MS := (sSeq (sRet (xTup (aCons (xOp2 oSub (xC (.int 0)) (xOp2 oIx (xVar 0) (xC (.int 0)))) (aCons (xOp2 oSub (xC (.int 0)) (xOp2 oIx (xVar 0) (xC (.int 1)))) (aCons (xOp2 oSub (xC (.int 0)) (xOp2 oIx (xVar 0) (xC (.int 2)))) (aCons (xOp2 oSub (xC (.int 0)) (xOp2 oIx (xVar 0) (xC (.int 3)))) aNil)))))) sNil)
def m__law_neg : MF := runF 1 b__law_neg
theorem ok__law_neg (Z : Fs K mg) (TB : ∀ p ∈ TF, TabB base mg (cT K (p, none)).1 (cT K (p, none)).2) : FnOk PP w K mg base (CX PP w) 1 (ga K "_law_neg") Z.fd__law_neg [("one" : Str)] (spF (Γm K mg) 1 m__law_neg) :=
  fn_mirD (P := PP) (w := w) (mg := mg) (base := base) (Γ := Γm K mg) (k := 0) (N := [("one" : Str)]) (b := b__law_neg) Z.F__law_neg sc__law_neg (fun cdv A outer s H E lk hcd hr =>
 (fss_cons (fs_ret (fe_tup (fa_cons (fe_bin op_sub o_sub fe_int (fe_ix (ix_all ⟨rfl, rfl⟩) o_ix (fe_var (i := 0) rfl (by first | exact .inl rfl | exact .inr (.inl rfl) | exact .inr (.inr rfl))) fe_int (fun _ _ => rfl))) (fa_cons (fe_bin op_sub o_sub fe_int (fe_ix (ix_all ⟨rfl, rfl⟩) o_ix (fe_var (i := 0) rfl (by first | exact .inl rfl | exact .inr (.inl rfl) | exact .inr (.inr rfl))) fe_int (fun _ _ => rfl))) (fa_cons (fe_bin op_sub o_sub fe_int (fe_ix (ix_all ⟨rfl, rfl⟩) o_ix (fe_var (i := 0) rfl (by first | exact .inl rfl | exact .inr (.inl rfl) | exact .inr (.inr rfl))) fe_int (fun _ _ => rfl))) (fa_cons (fe_bin op_sub o_sub fe_int (fe_ix (ix_all ⟨rfl, rfl⟩) o_ix (fe_var (i := 0) rfl (by first | exact .inl rfl | exact .inr (.inl rfl) | exact .inr (.inr rfl))) fe_int (fun _ _ => rfl))) fa_nil))))))
 fss_nil))
theorem sc__law_by : FnScope [("one" : Str), ("other" : Str)] [("one" : Str), ("other" : Str)] (defScope (top 34)) := ⟨rfl, rfl, rfl, by decide +kernel, rfl, by decide +kernel, by decide +kernel⟩
theorem nd__law_by : ([("one" : Str), ("other" : Str)] : List Str).Nodup := by decide +kernel
theorem bd__law_by (Z : Fs K mg) : Binds K Z.fd__law_by [("one" : Str), ("other" : Str)] [] := Z.F__law_by.bindsN fun _ _ _ _ _ _ us hl => match us, hl with | [_, _], _ => rfl
def b__law_by : MS := (sSeq (sRet (xTup (aCons (xOp2 oAdd (xOp2 oMul (xOp2 oIx (xVar 0) (xC (.int 0))) (xOp2 oIx (xVar 1) (xC (.int 0)))) (xOp2 oMul (xOp2 oIx (xVar 0) (xC (.int 1))) (xOp2 oIx (xVar 1) (xC (.int 2))))) (aCons (xOp2 oAdd (xOp2 oMul (xOp2 oIx (xVar 0) (xC (.int 0))) (xOp2 oIx (xVar 1) (xC (.int 1)))) (xOp2 oMul (xOp2 oIx (xVar 0) (xC (.int 1))) (xOp2 oIx (xVar 1) (xC (.int 3))))) (aCons (xOp2 oAdd (xOp2 oMul (xOp2 oIx (xVar 0) (xC (.int 2))) (xOp2 oIx (xVar 1) (xC (.int 0)))) (xOp2 oMul (xOp2 oIx (xVar 0) (xC (.int 3))) (xOp2 oIx (xVar 1) (xC (.int 2))))) (aCons (xOp2 oAdd (xOp2 oMul (xOp2 oIx (xVar 0) (xC (.int 2))) (xOp2 oIx (xVar 1) (xC (.int 1)))) (xOp2 oMul (xOp2 oIx (xVar 0) (xC (.int 3))) (xOp2 oIx (xVar 1) (xC (.int 3))))) aNil)))))) sNil)
def m__law_by : MF := runF 2 b__law_by
theorem ok__law_by (Z : Fs K mg) (TB : ∀ p ∈ TF, TabB base mg (cT K (p, none)).1 (cT K (p, none)).2) : FnOk PP w K mg base (CX PP w) 1 (ga K "_law_by") Z.fd__law_by [("one" : Str), ("other" : Str)] (spF (Γm K mg) 2 m__law_by) :=
  fn_mirD (P := PP) (w := w) (mg := mg) (base := base) (Γ := Γm K mg) (k := 0) (N := [("one" : Str), ("other" : Str)]) (b := b__law_by) Z.F__law_by sc__law_by (fun cdv A outer s H E lk hcd hr =>
 (fss_cons (fs_ret (fe_tup (fa_cons (fe_binz (op_addAll ⟨rfl, rfl⟩) o_add (fe_bin (op_mulAll ⟨rfl, rfl⟩) o_mul (fe_ix (ix_all ⟨rfl, rfl⟩) o_ix (fe_var (i := 0) rfl (by first | exact .inl rfl | exact .inr (.inl rfl) | exact .inr (.inr rfl))) fe_int (fun _ _ => rfl)) (fe_ix (ix_all ⟨rfl, rfl⟩) o_ix (fe_var (i := 1) rfl (by first | exact .inl rfl | exact .inr (.inl rfl) | exact .inr (.inr rfl))) fe_int (fun _ _ => rfl))) (fe_bin (op_mulAll ⟨rfl, rfl⟩) o_mul (fe_ix (ix_all ⟨rfl, rfl⟩) o_ix (fe_var (i := 0) rfl (by first | exact .inl rfl | exact .inr (.inl rfl) | exact .inr (.inr rfl))) fe_int (fun _ _ => rfl)) (fe_ix (ix_all ⟨rfl, rfl⟩) o_ix (fe_var (i := 1) rfl (by first | exact .inl rfl | exact .inr (.inl rfl) | exact .inr (.inr rfl))) fe_int (fun _ _ => rfl)))) (fa_cons (fe_binz (op_addAll ⟨rfl, rfl⟩) o_add (fe_bin (op_mulAll ⟨rfl, rfl⟩) o_mul (fe_ix (ix_all ⟨rfl, rfl⟩) o_ix (fe_var (i := 0) rfl (by first | exact .inl rfl | exact .inr (.inl rfl) | exact .inr (.inr rfl))) fe_int (fun _ _ => rfl)) (fe_ix (ix_all ⟨rfl, rfl⟩) o_ix (fe_var (i := 1) rfl (by first | exact .inl rfl | exact .inr (.inl rfl) | exact .inr (.inr rfl))) fe_int (fun _ _ => rfl))) (fe_bin (op_mulAll ⟨rfl, rfl⟩) o_mul (fe_ix (ix_all ⟨rfl, rfl⟩) o_ix (fe_var (i := 0) rfl (by first | exact .inl rfl | exact .inr (.inl rfl) | exact .inr (.inr rfl))) fe_int (fun _ _ => rfl)) (fe_ix (ix_all ⟨rfl, rfl⟩) o_ix (fe_var (i := 1) rfl (by first | exact .inl rfl | exact .inr (.inl rfl) | exact .inr (.inr rfl))) fe_int (fun _ _ => rfl)))) (fa_cons (fe_binz (op_addAll ⟨rfl, rfl⟩) o_add (fe_bin (op_mulAll ⟨rfl, rfl⟩) o_mul (fe_ix (ix_all ⟨rfl, rfl⟩) o_ix (fe_var (i := 0) rfl (by first | exact .inl rfl | exact .inr (.inl rfl) | exact .inr (.inr rfl))) fe_int (fun _ _ => rfl)) (fe_ix (ix_all ⟨rfl, rfl⟩) o_ix (fe_var (i := 1) rfl (by first | exact .inl rfl | exact .inr (.inl rfl) | exact .inr (.inr rfl))) fe_int (fun _ _ => rfl))) (fe_bin (op_mulAll ⟨rfl, rfl⟩) o_mul (fe_ix (ix_all ⟨rfl, rfl⟩) o_ix (fe_var (i := 0) rfl (by first | exact .inl rfl | exact .inr (.inl rfl) | exact .inr (.inr rfl))) fe_int (fun _ _ => rfl)) (fe_ix (ix_all ⟨rfl, rfl⟩) o_ix (fe_var (i := 1) rfl (by first | exact .inl rfl | exact .inr (.inl rfl) | exact .inr (.inr rfl))) fe_int (fun _ _ => rfl)))) (fa_cons (fe_binz (op_addAll ⟨rfl, rfl⟩) o_add (fe_bin (op_mulAll ⟨rfl, rfl⟩) o_mul (fe_ix (ix_all ⟨rfl, rfl⟩) o_ix (fe_var (i := 0) rfl (by first | exact .inl rfl | exact .inr (.inl rfl) | exact .inr (.inr rfl))) fe_int (fun _ _ => rfl)) (fe_ix (ix_all ⟨rfl, rfl⟩) o_ix (fe_var (i := 1) rfl (by first | exact .inl rfl | exact .inr (.inl rfl) | exact .inr (.inr rfl))) fe_int (fun _ _ => rfl))) (fe_bin (op_mulAll ⟨rfl, rfl⟩) o_mul (fe_ix (ix_all ⟨rfl, rfl⟩) o_ix (fe_var (i := 0) rfl (by first | exact .inl rfl | exact .inr (.inl rfl) | exact .inr (.inr rfl))) fe_int (fun _ _ => rfl)) (fe_ix (ix_all ⟨rfl, rfl⟩) o_ix (fe_var (i := 1) rfl (by first | exact .inl rfl | exact .inr (.inl rfl) | exact .inr (.inr rfl))) fe_int (fun _ _ => rfl)))) fa_nil))))))
 fss_nil))
theorem sc__law_cut : FnScope [("one" : Str), ("other" : Str), ("many" : Str)] [("one" : Str), ("other" : Str)] (defScope (top 37)) := ⟨rfl, rfl, rfl, by decide +kernel, rfl, by decide +kernel, by decide +kernel⟩
theorem nd__law_cut : ([("one" : Str), ("other" : Str), ("many" : Str)] : List Str).Nodup := by decide +kernel
theorem bd__law_cut (Z : Fs K mg) : Binds K Z.fd__law_cut [("one" : Str), ("other" : Str)] [] := Z.F__law_cut.bindsN fun _ _ _ _ _ _ us hl => match us, hl with | [_, _], _ => rfl
def b__law_cut : MS := (sSeq (sSet 2 (xOp2 oFdiv (xCB oAbs (aCons (xVar 0) aNil)) (xCB oAbs (aCons (xVar 1) aNil)))) (sSeq (sRet (xIf (xTest (xOp2 oGe (xOp2 oMul (xVar 0) (xVar 1)) (xC (.int 0)))) (xVar 2) (xOp2 oSub (xC (.int 0)) (xVar 2)))) sNil))
def m__law_cut : MF := runF 3 b__law_cut
theorem ok__law_cut (Z : Fs K mg) (TB : ∀ p ∈ TF, TabB base mg (cT K (p, none)).1 (cT K (p, none)).2) : FnOk PP w K mg base (CX PP w) 1 (ga K "_law_cut") Z.fd__law_cut [("one" : Str), ("other" : Str)] (spF (Γm K mg) 2 m__law_cut) :=
  fn_mirD (P := PP) (w := w) (mg := mg) (base := base) (Γ := Γm K mg) (k := 0) (N := [("one" : Str), ("other" : Str), ("many" : Str)]) (b := b__law_cut) Z.F__law_cut sc__law_cut (fun cdv A outer s H E lk hcd hr =>
 (fss_cons (fs_set (i := 2) nd__law_cut rfl (by first | exact .inl rfl | exact .inr rfl) (fe_bin op_fdivA o_fdiv (fe_callB call_abs o_abs (by rfl) Z.f_abs (by decide +kernel) (fa_cons (fe_var (i := 0) rfl (by first | exact .inl rfl | exact .inr (.inl rfl) | exact .inr (.inr rfl))) fa_nil)) (fe_callB call_abs o_abs (by rfl) Z.f_abs (by decide +kernel) (fa_cons (fe_var (i := 1) rfl (by first | exact .inl rfl | exact .inr (.inl rfl) | exact .inr (.inr rfl))) fa_nil))))
 (fss_cons (fs_ret (fe_if (ft_cmp op_geA o_ge (fe_bin (op_mulAll ⟨rfl, rfl⟩) o_mul (fe_var (i := 0) rfl (by first | exact .inl rfl | exact .inr (.inl rfl) | exact .inr (.inr rfl))) (fe_var (i := 1) rfl (by first | exact .inl rfl | exact .inr (.inl rfl) | exact .inr (.inr rfl)))) fe_int rfl) (fe_var (i := 2) rfl (by first | exact .inl rfl | exact .inr (.inl rfl) | exact .inr (.inr rfl))) (fe_bin op_sub o_sub fe_int (fe_var (i := 2) rfl (by first | exact .inl rfl | exact .inr (.inl rfl) | exact .inr (.inr rfl))))))
 fss_nil)))
theorem sc__law_euclid : FnScope [("pair" : Str), ("x" : Str), ("y" : Str), ("found" : Str), ("table" : Str), ("turn" : Str), ("many" : Str)] [("pair" : Str)] (defScope (top 38)) := ⟨rfl, rfl, rfl, by decide +kernel, rfl, by decide +kernel, by decide +kernel⟩
theorem nd__law_euclid : ([("pair" : Str), ("x" : Str), ("y" : Str), ("found" : Str), ("table" : Str), ("turn" : Str), ("many" : Str)] : List Str).Nodup := by decide +kernel
theorem bd__law_euclid (Z : Fs K mg) : Binds K Z.fd__law_euclid [("pair" : Str)] [] := Z.F__law_euclid.bindsN fun _ _ _ _ _ _ us hl => match us, hl with | [_], _ => rfl
def b__law_euclid : MS := (sSeq (sAsg (.tp [(.tp [(.nm 1), (.nm 2)]), (.nm 3), (.nm 4)]) (xTup (aCons (xVar 0) (aCons (xNew aNil) (aCons (xTup (aCons (xC (.int 1)) (aCons (xC (.int 0)) (aCons (xC (.int 0)) (aCons (xC (.int 1)) aNil))))) aNil))))) (sSeq (sFor (xRange1 (aCons (xC (.int 400)) aNil)) (.nm 5) (sSeq (sIf (xTest (xOp2 oNe (xVar 2) (xC (.int 0)))) (sSeq (sSet 6 (xCall m__law_cut [] (aCons (xVar 1) (aCons (xVar 2) aNil)))) (sSeq (sExpr (xMt gAppend (xVar 3) (aCons (xVar 6) aNil))) (sSeq (sSet 4 (xCall m__law_by [] (aCons (xVar 4) (aCons (xTup (aCons (xC (.int 0)) (aCons (xOp2 oSub (xC (.int 0)) (xC (.int 1))) (aCons (xC (.int 1)) (aCons (xVar 6) aNil))))) aNil)))) (sSeq (sPar 1 2 (aCons (xVar 2) (aCons (xOp2 oSub (xOp2 oMul (xVar 6) (xVar 2)) (xVar 1)) aNil))) sNil)))) sNil) sNil)) (sSeq (sRet (xTup (aCons (xCB oTuple (aCons (xVar 3) aNil)) (aCons (xCB oAbs (aCons (xVar 1) aNil)) (aCons (xIf (xTest (xOp2 oGe (xVar 1) (xC (.int 0)))) (xVar 4) (xCall m__law_neg [] (aCons (xVar 4) aNil))) aNil))))) sNil)))
def m__law_euclid : MF := pureF <| runF 7 b__law_euclid
theorem ok__law_euclid (Z : Fs K mg) (TB : ∀ p ∈ TF, TabB base mg (cT K (p, none)).1 (cT K (p, none)).2) : FnOk PP w K mg base (CX PP w) 2 (ga K "_law_euclid") Z.fd__law_euclid [("pair" : Str)] (spF (Γm K mg) 1 m__law_euclid) :=
  FnOk.pure <| fn_mirD (P := PP) (w := w) (mg := mg) (base := base) (Γ := Γm K mg) (k := 1) (N := [("pair" : Str), ("x" : Str), ("y" : Str), ("found" : Str), ("table" : Str), ("turn" : Str), ("many" : Str)]) (b := b__law_euclid) Z.F__law_euclid sc__law_euclid (fun cdv A outer s H E lk hcd hr =>
 (fss_cons (fs_asg (fe_tup (fa_cons (fe_var (i := 0) rfl (by first | exact .inl rfl | exact .inr (.inl rfl) | exact .inr (.inr rfl))) (fa_cons (fe_new fa_nil) (fa_cons (fe_tup (fa_cons fe_int (fa_cons fe_int (fa_cons fe_int (fa_cons fe_int fa_nil))))) fa_nil)))) (fp_tup ⟨rfl, rfl⟩ rfl (fps_cons (fp_tup ⟨rfl, rfl⟩ rfl (fps_cons (fp_name (i := 1) nd__law_euclid rfl (by first | exact .inl rfl | exact .inr rfl)) (fps_cons (fp_name (i := 2) nd__law_euclid rfl (by first | exact .inl rfl | exact .inr rfl)) fps_nil))) (fps_cons (fp_name (i := 3) nd__law_euclid rfl (by first | exact .inl rfl | exact .inr rfl)) (fps_cons (fp_name (i := 4) nd__law_euclid rfl (by first | exact .inl rfl | exact .inr rfl)) fps_nil)))))
 (fss_cons (fs_for passes_cx rfl (fi_range1 (by rfl) Z.f_range (fa_cons fe_int fa_nil)) (fp_name (i := 5) nd__law_euclid rfl (by first | exact .inl rfl | exact .inr rfl)) (fss_cons (fs_if (ft_cmp (op_neA ⟨rfl, rfl⟩ hr) o_ne (fe_var (i := 2) rfl (by first | exact .inl rfl | exact .inr (.inl rfl) | exact .inr (.inr rfl))) fe_int rfl) (fss_cons (fs_set (i := 6) nd__law_euclid rfl (by first | exact .inl rfl | exact .inr rfl) (fe_call (ok__law_cut Z TB) (hr.mono (by omega)) takes_cx (by rfl) Z.g__law_cut Z.F__law_cut.kp (bd__law_cut Z) .nil (fun _ _ => rfl) (fa_cons (fe_var (i := 1) rfl (by first | exact .inl rfl | exact .inr (.inl rfl) | exact .inr (.inr rfl))) (fa_cons (fe_var (i := 2) rfl (by first | exact .inl rfl | exact .inr (.inl rfl) | exact .inr (.inr rfl))) fa_nil)) (len_cons (len_cons len_nil)) rfl))
 (fss_cons (fs_expr (fe_mt ⟨rfl, rfl⟩ PySem.F.plainAttrs_list PySem.F.slot_list_append PySem.F.type_list_append mt_append ok_append (fe_var (i := 3) rfl (by first | exact .inl rfl | exact .inr (.inl rfl) | exact .inr (.inr rfl))) (fa_cons (fe_var (i := 6) rfl (by first | exact .inl rfl | exact .inr (.inl rfl) | exact .inr (.inr rfl))) fa_nil)))
 (fss_cons (fs_set (i := 4) nd__law_euclid rfl (by first | exact .inl rfl | exact .inr rfl) (fe_call (ok__law_by Z TB) (hr.mono (by omega)) takes_cx (by rfl) Z.g__law_by Z.F__law_by.kp (bd__law_by Z) .nil (fun _ _ => rfl) (fa_cons (fe_var (i := 4) rfl (by first | exact .inl rfl | exact .inr (.inl rfl) | exact .inr (.inr rfl))) (fa_cons (fe_tup (fa_cons fe_int (fa_cons (fe_bin op_sub o_sub fe_int fe_int) (fa_cons fe_int (fa_cons (fe_var (i := 6) rfl (by first | exact .inl rfl | exact .inr (.inl rfl) | exact .inr (.inr rfl))) fa_nil))))) fa_nil)) (len_cons (len_cons len_nil)) rfl))
 (fss_cons (fs_par (i := 1) (j := 2) rfl nd__law_euclid rfl rfl (by decide) (by rfl) (by rfl) (fa_cons (fe_var (i := 2) rfl (by first | exact .inl rfl | exact .inr (.inl rfl) | exact .inr (.inr rfl))) (fa_cons (fe_bin op_sub o_sub (fe_bin (op_mulAll ⟨rfl, rfl⟩) o_mul (fe_var (i := 6) rfl (by first | exact .inl rfl | exact .inr (.inl rfl) | exact .inr (.inr rfl))) (fe_var (i := 2) rfl (by first | exact .inl rfl | exact .inr (.inl rfl) | exact .inr (.inr rfl)))) (fe_var (i := 1) rfl (by first | exact .inl rfl | exact .inr (.inl rfl) | exact .inr (.inr rfl)))) fa_nil)) (by rfl))
 fss_nil)))) fss_nil)
 fss_nil))
 (fss_cons (fs_ret (fe_tup (fa_cons (fe_callT call_tuple_of (o_tuple ⟨rfl, rfl⟩) (by rfl) Z.f_tuple (by decide +kernel) (fa_cons (fe_var (i := 3) rfl (by first | exact .inl rfl | exact .inr (.inl rfl) | exact .inr (.inr rfl))) fa_nil)) (fa_cons (fe_callB call_abs o_abs (by rfl) Z.f_abs (by decide +kernel) (fa_cons (fe_var (i := 1) rfl (by first | exact .inl rfl | exact .inr (.inl rfl) | exact .inr (.inr rfl))) fa_nil)) (fa_cons (fe_if (ft_cmp op_geA o_ge (fe_var (i := 1) rfl (by first | exact .inl rfl | exact .inr (.inl rfl) | exact .inr (.inr rfl))) fe_int rfl) (fe_var (i := 4) rfl (by first | exact .inl rfl | exact .inr (.inl rfl) | exact .inr (.inr rfl))) (fe_call (ok__law_neg Z TB) (hr.mono (by omega)) takes_cx (by rfl) Z.g__law_neg Z.F__law_neg.kp (bd__law_neg Z) .nil (fun _ _ => rfl) (fa_cons (fe_var (i := 4) rfl (by first | exact .inl rfl | exact .inr (.inl rfl) | exact .inr (.inr rfl))) fa_nil) (len_cons len_nil) rfl)) fa_nil)))))
 fss_nil))))
theorem sc__law_box : FnScope [("script" : Str), ("salt" : Str), ("cell" : Str), ("cells" : Str), ("blend" : Str)] [("script" : Str), ("salt" : Str)] (defScope (top 32)) := ⟨rfl, rfl, rfl, by decide +kernel, rfl, by decide +kernel, by decide +kernel⟩
theorem nd__law_box : ([("script" : Str), ("salt" : Str), ("cell" : Str), ("cells" : Str), ("blend" : Str)] : List Str).Nodup := by decide +kernel
theorem bd__law_box (Z : Fs K mg) : Binds K Z.fd__law_box [("script" : Str), ("salt" : Str)] [] := Z.F__law_box.bindsN fun _ _ _ _ _ _ us hl => match us, hl with | [_, _], _ => rfl
def b__law_box : MS := (sSeq (sSet 3 (xLc (xIt (xSl (xVar 0) none (some (xC (.int 60))))) (.nm 2) xYes (xCB oAbs (aCons (xCB oInt (aCons (xVar 2) aNil)) aNil)) [2])) (sSeq (sSet 4 (xOp2 oAdd (xC (.int 71563)) (xOp2 oMul (xC (.int 4421)) (xVar 1)))) (sSeq (sFor (xIt (xVar 3)) (.nm 2) (sSeq (sSet 4 (xOp2 oMod (xCB oInt (aCons (xOp2 oAdd (xOp2 oAdd (xOp2 oMul (xVar 4) (xC (.int 16807))) (xOp2 oMod (xCB oInt (aCons (xVar 2) aNil)) (xC (.int 2147483563)))) (xC (.int 67))) aNil)) (xC (.int 2147483647)))) sNil)) (sSeq (sRet (xNew (aCons (xLcN (xIt (xVar 3)) (.nm 2) (xTest (xOp2 oGe (xVar 2) (xOp2 oPow (xC (.int 10)) (xC (.int 18))))) (xVar 2) [2]) (aCons (xVar 4) aNil)))) sNil))))
def m__law_box : MF := runF 5 b__law_box
theorem ok__law_box (Z : Fs K mg) (TB : ∀ p ∈ TF, TabB base mg (cT K (p, none)).1 (cT K (p, none)).2) : FnOk PP w K mg base (CX PP w) 1 (ga K "_law_box") Z.fd__law_box [("script" : Str), ("salt" : Str)] (spF (Γm K mg) 2 m__law_box) :=
  fn_mirD (P := PP) (w := w) (mg := mg) (base := base) (Γ := Γm K mg) (k := 0) (N := [("script" : Str), ("salt" : Str), ("cell" : Str), ("cells" : Str), ("blend" : Str)]) (b := b__law_box) Z.F__law_box sc__law_box (fun cdv A outer s H E lk hcd hr =>
 (fss_cons (fs_setLc (own := [("cell", 2)]) (i := 3) rfl nd__law_box rfl (by rfl) (sw_true (by rfl) (by rfl) (by rfl) (by rfl)) (fi_it ⟨rfl, rfl⟩ (fe_slice ⟨rfl, rfl⟩ (fe_var (i := 0) rfl (by first | exact .inl rfl | exact .inr (.inl rfl) | exact .inr (.inr rfl))) fo_none (fo_some fe_int))) (blkOk_by (by kernel_rfl)) (by decide) (fun _ _ _ _ _ => (fp_name (i := 2) nd__law_box rfl (by first | exact .inl rfl | exact .inr rfl))) (fun _ _ _ _ _ => ft_nil) (fun _ _ _ _ _ => (fe_callB call_abs o_abs (by rfl) Z.f_abs (by decide +kernel) (fa_cons (fe_callT call_int1 o_int (by rfl) Z.f_int (by decide +kernel) (fa_cons (fe_var (i := 2) rfl (by first | exact .inl rfl | exact .inr (.inl rfl) | exact .inr (.inr rfl))) fa_nil)) fa_nil))))
 (fss_cons (fs_set (i := 4) nd__law_box rfl (by first | exact .inl rfl | exact .inr rfl) (fe_binz (op_addAll ⟨rfl, rfl⟩) o_add fe_int (fe_bin (op_mulAll ⟨rfl, rfl⟩) o_mul fe_int (fe_var (i := 1) rfl (by first | exact .inl rfl | exact .inr (.inl rfl) | exact .inr (.inr rfl))))))
 (fss_cons (fs_for passes_cx rfl (fi_it ⟨rfl, rfl⟩ (fe_var (i := 3) rfl (by first | exact .inl rfl | exact .inr (.inl rfl) | exact .inr (.inr rfl)))) (fp_name (i := 2) nd__law_box rfl (by first | exact .inl rfl | exact .inr rfl)) (fss_cons (fs_set (i := 4) nd__law_box rfl (by first | exact .inl rfl | exact .inr rfl) (fe_bin op_modN o_mod (fe_callT call_int1 o_int (by rfl) Z.f_int (by decide +kernel) (fa_cons (fe_binz (op_addAll ⟨rfl, rfl⟩) o_add (fe_binz (op_addAll ⟨rfl, rfl⟩) o_add (fe_bin (op_mulAll ⟨rfl, rfl⟩) o_mul (fe_var (i := 4) rfl (by first | exact .inl rfl | exact .inr (.inl rfl) | exact .inr (.inr rfl))) fe_int) (fe_bin op_modN o_mod (fe_callT call_int1 o_int (by rfl) Z.f_int (by decide +kernel) (fa_cons (fe_var (i := 2) rfl (by first | exact .inl rfl | exact .inr (.inl rfl) | exact .inr (.inr rfl))) fa_nil)) fe_int)) fe_int) fa_nil)) fe_int))
 fss_nil))
 (fss_cons (fs_ret (fe_new (fa_cons (fe_lcN (own := [("cell", 2)]) rfl (by exact nd__law_box) (fi_it ⟨rfl, rfl⟩ (fe_var (i := 3) rfl (by first | exact .inl rfl | exact .inr (.inl rfl) | exact .inr (.inr rfl)))) (blkOk_by (by kernel_rfl)) (by decide) (fun _ _ _ _ _ => (fp_name (i := 2) nd__law_box rfl (by first | exact .inl rfl | exact .inr rfl))) (fun _ _ _ _ _ => (ft_one (ft_cmp op_geA o_ge (fe_var (i := 2) rfl (by first | exact .inl rfl | exact .inr (.inl rfl) | exact .inr (.inr rfl))) (fe_bin op_pow o_pow fe_int fe_int) rfl))) (fun _ _ _ _ _ => (fe_var (i := 2) rfl (by first | exact .inl rfl | exact .inr (.inl rfl) | exact .inr (.inr rfl))))) (fa_cons (fe_var (i := 4) rfl (by first | exact .inl rfl | exact .inr (.inl rfl) | exact .inr (.inr rfl))) fa_nil))))
 fss_nil)))))
theorem sc_law : FnScope [("script" : Str), ("box" : Str), ("turn" : Str), ("pair" : Str), ("row" : Str), ("divisor" : Str), ("table" : Str), ("great" : Str), ("bads" : Str), ("part" : Str)] [("script" : Str)] (defScope (top 41)) := ⟨rfl, rfl, rfl, by decide +kernel, rfl, by decide +kernel, by decide +kernel⟩
theorem nd_law : ([("script" : Str), ("box" : Str), ("turn" : Str), ("pair" : Str), ("row" : Str), ("divisor" : Str), ("table" : Str), ("great" : Str), ("bads" : Str), ("part" : Str)] : List Str).Nodup := by decide +kernel
theorem bd_law (Z : Fs K mg) : Binds K Z.fd_law [("script" : Str)] [] := Z.F_law.bindsN fun _ _ _ _ _ _ us hl => match us, hl with | [_], _ => rfl
def b_law : MS := (sSeq (sSet 1 (xCall m__law_box [] (aCons (xVar 0) (aCons (xC (.int 8)) aNil)))) (sSeq (sFor (xRange1 (aCons (xC (.int 6)) aNil)) (.nm 2) (sSeq (sFor (xIt (xCall m__law_pairs [] (aCons (xVar 1) aNil))) (.nm 3) (sSeq (sAsg (.tp [(.nm 4), (.nm 5), (.nm 6)]) (xCall m__law_euclid [] (aCons (xVar 3) aNil))) (sSeq (sIf (xNot (xTru (xCall (m__law_same 8) [] (aCons (xTup (aCons (xCall m_quotients [] (aCons (xCall m__law_seq [] (aCons (xVar 1) (aCons (xVar 3) aNil))) aNil)) (aCons (xCallK m_quotients ((List.range 1).map .kw) aNil (aCons (xVar 3) aNil)) aNil))) (aCons (xTup (aCons (xVar 4) (aCons (xVar 4) aNil))) aNil))))) (sSeq (sRet (xC (.bl false))) sNil) sNil) (sSeq (sIf (xNot (xTru (xCall (m__law_same 8) [] (aCons (xTup (aCons (xCall m_reduced [] (aCons (xCall m__law_seq [] (aCons (xVar 1) (aCons (xVar 3) aNil))) aNil)) (aCons (xCallK m_reduced ((List.range 1).map .kw) aNil (aCons (xVar 3) aNil)) aNil))) (aCons (xOp2 oMul (xTup (aCons (xTup (aCons (xVar 5) (aCons (xVar 6) aNil))) aNil)) (xC (.int 2))) aNil))))) (sSeq (sRet (xC (.bl false))) sNil) sNil) (sSeq (sIf (xOr (xTest (xOp2 oNe (xVar 5) (xCall m__law_shared [] (aCons (xOp2 oIx (xVar 3) (xC (.int 0))) (aCons (xOp2 oIx (xVar 3) (xC (.int 1))) aNil))))) (xOr (xTest (xOp2 oNe (xOp2 oSub (xOp2 oMul (xOp2 oIx (xVar 6) (xC (.int 0))) (xOp2 oIx (xVar 6) (xC (.int 3)))) (xOp2 oMul (xOp2 oIx (xVar 6) (xC (.int 1))) (xOp2 oIx (xVar 6) (xC (.int 2))))) (xC (.int 1)))) (xTest (xOp2 oGt (xCB oLen (aCons (xVar 4) aNil)) (xC (.int 200)))))) (sSeq (sRet (xC (.bl false))) sNil) sNil) (sSeq (sIf (xAnd (xTest (xOp2 oLt (xCB oMax (aCons (xLc (xIt (xVar 6)) (.nm 9) xYes (xCB oAbs (aCons (xVar 9) aNil)) [9]) aNil)) (xOp2 oPow (xC (.int 10)) (xC (.int 40))))) (xNot (xTru (xCall (m__law_same 8) [] (aCons (xCall m_led_pair [] (aCons (xVar 6) (aCons (xVar 3) aNil))) (aCons (xTup (aCons (xVar 5) (aCons (xC (.int 0)) aNil))) aNil)))))) (sSeq (sRet (xC (.bl false))) sNil) sNil) sNil)))))) sNil)) (sSeq (sSet 7 (xOp2 oPow (xC (.int 10)) (xC (.int 40)))) (sSeq (sSet 8 (xLst (aCons (xC .non) (aCons (xC (.int 3)) (aCons (xC (.str [49, 50])) (aCons (xTup aNil) (aCons (xTup (aCons (xC (.int 1)) aNil)) (aCons (xTup (aCons (xC (.int 1)) (aCons (xC (.int 2)) (aCons (xC (.int 3)) aNil)))) (aCons (xTup (aCons (xC (.int 1)) (aCons (xC .non) aNil))) (aCons (xTup (aCons (xC (.bl true)) (aCons (xC (.int 1)) aNil))) (aCons (xTup (aCons (xC (.int 1)) (aCons (xC (.bl false)) aNil))) (aCons (xTup (aCons (xC (.str [49])) (aCons (xC (.int 1)) aNil))) (aCons (xTup (aCons (xVar 7) (aCons (xC (.int 1)) aNil))) (aCons (xTup (aCons (xC (.int 0)) (aCons (xOp2 oSub (xC (.int 0)) (xVar 7)) aNil))) (aCons (xTup (aCons (xTup (aCons (xC (.int 1)) aNil)) (aCons (xC (.int 2)) aNil))) aNil))))))))))))))) (sSeq (sIf (xOr (xNot (xTru (xCall m__law_all_heard [] (aCons (xC (.glo "quotients")) (aCons (xVar 8) (aCons (xTup (aCons (xC (.str [112, 97, 105, 114])) (aCons (xOp2 oSub (xC (.int 0)) (xC (.int 1))) aNil))) aNil)))))) (xNot (xTru (xCall m__law_all_heard [] (aCons (xC (.glo "reduced")) (aCons (xVar 8) (aCons (xTup (aCons (xC (.str [112, 97, 105, 114])) (aCons (xOp2 oSub (xC (.int 0)) (xC (.int 1))) aNil))) aNil))))))) (sSeq (sRet (xC (.bl false))) sNil) sNil) (sSeq (sIf (xOr (xTest (xOp2 oGt (xCB oLen (aCons (xCall m_quotients [] (aCons (xTup (aCons (xOp2 oSub (xVar 7) (xC (.int 2))) (aCons (xOp2 oSub (xVar 7) (xC (.int 1))) aNil))) aNil)) aNil)) (xC (.int 3)))) (xNot (xTru (xCall (m__law_same 8) [] (aCons (xCall m_reduced [] (aCons (xTup (aCons (xC (.int 0)) (aCons (xC (.int 0)) aNil))) aNil)) (aCons (xTup (aCons (xC (.int 0)) (aCons (xTup (aCons (xC (.int 1)) (aCons (xC (.int 0)) (aCons (xC (.int 0)) (aCons (xC (.int 1)) aNil))))) aNil))) aNil)))))) (sSeq (sRet (xC (.bl false))) sNil) sNil) (sSeq (sRet (xCall (m__law_same 8) [] (aCons (xTup (aCons (xCall m_quotients [] (aCons (xTup (aCons (xC (.int 7)) (aCons (xC (.int 3)) aNil))) aNil)) (aCons (xCall m_reduced [] (aCons (xTup (aCons (xC (.int 7)) (aCons (xC (.int 3)) aNil))) aNil)) (aCons (xCall m_quotients [] (aCons (xTup (aCons (xC (.int 4)) (aCons (xC (.int 5)) aNil))) aNil)) (aCons (xCall m_reduced [] (aCons (xTup (aCons (xOp2 oSub (xC (.int 0)) (xC (.int 6))) (aCons (xC (.int 0)) aNil))) aNil)) aNil))))) (aCons (xTup (aCons (xTup (aCons (xC (.int 2)) (aCons (xOp2 oSub (xC (.int 0)) (xC (.int 3))) aNil))) (aCons (xTup (aCons (xC (.int 1)) (aCons (xTup (aCons (xC (.int 1)) (aCons (xOp2 oSub (xC (.int 0)) (xC (.int 3))) (aCons (xOp2 oSub (xC (.int 0)) (xC (.int 2))) (aCons (xC (.int 7)) aNil))))) aNil))) (aCons (xTup (aCons (xC (.int 0)) (aCons (xOp2 oSub (xC (.int 0)) (xC (.int 1))) (aCons (xC (.int 4)) aNil)))) (aCons (xTup (aCons (xC (.int 6)) (aCons (xTup (aCons (xOp2 oSub (xC (.int 0)) (xC (.int 1))) (aCons (xC (.int 0)) (aCons (xC (.int 0)) (aCons (xOp2 oSub (xC (.int 0)) (xC (.int 1))) aNil))))) aNil))) aNil))))) aNil)))) sNil)))))))
def m_law : MF := runF 10 b_law
theorem ok_law (Z : Fs K mg) (TB : ∀ p ∈ TF, TabB base mg (cT K (p, none)).1 (cT K (p, none)).2) : FnOk PP w K mg base (CX PP w) 10 (ga K "law") Z.fd_law [("script" : Str)] (spF (Γm K mg) 1 m_law) :=
  fn_mirD (P := PP) (w := w) (mg := mg) (base := base) (Γ := Γm K mg) (k := 9) (N := [("script" : Str), ("box" : Str), ("turn" : Str), ("pair" : Str), ("row" : Str), ("divisor" : Str), ("table" : Str), ("great" : Str), ("bads" : Str), ("part" : Str)]) (b := b_law) Z.F_law sc_law (fun cdv A outer s H E lk hcd hr =>
 (fss_cons (fs_set (i := 1) nd_law rfl (by first | exact .inl rfl | exact .inr rfl) (fe_call (ok__law_box Z TB) (hr.mono (by omega)) takes_cx (by rfl) Z.g__law_box Z.F__law_box.kp (bd__law_box Z) .nil (fun _ _ => rfl) (fa_cons (fe_var (i := 0) rfl (by first | exact .inl rfl | exact .inr (.inl rfl) | exact .inr (.inr rfl))) (fa_cons fe_int fa_nil)) (len_cons (len_cons len_nil)) rfl))
 (fss_cons (fs_for passes_cx rfl (fi_range1 (by rfl) Z.f_range (fa_cons fe_int fa_nil)) (fp_name (i := 2) nd_law rfl (by first | exact .inl rfl | exact .inr rfl)) (fss_cons (fs_for passes_cx rfl (fi_it ⟨rfl, rfl⟩ (fe_call (ok__law_pairs Z TB) (hr.mono (by omega)) takes_cx (by rfl) Z.g__law_pairs Z.F__law_pairs.kp (bd__law_pairs Z) .nil (fun _ _ => rfl) (fa_cons (fe_var (i := 1) rfl (by first | exact .inl rfl | exact .inr (.inl rfl) | exact .inr (.inr rfl))) fa_nil) (len_cons len_nil) rfl)) (fp_name (i := 3) nd_law rfl (by first | exact .inl rfl | exact .inr rfl)) (fss_cons (fs_asg (fe_call (ok__law_euclid Z TB) (hr.mono (by omega)) takes_cx (by rfl) Z.g__law_euclid Z.F__law_euclid.kp (bd__law_euclid Z) .nil (fun _ _ => rfl) (fa_cons (fe_var (i := 3) rfl (by first | exact .inl rfl | exact .inr (.inl rfl) | exact .inr (.inr rfl))) fa_nil) (len_cons len_nil) rfl) (fp_tup ⟨rfl, rfl⟩ rfl (fps_cons (fp_name (i := 4) nd_law rfl (by first | exact .inl rfl | exact .inr rfl)) (fps_cons (fp_name (i := 5) nd_law rfl (by first | exact .inl rfl | exact .inr rfl)) (fps_cons (fp_name (i := 6) nd_law rfl (by first | exact .inl rfl | exact .inr rfl)) fps_nil)))))
 (fss_cons (fs_if (ft_not (ft_tru ⟨rfl, rfl⟩ (fe_call (ok__law_same Z TB 8) (hr.mono (by omega)) takes_cx (by rfl) Z.g__law_same Z.F__law_same.kp (bd__law_same Z) .nil (fun _ _ => rfl) (fa_cons (fe_tup (fa_cons (fe_call (ok_quotients Z TB) (hr.mono (by omega)) takes_cx (by rfl) Z.g_quotients Z.F_quotients.kp (bd_quotients Z) .nil (fun _ _ => rfl) (fa_cons (fe_call (ok__law_seq Z TB) (hr.mono (by omega)) takes_cx (by rfl) Z.g__law_seq Z.F__law_seq.kp (bd__law_seq Z) .nil (fun _ _ => rfl) (fa_cons (fe_var (i := 1) rfl (by first | exact .inl rfl | exact .inr (.inl rfl) | exact .inr (.inr rfl))) (fa_cons (fe_var (i := 3) rfl (by first | exact .inl rfl | exact .inr (.inl rfl) | exact .inr (.inr rfl))) fa_nil)) (len_cons (len_cons len_nil)) rfl) fa_nil) (len_cons len_nil) rfl) (fa_cons (fe_callK0 (ok_quotients Z TB) (hr.mono (by omega)) takes_cx (by rfl) Z.g_quotients Z.F_quotients.kp (kbAll (kb_quotients Z)) (fk_cons (fe_var (i := 3) rfl (by first | exact .inl rfl | exact .inr (.inl rfl) | exact .inr (.inr rfl))) fk_nil) (len_cons len_nil) rfl) fa_nil))) (fa_cons (fe_tup (fa_cons (fe_var (i := 4) rfl (by first | exact .inl rfl | exact .inr (.inl rfl) | exact .inr (.inr rfl))) (fa_cons (fe_var (i := 4) rfl (by first | exact .inl rfl | exact .inr (.inl rfl) | exact .inr (.inr rfl))) fa_nil))) fa_nil)) (len_cons (len_cons len_nil)) rfl))) (fss_cons (fs_ret fe_bl)
 fss_nil) fss_nil)
 (fss_cons (fs_if (ft_not (ft_tru ⟨rfl, rfl⟩ (fe_call (ok__law_same Z TB 8) (hr.mono (by omega)) takes_cx (by rfl) Z.g__law_same Z.F__law_same.kp (bd__law_same Z) .nil (fun _ _ => rfl) (fa_cons (fe_tup (fa_cons (fe_call (ok_reduced Z TB) (hr.mono (by omega)) takes_cx (by rfl) Z.g_reduced Z.F_reduced.kp (bd_reduced Z) .nil (fun _ _ => rfl) (fa_cons (fe_call (ok__law_seq Z TB) (hr.mono (by omega)) takes_cx (by rfl) Z.g__law_seq Z.F__law_seq.kp (bd__law_seq Z) .nil (fun _ _ => rfl) (fa_cons (fe_var (i := 1) rfl (by first | exact .inl rfl | exact .inr (.inl rfl) | exact .inr (.inr rfl))) (fa_cons (fe_var (i := 3) rfl (by first | exact .inl rfl | exact .inr (.inl rfl) | exact .inr (.inr rfl))) fa_nil)) (len_cons (len_cons len_nil)) rfl) fa_nil) (len_cons len_nil) rfl) (fa_cons (fe_callK0 (ok_reduced Z TB) (hr.mono (by omega)) takes_cx (by rfl) Z.g_reduced Z.F_reduced.kp (kbAll (kb_reduced Z)) (fk_cons (fe_var (i := 3) rfl (by first | exact .inl rfl | exact .inr (.inl rfl) | exact .inr (.inr rfl))) fk_nil) (len_cons len_nil) rfl) fa_nil))) (fa_cons (fe_bin (op_mulAll ⟨rfl, rfl⟩) o_mul (fe_tup (fa_cons (fe_tup (fa_cons (fe_var (i := 5) rfl (by first | exact .inl rfl | exact .inr (.inl rfl) | exact .inr (.inr rfl))) (fa_cons (fe_var (i := 6) rfl (by first | exact .inl rfl | exact .inr (.inl rfl) | exact .inr (.inr rfl))) fa_nil))) fa_nil)) fe_int) fa_nil)) (len_cons (len_cons len_nil)) rfl))) (fss_cons (fs_ret fe_bl)
 fss_nil) fss_nil)
 (fss_cons (fs_if (ft_w (fw_or (ft_cmp (op_neA ⟨rfl, rfl⟩ hr) o_ne (fe_var (i := 5) rfl (by first | exact .inl rfl | exact .inr (.inl rfl) | exact .inr (.inr rfl))) (fe_call (ok__law_shared Z TB) (hr.mono (by omega)) takes_cx (by rfl) Z.g__law_shared Z.F__law_shared.kp (bd__law_shared Z) .nil (fun _ _ => rfl) (fa_cons (fe_ix (ix_all ⟨rfl, rfl⟩) o_ix (fe_var (i := 3) rfl (by first | exact .inl rfl | exact .inr (.inl rfl) | exact .inr (.inr rfl))) fe_int (fun _ _ => rfl)) (fa_cons (fe_ix (ix_all ⟨rfl, rfl⟩) o_ix (fe_var (i := 3) rfl (by first | exact .inl rfl | exact .inr (.inl rfl) | exact .inr (.inr rfl))) fe_int (fun _ _ => rfl)) fa_nil)) (len_cons (len_cons len_nil)) rfl) rfl) (fw_or (ft_cmp (op_neA ⟨rfl, rfl⟩ hr) o_ne (fe_bin op_sub o_sub (fe_bin (op_mulAll ⟨rfl, rfl⟩) o_mul (fe_ix (ix_all ⟨rfl, rfl⟩) o_ix (fe_var (i := 6) rfl (by first | exact .inl rfl | exact .inr (.inl rfl) | exact .inr (.inr rfl))) fe_int (fun _ _ => rfl)) (fe_ix (ix_all ⟨rfl, rfl⟩) o_ix (fe_var (i := 6) rfl (by first | exact .inl rfl | exact .inr (.inl rfl) | exact .inr (.inr rfl))) fe_int (fun _ _ => rfl))) (fe_bin (op_mulAll ⟨rfl, rfl⟩) o_mul (fe_ix (ix_all ⟨rfl, rfl⟩) o_ix (fe_var (i := 6) rfl (by first | exact .inl rfl | exact .inr (.inl rfl) | exact .inr (.inr rfl))) fe_int (fun _ _ => rfl)) (fe_ix (ix_all ⟨rfl, rfl⟩) o_ix (fe_var (i := 6) rfl (by first | exact .inl rfl | exact .inr (.inl rfl) | exact .inr (.inr rfl))) fe_int (fun _ _ => rfl)))) fe_int rfl) (fw_or1 (ft_cmp op_gtA o_gt (fe_callB call_len (o_len ⟨rfl, rfl⟩) (by rfl) Z.f_len (by decide +kernel) (fa_cons (fe_var (i := 4) rfl (by first | exact .inl rfl | exact .inr (.inl rfl) | exact .inr (.inr rfl))) fa_nil)) fe_int rfl))))) (fss_cons (fs_ret fe_bl)
 fss_nil) fss_nil)
 (fss_cons (fs_if (ft_w (fw_and (ft_cmp op_ltA o_lt (fe_callB (CallR.or' (call_max2 rfl) (cr_max rfl)) o_max (by rfl) Z.f_max (by decide +kernel) (fa_cons (fe_lc (own := [("part", 9)]) rfl (by exact nd_law) (fi_it ⟨rfl, rfl⟩ (fe_var (i := 6) rfl (by first | exact .inl rfl | exact .inr (.inl rfl) | exact .inr (.inr rfl)))) (blkOk_by (by kernel_rfl)) (by decide) (fun _ _ _ _ _ => (fp_name (i := 9) nd_law rfl (by first | exact .inl rfl | exact .inr rfl))) (fun _ _ _ _ _ => ft_nil) (fun _ _ _ _ _ => (fe_callB call_abs o_abs (by rfl) Z.f_abs (by decide +kernel) (fa_cons (fe_var (i := 9) rfl (by first | exact .inl rfl | exact .inr (.inl rfl) | exact .inr (.inr rfl))) fa_nil)))) fa_nil)) (fe_bin op_pow o_pow fe_int fe_int) rfl) (fw_and1 (ft_not (ft_tru ⟨rfl, rfl⟩ (fe_call (ok__law_same Z TB 8) (hr.mono (by omega)) takes_cx (by rfl) Z.g__law_same Z.F__law_same.kp (bd__law_same Z) .nil (fun _ _ => rfl) (fa_cons (fe_call (ok_led_pair Z TB) (hr.mono (by omega)) takes_cx (by rfl) Z.g_led_pair Z.F_led_pair.kp (bd_led_pair Z) .nil (fun _ _ => rfl) (fa_cons (fe_var (i := 6) rfl (by first | exact .inl rfl | exact .inr (.inl rfl) | exact .inr (.inr rfl))) (fa_cons (fe_var (i := 3) rfl (by first | exact .inl rfl | exact .inr (.inl rfl) | exact .inr (.inr rfl))) fa_nil)) (len_cons (len_cons len_nil)) rfl) (fa_cons (fe_tup (fa_cons (fe_var (i := 5) rfl (by first | exact .inl rfl | exact .inr (.inl rfl) | exact .inr (.inr rfl))) (fa_cons fe_int fa_nil))) fa_nil)) (len_cons (len_cons len_nil)) rfl)))))) (fss_cons (fs_ret fe_bl)
 fss_nil) fss_nil)
 fss_nil))))))
 fss_nil))
 (fss_cons (fs_set (i := 7) nd_law rfl (by first | exact .inl rfl | exact .inr rfl) (fe_bin op_pow o_pow fe_int fe_int))
 (fss_cons (fs_set (i := 8) nd_law rfl (by first | exact .inl rfl | exact .inr rfl) (fe_lst (fa_cons fe_non (fa_cons fe_int (fa_cons (fe_str (l := [49, 50]) (by decide +kernel)) (fa_cons (fe_tup fa_nil) (fa_cons (fe_tup (fa_cons fe_int fa_nil)) (fa_cons (fe_tup (fa_cons fe_int (fa_cons fe_int (fa_cons fe_int fa_nil)))) (fa_cons (fe_tup (fa_cons fe_int (fa_cons fe_non fa_nil))) (fa_cons (fe_tup (fa_cons fe_bl (fa_cons fe_int fa_nil))) (fa_cons (fe_tup (fa_cons fe_int (fa_cons fe_bl fa_nil))) (fa_cons (fe_tup (fa_cons (fe_str (l := [49]) (by decide +kernel)) (fa_cons fe_int fa_nil))) (fa_cons (fe_tup (fa_cons (fe_var (i := 7) rfl (by first | exact .inl rfl | exact .inr (.inl rfl) | exact .inr (.inr rfl))) (fa_cons fe_int fa_nil))) (fa_cons (fe_tup (fa_cons fe_int (fa_cons (fe_bin op_sub o_sub fe_int (fe_var (i := 7) rfl (by first | exact .inl rfl | exact .inr (.inl rfl) | exact .inr (.inr rfl)))) fa_nil))) (fa_cons (fe_tup (fa_cons (fe_tup (fa_cons fe_int fa_nil)) (fa_cons fe_int fa_nil))) fa_nil)))))))))))))))
 (fss_cons (fs_if (ft_w (fw_or (ft_not (ft_tru ⟨rfl, rfl⟩ (fe_call (ok__law_all_heard Z TB) (hr.mono (by omega)) takes_cx (by rfl) Z.g__law_all_heard Z.F__law_all_heard.kp (bd__law_all_heard Z) .nil (fun _ _ => rfl) (fa_cons (fe_fn ⟨rfl, rfl⟩ (by rfl) Z.g_quotients Z.F_quotients.kp) (fa_cons (fe_var (i := 8) rfl (by first | exact .inl rfl | exact .inr (.inl rfl) | exact .inr (.inr rfl))) (fa_cons (fe_tup (fa_cons (fe_str (l := [112, 97, 105, 114]) (by decide +kernel)) (fa_cons (fe_bin op_sub o_sub fe_int fe_int) fa_nil))) fa_nil))) (len_cons (len_cons (len_cons len_nil))) rfl))) (fw_or1 (ft_not (ft_tru ⟨rfl, rfl⟩ (fe_call (ok__law_all_heard Z TB) (hr.mono (by omega)) takes_cx (by rfl) Z.g__law_all_heard Z.F__law_all_heard.kp (bd__law_all_heard Z) .nil (fun _ _ => rfl) (fa_cons (fe_fn ⟨rfl, rfl⟩ (by rfl) Z.g_reduced Z.F_reduced.kp) (fa_cons (fe_var (i := 8) rfl (by first | exact .inl rfl | exact .inr (.inl rfl) | exact .inr (.inr rfl))) (fa_cons (fe_tup (fa_cons (fe_str (l := [112, 97, 105, 114]) (by decide +kernel)) (fa_cons (fe_bin op_sub o_sub fe_int fe_int) fa_nil))) fa_nil))) (len_cons (len_cons (len_cons len_nil))) rfl)))))) (fss_cons (fs_ret fe_bl)
 fss_nil) fss_nil)
 (fss_cons (fs_if (ft_w (fw_or (ft_cmp op_gtA o_gt (fe_callB call_len (o_len ⟨rfl, rfl⟩) (by rfl) Z.f_len (by decide +kernel) (fa_cons (fe_call (ok_quotients Z TB) (hr.mono (by omega)) takes_cx (by rfl) Z.g_quotients Z.F_quotients.kp (bd_quotients Z) .nil (fun _ _ => rfl) (fa_cons (fe_tup (fa_cons (fe_bin op_sub o_sub (fe_var (i := 7) rfl (by first | exact .inl rfl | exact .inr (.inl rfl) | exact .inr (.inr rfl))) fe_int) (fa_cons (fe_bin op_sub o_sub (fe_var (i := 7) rfl (by first | exact .inl rfl | exact .inr (.inl rfl) | exact .inr (.inr rfl))) fe_int) fa_nil))) fa_nil) (len_cons len_nil) rfl) fa_nil)) fe_int rfl) (fw_or1 (ft_not (ft_tru ⟨rfl, rfl⟩ (fe_call (ok__law_same Z TB 8) (hr.mono (by omega)) takes_cx (by rfl) Z.g__law_same Z.F__law_same.kp (bd__law_same Z) .nil (fun _ _ => rfl) (fa_cons (fe_call (ok_reduced Z TB) (hr.mono (by omega)) takes_cx (by rfl) Z.g_reduced Z.F_reduced.kp (bd_reduced Z) .nil (fun _ _ => rfl) (fa_cons (fe_tup (fa_cons fe_int (fa_cons fe_int fa_nil))) fa_nil) (len_cons len_nil) rfl) (fa_cons (fe_tup (fa_cons fe_int (fa_cons (fe_tup (fa_cons fe_int (fa_cons fe_int (fa_cons fe_int (fa_cons fe_int fa_nil))))) fa_nil))) fa_nil)) (len_cons (len_cons len_nil)) rfl)))))) (fss_cons (fs_ret fe_bl)
 fss_nil) fss_nil)
 (fss_cons (fs_ret (fe_call (ok__law_same Z TB 8) (hr.mono (by omega)) takes_cx (by rfl) Z.g__law_same Z.F__law_same.kp (bd__law_same Z) .nil (fun _ _ => rfl) (fa_cons (fe_tup (fa_cons (fe_call (ok_quotients Z TB) (hr.mono (by omega)) takes_cx (by rfl) Z.g_quotients Z.F_quotients.kp (bd_quotients Z) .nil (fun _ _ => rfl) (fa_cons (fe_tup (fa_cons fe_int (fa_cons fe_int fa_nil))) fa_nil) (len_cons len_nil) rfl) (fa_cons (fe_call (ok_reduced Z TB) (hr.mono (by omega)) takes_cx (by rfl) Z.g_reduced Z.F_reduced.kp (bd_reduced Z) .nil (fun _ _ => rfl) (fa_cons (fe_tup (fa_cons fe_int (fa_cons fe_int fa_nil))) fa_nil) (len_cons len_nil) rfl) (fa_cons (fe_call (ok_quotients Z TB) (hr.mono (by omega)) takes_cx (by rfl) Z.g_quotients Z.F_quotients.kp (bd_quotients Z) .nil (fun _ _ => rfl) (fa_cons (fe_tup (fa_cons fe_int (fa_cons fe_int fa_nil))) fa_nil) (len_cons len_nil) rfl) (fa_cons (fe_call (ok_reduced Z TB) (hr.mono (by omega)) takes_cx (by rfl) Z.g_reduced Z.F_reduced.kp (bd_reduced Z) .nil (fun _ _ => rfl) (fa_cons (fe_tup (fa_cons (fe_bin op_sub o_sub fe_int fe_int) (fa_cons fe_int fa_nil))) fa_nil) (len_cons len_nil) rfl) fa_nil))))) (fa_cons (fe_tup (fa_cons (fe_tup (fa_cons fe_int (fa_cons (fe_bin op_sub o_sub fe_int fe_int) fa_nil))) (fa_cons (fe_tup (fa_cons fe_int (fa_cons (fe_tup (fa_cons fe_int (fa_cons (fe_bin op_sub o_sub fe_int fe_int) (fa_cons (fe_bin op_sub o_sub fe_int fe_int) (fa_cons fe_int fa_nil))))) fa_nil))) (fa_cons (fe_tup (fa_cons fe_int (fa_cons (fe_bin op_sub o_sub fe_int fe_int) (fa_cons fe_int fa_nil)))) (fa_cons (fe_tup (fa_cons fe_int (fa_cons (fe_tup (fa_cons (fe_bin op_sub o_sub fe_int fe_int) (fa_cons fe_int (fa_cons fe_int (fa_cons (fe_bin op_sub o_sub fe_int fe_int) fa_nil))))) fa_nil))) fa_nil))))) fa_nil)) (len_cons (len_cons len_nil)) rfl))
 fss_nil))))))))
end
end Lw
end
section
set_option Elab.async false
set_option linter.all false
set_option maxRecDepth 100000
set_option maxHeartbeats 0
namespace Lw
open PySem PySem.Spec PyProof.Rows L2 LamX He MP
def fa : List Fa := [.glo "_law_is_int", .glo "_law_tells", .glo "_law_same", .glo "minus_of", .glo "times_of", .glo "cut_off", .glo "steps_told", .glo "reduced_told", .glo "is_integer", .glo "is_light", .glo "is_sequence", .glo "is_row_of", .glo "need_pair", .glo "reduced", .glo "quotients", .glo "_law_place", .glo "_law_heard", .glo "_law_all_heard", .glo "_law_draw", .glo "_law_pick", .glo "_law_pairs", .glo "led_told", .glo "is_table", .glo "need_table", .glo "led_pair", .glo "_law_shared", .glo "_law_seq", .glo "_law_neg", .glo "_law_by", .glo "_law_cut", .glo "_law_euclid", .glo "_law_box", .glo "law", .glo "InvalidPair", .glo "InvalidTable", .free "abs", .free "all", .free "bool", .free "int", .free "isinstance", .free "len", .free "list", .free "max", .free "range", .free "str", .free "super", .free "tuple", .noat "InvalidPair" "at", .noat "InvalidTable" "at", .exm "InvalidPair" "InvalidPair" true, .exm "InvalidTable" "InvalidPair" false]
def d__law_is_int : DefD := ⟨("_law_is_int", none), "_law_is_int", "_law_is_int", defArgs (top 25), defBody (top 25), defScope (top 25), [], []⟩
def d__law_tells : DefD := ⟨("_law_tells", none), "_law_tells", "_law_tells", defArgs (top 28), defBody (top 28), defScope (top 28), [], []⟩
def d__law_same : DefD := ⟨("_law_same", none), "_law_same", "_law_same", defArgs (top 26), defBody (top 26), defScope (top 26), [], []⟩
def d_minus_of : DefD := ⟨("minus_of", none), "minus_of", "minus_of", defArgs (top 16), defBody (top 16), defScope (top 16), [], []⟩
def d_times_of : DefD := ⟨("times_of", none), "times_of", "times_of", defArgs (top 15), defBody (top 15), defScope (top 15), [], []⟩
def d_cut_off : DefD := ⟨("cut_off", none), "cut_off", "cut_off", defArgs (top 19), defBody (top 19), defScope (top 19), [], []⟩
def d_steps_told : DefD := ⟨("steps_told", none), "steps_told", "steps_told", defArgs (top 20), defBody (top 20), defScope (top 20), [], []⟩
def d_reduced_told : DefD := ⟨("reduced_told", none), "reduced_told", "reduced_told", defArgs (top 22), defBody (top 22), defScope (top 22), [], []⟩
def d_is_integer : DefD := ⟨("is_integer", none), "is_integer", "is_integer", defArgs (top 5), defBody (top 5), defScope (top 5), [], []⟩
def d_is_light : DefD := ⟨("is_light", none), "is_light", "is_light", defArgs (top 11), defBody (top 11), defScope (top 11), [], []⟩
def d_is_sequence : DefD := ⟨("is_sequence", none), "is_sequence", "is_sequence", defArgs (top 6), defBody (top 6), defScope (top 6), [], []⟩
def d_is_row_of : DefD := ⟨("is_row_of", none), "is_row_of", "is_row_of", defArgs (top 7), defBody (top 7), defScope (top 7), [], []⟩
def d_need_pair : DefD := ⟨("need_pair", none), "need_pair", "need_pair", defArgs (top 14), defBody (top 14), defScope (top 14), [.int (-1)], []⟩
def d_reduced : DefD := ⟨("reduced", none), "reduced", "reduced", defArgs (top 23), defBody (top 23), defScope (top 23), [], []⟩
def d_quotients : DefD := ⟨("quotients", none), "quotients", "quotients", defArgs (top 21), defBody (top 21), defScope (top 21), [], []⟩
def d__law_place : DefD := ⟨("_law_place", none), "_law_place", "_law_place", defArgs (top 29), defBody (top 29), defScope (top 29), [], []⟩
def d__law_heard : DefD := ⟨("_law_heard", none), "_law_heard", "_law_heard", defArgs (top 27), defBody (top 27), defScope (top 27), [], []⟩
def d__law_all_heard : DefD := ⟨("_law_all_heard", none), "_law_all_heard", "_law_all_heard", defArgs (top 36), defBody (top 36), defScope (top 36), [], []⟩
def d__law_draw : DefD := ⟨("_law_draw", none), "_law_draw", "_law_draw", defArgs (top 30), defBody (top 30), defScope (top 30), [], []⟩
def d__law_pick : DefD := ⟨("_law_pick", none), "_law_pick", "_law_pick", defArgs (top 31), defBody (top 31), defScope (top 31), [], []⟩
def d__law_pairs : DefD := ⟨("_law_pairs", none), "_law_pairs", "_law_pairs", defArgs (top 40), defBody (top 40), defScope (top 40), [], []⟩
def d_led_told : DefD := ⟨("led_told", none), "led_told", "led_told", defArgs (top 17), defBody (top 17), defScope (top 17), [], []⟩
def d_is_table : DefD := ⟨("is_table", none), "is_table", "is_table", defArgs (top 12), defBody (top 12), defScope (top 12), [], []⟩
def d_need_table : DefD := ⟨("need_table", none), "need_table", "need_table", defArgs (top 13), defBody (top 13), defScope (top 13), [.int (-1)], []⟩
def d_led_pair : DefD := ⟨("led_pair", none), "led_pair", "led_pair", defArgs (top 18), defBody (top 18), defScope (top 18), [], []⟩
def d__law_shared : DefD := ⟨("_law_shared", none), "_law_shared", "_law_shared", defArgs (top 39), defBody (top 39), defScope (top 39), [], []⟩
def d__law_seq : DefD := ⟨("_law_seq", none), "_law_seq", "_law_seq", defArgs (top 33), defBody (top 33), defScope (top 33), [], []⟩
def d__law_neg : DefD := ⟨("_law_neg", none), "_law_neg", "_law_neg", defArgs (top 35), defBody (top 35), defScope (top 35), [], []⟩
def d__law_by : DefD := ⟨("_law_by", none), "_law_by", "_law_by", defArgs (top 34), defBody (top 34), defScope (top 34), [], []⟩
def d__law_cut : DefD := ⟨("_law_cut", none), "_law_cut", "_law_cut", defArgs (top 37), defBody (top 37), defScope (top 37), [], []⟩
def d__law_euclid : DefD := ⟨("_law_euclid", none), "_law_euclid", "_law_euclid", defArgs (top 38), defBody (top 38), defScope (top 38), [], []⟩
def d__law_box : DefD := ⟨("_law_box", none), "_law_box", "_law_box", defArgs (top 32), defBody (top 32), defScope (top 32), [], []⟩
def d_law : DefD := ⟨("law", none), "law", "law", defArgs (top 41), defBody (top 41), defScope (top 41), [], []⟩
def fn : List DefD := [d__law_is_int, d__law_tells, d__law_same, d_minus_of, d_times_of, d_cut_off, d_steps_told, d_reduced_told, d_is_integer, d_is_light, d_is_sequence, d_is_row_of, d_need_pair, d_reduced, d_quotients, d__law_place, d__law_heard, d__law_all_heard, d__law_draw, d__law_pick, d__law_pairs, d_led_told, d_is_table, d_need_table, d_led_pair, d__law_shared, d__law_seq, d__law_neg, d__law_by, d__law_cut, d__law_euclid, d__law_box, d_law]
def ini : List IniD := [ini_InvalidPair, ini_InvalidTable]
def tf : List Defn := TF.map fun f => (f, none)
def csts : List (Str × D) := [("LIMIT", .int 10000000000000000000000000000000000000000), ("ONE", .tup [.int 1, .int 0, .int 0, .int 1])]
def ex (K : PySem.W.Frag) : Bool := csts.all (cstB K) && (ini.all (iniB PP.main.file K) && decide (TF.map fun f => (cT K (f, none)).2).Nodup)
abbrev R : PySem.W.OpenRow := PySem.W.OpenLaw.row RW
abbrev hk : PySem.W.Hook := hookM 6 fa fn ini tf ex
def ob (s : PySem.W.SharedT) : AlM := obsM 6 fa fn ini tf ex (HandSHeadRun.getT s)
theorem ob_eq (s : PySem.W.SharedT) : ob s = hk.obs s.abs := obsM_eq (HandSHeadRun.getT_eq s)
def loose : List Str := [("is_integer" : Str), ("is_sequence" : Str), ("is_row_of" : Str), ("is_light" : Str), ("is_table" : Str), ("need_table" : Str), ("need_pair" : Str), ("times_of" : Str), ("minus_of" : Str), ("led_told" : Str), ("led_pair" : Str), ("cut_off" : Str), ("steps_told" : Str), ("quotients" : Str), ("reduced_told" : Str), ("reduced" : Str), ("_law_is_int" : Str), ("_law_same" : Str), ("_law_heard" : Str), ("_law_tells" : Str), ("_law_place" : Str), ("_law_draw" : Str), ("_law_pick" : Str), ("_law_box" : Str), ("_law_seq" : Str), ("_law_by" : Str), ("_law_neg" : Str), ("_law_all_heard" : Str), ("_law_cut" : Str), ("_law_euclid" : Str), ("_law_shared" : Str), ("_law_pairs" : Str), ("LedError" : Str), ("InvalidTable" : Str), ("InvalidPair" : Str), ("LIMIT" : Str), ("ONE" : Str)]
theorem run (w : World) : HandSHeadRun.RunEq R (PySem.W.view R.prog [41]) hk ob 4000 loose w := by
  intro os
  kernel_rfl
theorem facts {K : PySem.W.Frag} {h : Heap} {mg : Str → Option Value} (X : K.In h) (G : h.Ns mainGlobals mg) (c : SaysM fa fn ini tf ex h K) : Nonempty (Fs K mg) := by
  obtain ⟨m1, m2⟩ := ba c.more
  obtain ⟨m2, m3⟩ := ba m2
  obtain ⟨fd__law_is_int, F__law_is_int⟩ := c.d.def_ 0 (d := d__law_is_int) rfl
  obtain ⟨fd__law_tells, F__law_tells⟩ := c.d.def_ 1 (d := d__law_tells) rfl
  obtain ⟨fd__law_same, F__law_same⟩ := c.d.def_ 2 (d := d__law_same) rfl
  obtain ⟨fd_minus_of, F_minus_of⟩ := c.d.def_ 3 (d := d_minus_of) rfl
  obtain ⟨fd_times_of, F_times_of⟩ := c.d.def_ 4 (d := d_times_of) rfl
  obtain ⟨fd_cut_off, F_cut_off⟩ := c.d.def_ 5 (d := d_cut_off) rfl
  obtain ⟨fd_steps_told, F_steps_told⟩ := c.d.def_ 6 (d := d_steps_told) rfl
  obtain ⟨fd_reduced_told, F_reduced_told⟩ := c.d.def_ 7 (d := d_reduced_told) rfl
  obtain ⟨fd_is_integer, F_is_integer⟩ := c.d.def_ 8 (d := d_is_integer) rfl
  obtain ⟨fd_is_light, F_is_light⟩ := c.d.def_ 9 (d := d_is_light) rfl
  obtain ⟨fd_is_sequence, F_is_sequence⟩ := c.d.def_ 10 (d := d_is_sequence) rfl
  obtain ⟨fd_is_row_of, F_is_row_of⟩ := c.d.def_ 11 (d := d_is_row_of) rfl
  obtain ⟨fd_need_pair, F_need_pair⟩ := c.d.def_ 12 (d := d_need_pair) rfl
  obtain ⟨fd_reduced, F_reduced⟩ := c.d.def_ 13 (d := d_reduced) rfl
  obtain ⟨fd_quotients, F_quotients⟩ := c.d.def_ 14 (d := d_quotients) rfl
  obtain ⟨fd__law_place, F__law_place⟩ := c.d.def_ 15 (d := d__law_place) rfl
  obtain ⟨fd__law_heard, F__law_heard⟩ := c.d.def_ 16 (d := d__law_heard) rfl
  obtain ⟨fd__law_all_heard, F__law_all_heard⟩ := c.d.def_ 17 (d := d__law_all_heard) rfl
  obtain ⟨fd__law_draw, F__law_draw⟩ := c.d.def_ 18 (d := d__law_draw) rfl
  obtain ⟨fd__law_pick, F__law_pick⟩ := c.d.def_ 19 (d := d__law_pick) rfl
  obtain ⟨fd__law_pairs, F__law_pairs⟩ := c.d.def_ 20 (d := d__law_pairs) rfl
  obtain ⟨fd_led_told, F_led_told⟩ := c.d.def_ 21 (d := d_led_told) rfl
  obtain ⟨fd_is_table, F_is_table⟩ := c.d.def_ 22 (d := d_is_table) rfl
  obtain ⟨fd_need_table, F_need_table⟩ := c.d.def_ 23 (d := d_need_table) rfl
  obtain ⟨fd_led_pair, F_led_pair⟩ := c.d.def_ 24 (d := d_led_pair) rfl
  obtain ⟨fd__law_shared, F__law_shared⟩ := c.d.def_ 25 (d := d__law_shared) rfl
  obtain ⟨fd__law_seq, F__law_seq⟩ := c.d.def_ 26 (d := d__law_seq) rfl
  obtain ⟨fd__law_neg, F__law_neg⟩ := c.d.def_ 27 (d := d__law_neg) rfl
  obtain ⟨fd__law_by, F__law_by⟩ := c.d.def_ 28 (d := d__law_by) rfl
  obtain ⟨fd__law_cut, F__law_cut⟩ := c.d.def_ 29 (d := d__law_cut) rfl
  obtain ⟨fd__law_euclid, F__law_euclid⟩ := c.d.def_ 30 (d := d__law_euclid) rfl
  obtain ⟨fd__law_box, F__law_box⟩ := c.d.def_ 31 (d := d__law_box) rfl
  obtain ⟨fd_law, F_law⟩ := c.d.def_ 32 (d := d_law) rfl
  exact ⟨{
    fd__law_is_int := fd__law_is_int
    F__law_is_int := F__law_is_int
    fd__law_tells := fd__law_tells
    F__law_tells := F__law_tells
    fd__law_same := fd__law_same
    F__law_same := F__law_same
    fd_minus_of := fd_minus_of
    F_minus_of := F_minus_of
    fd_times_of := fd_times_of
    F_times_of := F_times_of
    fd_cut_off := fd_cut_off
    F_cut_off := F_cut_off
    fd_steps_told := fd_steps_told
    F_steps_told := F_steps_told
    fd_reduced_told := fd_reduced_told
    F_reduced_told := F_reduced_told
    fd_is_integer := fd_is_integer
    F_is_integer := F_is_integer
    fd_is_light := fd_is_light
    F_is_light := F_is_light
    fd_is_sequence := fd_is_sequence
    F_is_sequence := F_is_sequence
    fd_is_row_of := fd_is_row_of
    F_is_row_of := F_is_row_of
    fd_need_pair := fd_need_pair
    F_need_pair := F_need_pair
    fd_reduced := fd_reduced
    F_reduced := F_reduced
    fd_quotients := fd_quotients
    F_quotients := F_quotients
    fd__law_place := fd__law_place
    F__law_place := F__law_place
    fd__law_heard := fd__law_heard
    F__law_heard := F__law_heard
    fd__law_all_heard := fd__law_all_heard
    F__law_all_heard := F__law_all_heard
    fd__law_draw := fd__law_draw
    F__law_draw := F__law_draw
    fd__law_pick := fd__law_pick
    F__law_pick := F__law_pick
    fd__law_pairs := fd__law_pairs
    F__law_pairs := F__law_pairs
    fd_led_told := fd_led_told
    F_led_told := F_led_told
    fd_is_table := fd_is_table
    F_is_table := F_is_table
    fd_need_table := fd_need_table
    F_need_table := F_need_table
    fd_led_pair := fd_led_pair
    F_led_pair := F_led_pair
    fd__law_shared := fd__law_shared
    F__law_shared := F__law_shared
    fd__law_seq := fd__law_seq
    F__law_seq := F__law_seq
    fd__law_neg := fd__law_neg
    F__law_neg := F__law_neg
    fd__law_by := fd__law_by
    F__law_by := F__law_by
    fd__law_cut := fd__law_cut
    F__law_cut := F__law_cut
    fd__law_euclid := fd__law_euclid
    F__law_euclid := F__law_euclid
    fd__law_box := fd__law_box
    F__law_box := F__law_box
    fd_law := fd_law
    F_law := F_law
    g__law_is_int := glo_ok X G (c.d.fact 0 (f := .glo "_law_is_int") rfl)
    g__law_tells := glo_ok X G (c.d.fact 1 (f := .glo "_law_tells") rfl)
    g__law_same := glo_ok X G (c.d.fact 2 (f := .glo "_law_same") rfl)
    g_minus_of := glo_ok X G (c.d.fact 3 (f := .glo "minus_of") rfl)
    g_times_of := glo_ok X G (c.d.fact 4 (f := .glo "times_of") rfl)
    g_cut_off := glo_ok X G (c.d.fact 5 (f := .glo "cut_off") rfl)
    g_steps_told := glo_ok X G (c.d.fact 6 (f := .glo "steps_told") rfl)
    g_reduced_told := glo_ok X G (c.d.fact 7 (f := .glo "reduced_told") rfl)
    g_is_integer := glo_ok X G (c.d.fact 8 (f := .glo "is_integer") rfl)
    g_is_light := glo_ok X G (c.d.fact 9 (f := .glo "is_light") rfl)
    g_is_sequence := glo_ok X G (c.d.fact 10 (f := .glo "is_sequence") rfl)
    g_is_row_of := glo_ok X G (c.d.fact 11 (f := .glo "is_row_of") rfl)
    g_need_pair := glo_ok X G (c.d.fact 12 (f := .glo "need_pair") rfl)
    g_reduced := glo_ok X G (c.d.fact 13 (f := .glo "reduced") rfl)
    g_quotients := glo_ok X G (c.d.fact 14 (f := .glo "quotients") rfl)
    g__law_place := glo_ok X G (c.d.fact 15 (f := .glo "_law_place") rfl)
    g__law_heard := glo_ok X G (c.d.fact 16 (f := .glo "_law_heard") rfl)
    g__law_all_heard := glo_ok X G (c.d.fact 17 (f := .glo "_law_all_heard") rfl)
    g__law_draw := glo_ok X G (c.d.fact 18 (f := .glo "_law_draw") rfl)
    g__law_pick := glo_ok X G (c.d.fact 19 (f := .glo "_law_pick") rfl)
    g__law_pairs := glo_ok X G (c.d.fact 20 (f := .glo "_law_pairs") rfl)
    g_led_told := glo_ok X G (c.d.fact 21 (f := .glo "led_told") rfl)
    g_is_table := glo_ok X G (c.d.fact 22 (f := .glo "is_table") rfl)
    g_need_table := glo_ok X G (c.d.fact 23 (f := .glo "need_table") rfl)
    g_led_pair := glo_ok X G (c.d.fact 24 (f := .glo "led_pair") rfl)
    g__law_shared := glo_ok X G (c.d.fact 25 (f := .glo "_law_shared") rfl)
    g__law_seq := glo_ok X G (c.d.fact 26 (f := .glo "_law_seq") rfl)
    g__law_neg := glo_ok X G (c.d.fact 27 (f := .glo "_law_neg") rfl)
    g__law_by := glo_ok X G (c.d.fact 28 (f := .glo "_law_by") rfl)
    g__law_cut := glo_ok X G (c.d.fact 29 (f := .glo "_law_cut") rfl)
    g__law_euclid := glo_ok X G (c.d.fact 30 (f := .glo "_law_euclid") rfl)
    g__law_box := glo_ok X G (c.d.fact 31 (f := .glo "_law_box") rfl)
    g_law := glo_ok X G (c.d.fact 32 (f := .glo "law") rfl)
    g_InvalidPair := glo_ok X G (c.d.fact 33 (f := .glo "InvalidPair") rfl)
    g_InvalidTable := glo_ok X G (c.d.fact 34 (f := .glo "InvalidTable") rfl)
    f_abs := free_ok X G (c.d.fact 35 (f := .free "abs") rfl)
    f_all := free_ok X G (c.d.fact 36 (f := .free "all") rfl)
    f_bool := free_ok X G (c.d.fact 37 (f := .free "bool") rfl)
    f_int := free_ok X G (c.d.fact 38 (f := .free "int") rfl)
    f_isinstance := free_ok X G (c.d.fact 39 (f := .free "isinstance") rfl)
    f_len := free_ok X G (c.d.fact 40 (f := .free "len") rfl)
    f_list := free_ok X G (c.d.fact 41 (f := .free "list") rfl)
    f_max := free_ok X G (c.d.fact 42 (f := .free "max") rfl)
    f_range := free_ok X G (c.d.fact 43 (f := .free "range") rfl)
    f_str := free_ok X G (c.d.fact 44 (f := .free "str") rfl)
    f_super := free_ok X G (c.d.fact 45 (f := .free "super") rfl)
    f_tuple := free_ok X G (c.d.fact 46 (f := .free "tuple") rfl)
    n_InvalidPair_at := noat_ok (c.d.fact 47 (f := .noat "InvalidPair" "at") rfl)
    n_InvalidTable_at := noat_ok (c.d.fact 48 (f := .noat "InvalidTable" "at") rfl)
    e_InvalidPair_InvalidPair := exm_ok (c.d.fact 49 (f := .exm "InvalidPair" "InvalidPair" true) rfl)
    e_InvalidTable_InvalidPair := exm_ok (c.d.fact 50 (f := .exm "InvalidTable" "InvalidPair" false) rfl)
    c_LIMIT := cstB_ok X G (List.all_eq_true.mp m1 _ (by simp [csts]))
    c_ONE := cstB_ok X G (List.all_eq_true.mp m1 _ (by simp [csts]))
    X_InvalidPair := iniB_ok (P := PP) (List.all_eq_true.mp m2 ini_InvalidPair (by simp [ini])) (c.init 0 (d := ini_InvalidPair) rfl) rfl
    X_InvalidTable := iniB_ok (P := PP) (List.all_eq_true.mp m2 ini_InvalidTable (by simp [ini])) (c.init 1 (d := ini_InvalidTable) rfl) rfl
    nd := of_decide_eq_true m3 }⟩
end Lw
end
section
set_option Elab.async false
set_option linter.all false
set_option maxRecDepth 100000
set_option maxHeartbeats 0
namespace Lw
open PySem PySem.Spec PyProof.Rows L2 LamX He MP
/-- the plain law -/
def Plain : Prop := ∀ ns : List Int, ns.length ≤ 63 → (∀ z ∈ ns, Builtin.Int.intBits z ≤ 1048576) → ∃ h, m_law [.lst (ns.map D.int)] [] = .ok (.bl true) h
end Lw
open PySem PySem.W PySem.Calls PyProof.Rows
theorem Lw.holds (pl : Lw.Plain) : PySem.Challenge.rw_twoled_k08_whole_euclid_and_the_greatest.Holds := by
  w_on; o_law
  refine HandSHeadRun.head_any (r := OpenLaw.row PySem.Challenge.rw_twoled_k08_whole_euclid_and_the_greatest) (q := view (OpenLaw.row PySem.Challenge.rw_twoled_k08_whole_euclid_and_the_greatest).prog [41]) (H := Lw.hk) (ob := Lw.ob) (M := 4000) (loose := Lw.loose) (d := HandSHeadRun.topDef (OpenLaw.row PySem.Challenge.rw_twoled_k08_whole_euclid_and_the_greatest).prog 41) (kwd := []) Lw.ob_eq
    (by kernel_rfl) (fun s => by kernel_rfl) Lw.run (by kernel_rfl) (by kernel_rfl) (by kernel_rfl) (by rfl) (by first | assumption | decide +kernel) (by decide +kernel) ⟨rfl, rfl, rfl, rfl, rfl, by decide +kernel⟩ ?hw ?hc
  case hw => w_witness2
  case hc =>
    refine MP.walk_ofM (l := PySem.Challenge.rw_twoled_k08_whole_euclid_and_the_greatest) (n := 63) (k := 10) (x := "script") (CX := fun w => L2.CX PySem.Challenge.rw_twoled_k08_whole_euclid_and_the_greatest.prog w) rfl (by decide) (by kernel_rfl) ⟨rfl, by decide, by decide⟩ ?F (fun w H s e s' z => by obtain ⟨_, _, _, _, _, _, _, _, _, _, _, _, q⟩ := z; exact q)
    intro w mg fa h Y G hmg0
    obtain ⟨K, KX, c⟩ := Y
    have hmg : mg ("law" : PySem.Str) = some (.ref fa) := by
      have e : (HandSHeadRun.topDef (OpenLaw.row PySem.Challenge.rw_twoled_k08_whole_euclid_and_the_greatest).prog 41).name = ("law" : PySem.Str) := by kernel_rfl
      rw [← e]
      exact hmg0
    obtain ⟨Z⟩ := Lw.facts KX G c
    have e := hmg.symm.trans Z.g_law
    cases e
    exact ⟨K, KX, MP.lawAt_of (l := PySem.Challenge.rw_twoled_k08_whole_euclid_and_the_greatest) (tf := Lw.TF) (lam := Lw.lamTab) (m := Lw.m_law) (fd := Z.fd_law) KX c (fun s u => Z.F_law.bindsA (ps := ["script"]) (fun _ _ _ _ _ _ us hl => match us, hl with | [_], _ => rfl) s [u] rfl) (fun base TB => Lw.ok_law Z TB) pl⟩
end
section
set_option Elab.async false
set_option linter.all false
set_option maxRecDepth 100000
set_option maxHeartbeats 4000000
namespace Lw
open PySem PySem.Spec PyProof.Rows L2 LamX He MP
abbrev light (i : Int) : Prop := -10000000000000000000000000000000000000000 < i ∧ i < 10000000000000000000000000000000000000000
section
variable {h t : List MO} {P : D → List MO → Prop} {X : Ex → List MO → Prop}
theorem light.sm {i : Int} (k : light i) : Sm 140 i := by unfold light at k; unfold Sm; omega
theorem integer_ok {i : Int} (q : P (.bl true) h) : OkX (m_is_integer [.int i] h) P X := by
  unfold m_is_integer; rw [w_run]; unfold b_is_integer
  simp (dsimp := false) only [isi_ii, isi_bi, ↓Kp_app, ↓w_seq, ↓w_sNil, ↓w_set, ↓w_ret, ↓w_retN, ↓w_sIf, ↓w_expr, ↓w_par, ↓w_par3, ↓w_asg, ↓w_aug, ↓w_sub, ↓w_for, ↓w_raise, ↓w_break, ↓w_cont, ↓w_op2, ↓w_op1, ↓w_cb, ↓w_c, ↓w_var, ↓w_nil, ↓w_cons, ↓w_tup, ↓w_lst, ↓w_new, ↓w_if, ↓w_test, ↓w_tru, ↓w_not, ↓w_and, ↓w_or, ↓w_andV, ↓w_orV, ↓w_notV, ↓w_chain, ↓w_call, ↓w_callK, ↓w_sl, ↓w_part0, ↓w_part1, ↓w_isi, ↓w_join, ↓w_mt, ↓w_lc, ↓w_lcN, ↓w_lcA, ↓w_it, ↓w_range1, ↓w_range2, ↓w_enum, ↓w_enumS, ↓w_zip,   OkX_ok, OkX_err, OkX_stuck, OkX_guard, o_addS, o_addT, o_addLL, o_addRL, o_addII, o_subI, o_mulI, o_mulS, o_fdivI, o_modI, o_powI, o_negI, o_ltI, o_leI, o_gtI, o_geI, o_ltS, o_leS, o_gtS, o_geS, o_eqI, o_eqS, o_neI, o_neS, o_isD, o_isnotD, o_inS, o_ixS, o_ixT, o_ixL, o_ixR, o_slS, o_slT, o_slL, o_slR, o_lenS, o_lenT, o_lenL, o_lenR, o_absI, o_intI, o_intB, o_tupT, o_tupL, o_tupR, o_maxI, o_minI,   List.set_cons_zero, List.set_cons_succ, List.getElem?_cons_zero, List.getElem?_cons_succ, List.map_cons, List.map_nil, List.length_cons, List.length_nil, List.replicate_succ, List.replicate_zero, List.cons_append, List.nil_append, Nat.reduceSub, Nat.reduceAdd, Nat.reduceLeDiff, exists_eq_left', D.bl.injEq, D.int.injEq, D.str.injEq, D.ref.injEq, D.tup.injEq, true_and, and_true, if_true, if_false, Bool.false_eq_true, Bool.not_true, Bool.not_false, decide_true, decide_false, bindP, bindPs, isK, atI_0, atI_1, atI_2, atI_3, ixN_0, ixN_1, Nat.zero_add, LINE, Nat.zero_le, truD, wipeD, Option.some.injEq]
  exact q
theorem islight_ok {i : Int} (k : light i) (q : P (.bl true) h) : OkX (m_is_light [.int i] h) P X := by
  unfold m_is_light; rw [w_run]; unfold b_is_light
  simp (dsimp := false) only [↓Kp_app, ↓w_seq, ↓w_sNil, ↓w_set, ↓w_ret, ↓w_retN, ↓w_sIf, ↓w_expr, ↓w_par, ↓w_par3, ↓w_asg, ↓w_aug, ↓w_sub, ↓w_for, ↓w_raise, ↓w_break, ↓w_cont, ↓w_op2, ↓w_op1, ↓w_cb, ↓w_c, ↓w_var, ↓w_nil, ↓w_cons, ↓w_tup, ↓w_lst, ↓w_new, ↓w_if, ↓w_test, ↓w_tru, ↓w_not, ↓w_and, ↓w_or, ↓w_andV, ↓w_orV, ↓w_notV, ↓w_chain, ↓w_call, ↓w_callK, ↓w_sl, ↓w_part0, ↓w_part1, ↓w_isi, ↓w_join, ↓w_mt, ↓w_lc, ↓w_lcN, ↓w_lcA, ↓w_it, ↓w_range1, ↓w_range2, ↓w_enum, ↓w_enumS, ↓w_zip,   OkX_ok, OkX_err, OkX_stuck, OkX_guard, o_addS, o_addT, o_addLL, o_addRL, o_addII, o_subI, o_mulI, o_mulS, o_fdivI, o_modI, o_powI, o_negI, o_ltI, o_leI, o_gtI, o_geI, o_ltS, o_leS, o_gtS, o_geS, o_eqI, o_eqS, o_neI, o_neS, o_isD, o_isnotD, o_inS, o_ixS, o_ixT, o_ixL, o_ixR, o_slS, o_slT, o_slL, o_slR, o_lenS, o_lenT, o_lenL, o_lenR, o_absI, o_intI, o_intB, o_tupT, o_tupL, o_tupR, o_maxI, o_minI,   List.set_cons_zero, List.set_cons_succ, List.getElem?_cons_zero, List.getElem?_cons_succ, List.map_cons, List.map_nil, List.length_cons, List.length_nil, List.replicate_succ, List.replicate_zero, List.cons_append, List.nil_append, Nat.reduceSub, Nat.reduceAdd, Nat.reduceLeDiff, exists_eq_left', D.bl.injEq, D.int.injEq, D.str.injEq, D.ref.injEq, D.tup.injEq, true_and, and_true, if_true, if_false, Bool.false_eq_true, Bool.not_true, Bool.not_false, decide_true, decide_false, bindP, bindPs, isK, atI_0, atI_1, atI_2, atI_3, ixN_0, ixN_1, Nat.zero_add, LINE, Nat.zero_le, truD, wipeD, Option.some.injEq]
  refine integer_ok ?_
  simp (dsimp := false) only [↓Kp_app, ↓w_seq, ↓w_sNil, ↓w_set, ↓w_ret, ↓w_retN, ↓w_sIf, ↓w_expr, ↓w_par, ↓w_par3, ↓w_asg, ↓w_aug, ↓w_sub, ↓w_for, ↓w_raise, ↓w_break, ↓w_cont, ↓w_op2, ↓w_op1, ↓w_cb, ↓w_c, ↓w_var, ↓w_nil, ↓w_cons, ↓w_tup, ↓w_lst, ↓w_new, ↓w_if, ↓w_test, ↓w_tru, ↓w_not, ↓w_and, ↓w_or, ↓w_andV, ↓w_orV, ↓w_notV, ↓w_chain, ↓w_call, ↓w_callK, ↓w_sl, ↓w_part0, ↓w_part1, ↓w_isi, ↓w_join, ↓w_mt, ↓w_lc, ↓w_lcN, ↓w_lcA, ↓w_it, ↓w_range1, ↓w_range2, ↓w_enum, ↓w_enumS, ↓w_zip,   OkX_ok, OkX_err, OkX_stuck, OkX_guard, o_addS, o_addT, o_addLL, o_addRL, o_addII, o_subI, o_mulI, o_mulS, o_fdivI, o_modI, o_powI, o_negI, o_ltI, o_leI, o_gtI, o_geI, o_ltS, o_leS, o_gtS, o_geS, o_eqI, o_eqS, o_neI, o_neS, o_isD, o_isnotD, o_inS, o_ixS, o_ixT, o_ixL, o_ixR, o_slS, o_slT, o_slL, o_slR, o_lenS, o_lenT, o_lenL, o_lenR, o_absI, o_intI, o_intB, o_tupT, o_tupL, o_tupR, o_maxI, o_minI,   List.set_cons_zero, List.set_cons_succ, List.getElem?_cons_zero, List.getElem?_cons_succ, List.map_cons, List.map_nil, List.length_cons, List.length_nil, List.replicate_succ, List.replicate_zero, List.cons_append, List.nil_append, Nat.reduceSub, Nat.reduceAdd, Nat.reduceLeDiff, exists_eq_left', D.bl.injEq, D.int.injEq, D.str.injEq, D.ref.injEq, D.tup.injEq, true_and, and_true, if_true, if_false, Bool.false_eq_true, Bool.not_true, Bool.not_false, decide_true, decide_false, bindP, bindPs, isK, atI_0, atI_1, atI_2, atI_3, ixN_0, ixN_1, Nat.zero_add, LINE, Nat.zero_le, truD, wipeD, Option.some.injEq]
  have e1 : decide (-10000000000000000000000000000000000000000 < i) = true := by rw [decide_eq_true_eq]; exact k.1
  have e2 : decide (i < 10000000000000000000000000000000000000000) = true := by rw [decide_eq_true_eq]; exact k.2
  rw [e1, e2]
  exact q
theorem all_two {P : D → List MO → Prop} {X : Ex → List MO → Prop} : OkX (oAll [.lst [.bl true, .bl true]] h) P X = P (.bl true) h := id rfl
theorem need_ok {v : D} {x y at_ : Int} (hv : v = .tup [.int x, .int y] ∨ v = .lst [.int x, .int y]) (hx : light x) (hy : light y) (q : P (dP (x, y)) h) : OkX (m_need_pair [v, .int at_] h) P X := by
  have isl : ∀ {P : List D → List MO → Prop}, P [.bl true, .bl true] h → OkX (loopC (.nm 2) xYes (xCall m_is_light [] (aCons (xVar 2) aNil)) ⟨[.int x, .int y], none⟩ [some v, some (.int at_), none] [.int x, .int y] [] h) P X := fun {P} p => by
    refine w_loopC (fun i : Int => D.int i) (fun l a h' => a = l.map (fun _ => D.bl true) ∧ h' = h) (fun _ _ _ _ => by rfl) [x, y] h ⟨rfl, rfl⟩ (fun l i r a h' e i' => ?_) (fun a h' i' => ?_)
    · obtain ⟨rfl, rfl⟩ := i'
      refine ⟨_, rfl, ?_⟩
      show OkX (Res.ok true h') _ _
      rw [OkX_ok, if_pos rfl]
      simp (dsimp := false) only [↓Kp_app, ↓w_seq, ↓w_sNil, ↓w_set, ↓w_ret, ↓w_retN, ↓w_sIf, ↓w_expr, ↓w_par, ↓w_par3, ↓w_asg, ↓w_aug, ↓w_sub, ↓w_for, ↓w_raise, ↓w_break, ↓w_cont, ↓w_op2, ↓w_op1, ↓w_cb, ↓w_c, ↓w_var, ↓w_nil, ↓w_cons, ↓w_tup, ↓w_lst, ↓w_new, ↓w_if, ↓w_test, ↓w_tru, ↓w_not, ↓w_and, ↓w_or, ↓w_andV, ↓w_orV, ↓w_notV, ↓w_chain, ↓w_call, ↓w_callK, ↓w_sl, ↓w_part0, ↓w_part1, ↓w_isi, ↓w_join, ↓w_mt, ↓w_lc, ↓w_lcN, ↓w_lcA, ↓w_it, ↓w_range1, ↓w_range2, ↓w_enum, ↓w_enumS, ↓w_zip,   OkX_ok, OkX_err, OkX_stuck, OkX_guard, o_addS, o_addT, o_addLL, o_addRL, o_addII, o_subI, o_mulI, o_mulS, o_fdivI, o_modI, o_powI, o_negI, o_ltI, o_leI, o_gtI, o_geI, o_ltS, o_leS, o_gtS, o_geS, o_eqI, o_eqS, o_neI, o_neS, o_isD, o_isnotD, o_inS, o_ixS, o_ixT, o_ixL, o_ixR, o_slS, o_slT, o_slL, o_slR, o_lenS, o_lenT, o_lenL, o_lenR, o_absI, o_intI, o_intB, o_tupT, o_tupL, o_tupR, o_maxI, o_minI,   List.set_cons_zero, List.set_cons_succ, List.getElem?_cons_zero, List.getElem?_cons_succ, List.map_cons, List.map_nil, List.length_cons, List.length_nil, List.replicate_succ, List.replicate_zero, List.cons_append, List.nil_append, Nat.reduceSub, Nat.reduceAdd, Nat.reduceLeDiff, exists_eq_left', D.bl.injEq, D.int.injEq, D.str.injEq, D.ref.injEq, D.tup.injEq, true_and, and_true, if_true, if_false, Bool.false_eq_true, Bool.not_true, Bool.not_false, decide_true, decide_false, bindP, bindPs, isK, atI_0, atI_1, atI_2, atI_3, ixN_0, ixN_1, Nat.zero_add, LINE, Nat.zero_le, truD, wipeD, Option.some.injEq]
      have hi : light i := by
        have : i ∈ [x, y] := by rw [e]; simp
        rcases List.mem_cons.mp this with rfl | this
        · exact hx
        · rw [List.mem_singleton.mp this]; exact hy
      refine islight_ok hi ⟨?_, by simp, rfl⟩
      have := congrArg List.length e
      simp at this
      simp [LINE]; omega
    · obtain ⟨rfl, rfl⟩ := i'
      exact p
  unfold m_need_pair; rw [w_run]; unfold b_need_pair
  rcases hv with rfl | rfl
  · simp (dsimp := false) only [↓Kp_app, ↓w_seq, ↓w_sNil, ↓w_set, ↓w_ret, ↓w_retN, ↓w_sIf, ↓w_expr, ↓w_par, ↓w_par3, ↓w_asg, ↓w_aug, ↓w_sub, ↓w_for, ↓w_raise, ↓w_break, ↓w_cont, ↓w_op2, ↓w_op1, ↓w_cb, ↓w_c, ↓w_var, ↓w_nil, ↓w_cons, ↓w_tup, ↓w_lst, ↓w_new, ↓w_if, ↓w_test, ↓w_tru, ↓w_not, ↓w_and, ↓w_or, ↓w_andV, ↓w_orV, ↓w_notV, ↓w_chain, ↓w_call, ↓w_callK, ↓w_sl, ↓w_part0, ↓w_part1, ↓w_isi, ↓w_join, ↓w_mt, ↓w_lc, ↓w_lcN, ↓w_lcA, ↓w_it, ↓w_range1, ↓w_range2, ↓w_enum, ↓w_enumS, ↓w_zip,   OkX_ok, OkX_err, OkX_stuck, OkX_guard, o_addS, o_addT, o_addLL, o_addRL, o_addII, o_subI, o_mulI, o_mulS, o_fdivI, o_modI, o_powI, o_negI, o_ltI, o_leI, o_gtI, o_geI, o_ltS, o_leS, o_gtS, o_geS, o_eqI, o_eqS, o_neI, o_neS, o_isD, o_isnotD, o_inS, o_ixS, o_ixT, o_ixL, o_ixR, o_slS, o_slT, o_slL, o_slR, o_lenS, o_lenT, o_lenL, o_lenR, o_absI, o_intI, o_intB, o_tupT, o_tupL, o_tupR, o_maxI, o_minI,   List.set_cons_zero, List.set_cons_succ, List.getElem?_cons_zero, List.getElem?_cons_succ, List.map_cons, List.map_nil, List.length_cons, List.length_nil, List.replicate_succ, List.replicate_zero, List.cons_append, List.nil_append, Nat.reduceSub, Nat.reduceAdd, Nat.reduceLeDiff, exists_eq_left', D.bl.injEq, D.int.injEq, D.str.injEq, D.ref.injEq, D.tup.injEq, true_and, and_true, if_true, if_false, Bool.false_eq_true, Bool.not_true, Bool.not_false, decide_true, decide_false, bindP, bindPs, isK, atI_0, atI_1, atI_2, atI_3, ixN_0, ixN_1, Nat.zero_add, LINE, Nat.zero_le, truD, wipeD, Option.some.injEq]
    have e1 : ∀ {P : D → List MO → Prop} {X : Ex → List MO → Prop}, P (.bl true) h → OkX (m_is_row_of [.tup [.int x, .int y], .int 2] h) P X := fun p => p
    refine e1 ?_
    simp (dsimp := false) only [itemsD, ↓Kp_app, ↓w_seq, ↓w_sNil, ↓w_set, ↓w_ret, ↓w_retN, ↓w_sIf, ↓w_expr, ↓w_par, ↓w_par3, ↓w_asg, ↓w_aug, ↓w_sub, ↓w_for, ↓w_raise, ↓w_break, ↓w_cont, ↓w_op2, ↓w_op1, ↓w_cb, ↓w_c, ↓w_var, ↓w_nil, ↓w_cons, ↓w_tup, ↓w_lst, ↓w_new, ↓w_if, ↓w_test, ↓w_tru, ↓w_not, ↓w_and, ↓w_or, ↓w_andV, ↓w_orV, ↓w_notV, ↓w_chain, ↓w_call, ↓w_callK, ↓w_sl, ↓w_part0, ↓w_part1, ↓w_isi, ↓w_join, ↓w_mt, ↓w_lc, ↓w_lcN, ↓w_lcA, ↓w_it, ↓w_range1, ↓w_range2, ↓w_enum, ↓w_enumS, ↓w_zip,   OkX_ok, OkX_err, OkX_stuck, OkX_guard, o_addS, o_addT, o_addLL, o_addRL, o_addII, o_subI, o_mulI, o_mulS, o_fdivI, o_modI, o_powI, o_negI, o_ltI, o_leI, o_gtI, o_geI, o_ltS, o_leS, o_gtS, o_geS, o_eqI, o_eqS, o_neI, o_neS, o_isD, o_isnotD, o_inS, o_ixS, o_ixT, o_ixL, o_ixR, o_slS, o_slT, o_slL, o_slR, o_lenS, o_lenT, o_lenL, o_lenR, o_absI, o_intI, o_intB, o_tupT, o_tupL, o_tupR, o_maxI, o_minI,   List.set_cons_zero, List.set_cons_succ, List.getElem?_cons_zero, List.getElem?_cons_succ, List.map_cons, List.map_nil, List.length_cons, List.length_nil, List.replicate_succ, List.replicate_zero, List.cons_append, List.nil_append, Nat.reduceSub, Nat.reduceAdd, Nat.reduceLeDiff, exists_eq_left', D.bl.injEq, D.int.injEq, D.str.injEq, D.ref.injEq, D.tup.injEq, true_and, and_true, if_true, if_false, Bool.false_eq_true, Bool.not_true, Bool.not_false, decide_true, decide_false, bindP, bindPs, isK, atI_0, atI_1, atI_2, atI_3, ixN_0, ixN_1, Nat.zero_add, LINE, Nat.zero_le, truD, wipeD, Option.some.injEq]
    refine isl ?_
    simp (dsimp := false) only [all_two, ↓Kp_app, ↓w_seq, ↓w_sNil, ↓w_set, ↓w_ret, ↓w_retN, ↓w_sIf, ↓w_expr, ↓w_par, ↓w_par3, ↓w_asg, ↓w_aug, ↓w_sub, ↓w_for, ↓w_raise, ↓w_break, ↓w_cont, ↓w_op2, ↓w_op1, ↓w_cb, ↓w_c, ↓w_var, ↓w_nil, ↓w_cons, ↓w_tup, ↓w_lst, ↓w_new, ↓w_if, ↓w_test, ↓w_tru, ↓w_not, ↓w_and, ↓w_or, ↓w_andV, ↓w_orV, ↓w_notV, ↓w_chain, ↓w_call, ↓w_callK, ↓w_sl, ↓w_part0, ↓w_part1, ↓w_isi, ↓w_join, ↓w_mt, ↓w_lc, ↓w_lcN, ↓w_lcA, ↓w_it, ↓w_range1, ↓w_range2, ↓w_enum, ↓w_enumS, ↓w_zip,   OkX_ok, OkX_err, OkX_stuck, OkX_guard, o_addS, o_addT, o_addLL, o_addRL, o_addII, o_subI, o_mulI, o_mulS, o_fdivI, o_modI, o_powI, o_negI, o_ltI, o_leI, o_gtI, o_geI, o_ltS, o_leS, o_gtS, o_geS, o_eqI, o_eqS, o_neI, o_neS, o_isD, o_isnotD, o_inS, o_ixS, o_ixT, o_ixL, o_ixR, o_slS, o_slT, o_slL, o_slR, o_lenS, o_lenT, o_lenL, o_lenR, o_absI, o_intI, o_intB, o_tupT, o_tupL, o_tupR, o_maxI, o_minI,   List.set_cons_zero, List.set_cons_succ, List.getElem?_cons_zero, List.getElem?_cons_succ, List.map_cons, List.map_nil, List.length_cons, List.length_nil, List.replicate_succ, List.replicate_zero, List.cons_append, List.nil_append, Nat.reduceSub, Nat.reduceAdd, Nat.reduceLeDiff, exists_eq_left', D.bl.injEq, D.int.injEq, D.str.injEq, D.ref.injEq, D.tup.injEq, true_and, and_true, if_true, if_false, Bool.false_eq_true, Bool.not_true, Bool.not_false, decide_true, decide_false, bindP, bindPs, isK, atI_0, atI_1, atI_2, atI_3, ixN_0, ixN_1, Nat.zero_add, LINE, Nat.zero_le, truD, wipeD, Option.some.injEq]
    exact q
  · simp (dsimp := false) only [↓Kp_app, ↓w_seq, ↓w_sNil, ↓w_set, ↓w_ret, ↓w_retN, ↓w_sIf, ↓w_expr, ↓w_par, ↓w_par3, ↓w_asg, ↓w_aug, ↓w_sub, ↓w_for, ↓w_raise, ↓w_break, ↓w_cont, ↓w_op2, ↓w_op1, ↓w_cb, ↓w_c, ↓w_var, ↓w_nil, ↓w_cons, ↓w_tup, ↓w_lst, ↓w_new, ↓w_if, ↓w_test, ↓w_tru, ↓w_not, ↓w_and, ↓w_or, ↓w_andV, ↓w_orV, ↓w_notV, ↓w_chain, ↓w_call, ↓w_callK, ↓w_sl, ↓w_part0, ↓w_part1, ↓w_isi, ↓w_join, ↓w_mt, ↓w_lc, ↓w_lcN, ↓w_lcA, ↓w_it, ↓w_range1, ↓w_range2, ↓w_enum, ↓w_enumS, ↓w_zip,   OkX_ok, OkX_err, OkX_stuck, OkX_guard, o_addS, o_addT, o_addLL, o_addRL, o_addII, o_subI, o_mulI, o_mulS, o_fdivI, o_modI, o_powI, o_negI, o_ltI, o_leI, o_gtI, o_geI, o_ltS, o_leS, o_gtS, o_geS, o_eqI, o_eqS, o_neI, o_neS, o_isD, o_isnotD, o_inS, o_ixS, o_ixT, o_ixL, o_ixR, o_slS, o_slT, o_slL, o_slR, o_lenS, o_lenT, o_lenL, o_lenR, o_absI, o_intI, o_intB, o_tupT, o_tupL, o_tupR, o_maxI, o_minI,   List.set_cons_zero, List.set_cons_succ, List.getElem?_cons_zero, List.getElem?_cons_succ, List.map_cons, List.map_nil, List.length_cons, List.length_nil, List.replicate_succ, List.replicate_zero, List.cons_append, List.nil_append, Nat.reduceSub, Nat.reduceAdd, Nat.reduceLeDiff, exists_eq_left', D.bl.injEq, D.int.injEq, D.str.injEq, D.ref.injEq, D.tup.injEq, true_and, and_true, if_true, if_false, Bool.false_eq_true, Bool.not_true, Bool.not_false, decide_true, decide_false, bindP, bindPs, isK, atI_0, atI_1, atI_2, atI_3, ixN_0, ixN_1, Nat.zero_add, LINE, Nat.zero_le, truD, wipeD, Option.some.injEq]
    have e1 : ∀ {P : D → List MO → Prop} {X : Ex → List MO → Prop}, P (.bl true) h → OkX (m_is_row_of [.lst [.int x, .int y], .int 2] h) P X := fun p => p
    refine e1 ?_
    simp (dsimp := false) only [itemsD, ↓Kp_app, ↓w_seq, ↓w_sNil, ↓w_set, ↓w_ret, ↓w_retN, ↓w_sIf, ↓w_expr, ↓w_par, ↓w_par3, ↓w_asg, ↓w_aug, ↓w_sub, ↓w_for, ↓w_raise, ↓w_break, ↓w_cont, ↓w_op2, ↓w_op1, ↓w_cb, ↓w_c, ↓w_var, ↓w_nil, ↓w_cons, ↓w_tup, ↓w_lst, ↓w_new, ↓w_if, ↓w_test, ↓w_tru, ↓w_not, ↓w_and, ↓w_or, ↓w_andV, ↓w_orV, ↓w_notV, ↓w_chain, ↓w_call, ↓w_callK, ↓w_sl, ↓w_part0, ↓w_part1, ↓w_isi, ↓w_join, ↓w_mt, ↓w_lc, ↓w_lcN, ↓w_lcA, ↓w_it, ↓w_range1, ↓w_range2, ↓w_enum, ↓w_enumS, ↓w_zip,   OkX_ok, OkX_err, OkX_stuck, OkX_guard, o_addS, o_addT, o_addLL, o_addRL, o_addII, o_subI, o_mulI, o_mulS, o_fdivI, o_modI, o_powI, o_negI, o_ltI, o_leI, o_gtI, o_geI, o_ltS, o_leS, o_gtS, o_geS, o_eqI, o_eqS, o_neI, o_neS, o_isD, o_isnotD, o_inS, o_ixS, o_ixT, o_ixL, o_ixR, o_slS, o_slT, o_slL, o_slR, o_lenS, o_lenT, o_lenL, o_lenR, o_absI, o_intI, o_intB, o_tupT, o_tupL, o_tupR, o_maxI, o_minI,   List.set_cons_zero, List.set_cons_succ, List.getElem?_cons_zero, List.getElem?_cons_succ, List.map_cons, List.map_nil, List.length_cons, List.length_nil, List.replicate_succ, List.replicate_zero, List.cons_append, List.nil_append, Nat.reduceSub, Nat.reduceAdd, Nat.reduceLeDiff, exists_eq_left', D.bl.injEq, D.int.injEq, D.str.injEq, D.ref.injEq, D.tup.injEq, true_and, and_true, if_true, if_false, Bool.false_eq_true, Bool.not_true, Bool.not_false, decide_true, decide_false, bindP, bindPs, isK, atI_0, atI_1, atI_2, atI_3, ixN_0, ixN_1, Nat.zero_add, LINE, Nat.zero_le, truD, wipeD, Option.some.injEq]
    refine isl ?_
    simp (dsimp := false) only [all_two, ↓Kp_app, ↓w_seq, ↓w_sNil, ↓w_set, ↓w_ret, ↓w_retN, ↓w_sIf, ↓w_expr, ↓w_par, ↓w_par3, ↓w_asg, ↓w_aug, ↓w_sub, ↓w_for, ↓w_raise, ↓w_break, ↓w_cont, ↓w_op2, ↓w_op1, ↓w_cb, ↓w_c, ↓w_var, ↓w_nil, ↓w_cons, ↓w_tup, ↓w_lst, ↓w_new, ↓w_if, ↓w_test, ↓w_tru, ↓w_not, ↓w_and, ↓w_or, ↓w_andV, ↓w_orV, ↓w_notV, ↓w_chain, ↓w_call, ↓w_callK, ↓w_sl, ↓w_part0, ↓w_part1, ↓w_isi, ↓w_join, ↓w_mt, ↓w_lc, ↓w_lcN, ↓w_lcA, ↓w_it, ↓w_range1, ↓w_range2, ↓w_enum, ↓w_enumS, ↓w_zip,   OkX_ok, OkX_err, OkX_stuck, OkX_guard, o_addS, o_addT, o_addLL, o_addRL, o_addII, o_subI, o_mulI, o_mulS, o_fdivI, o_modI, o_powI, o_negI, o_ltI, o_leI, o_gtI, o_geI, o_ltS, o_leS, o_gtS, o_geS, o_eqI, o_eqS, o_neI, o_neS, o_isD, o_isnotD, o_inS, o_ixS, o_ixT, o_ixL, o_ixR, o_slS, o_slT, o_slL, o_slR, o_lenS, o_lenT, o_lenL, o_lenR, o_absI, o_intI, o_intB, o_tupT, o_tupL, o_tupR, o_maxI, o_minI,   List.set_cons_zero, List.set_cons_succ, List.getElem?_cons_zero, List.getElem?_cons_succ, List.map_cons, List.map_nil, List.length_cons, List.length_nil, List.replicate_succ, List.replicate_zero, List.cons_append, List.nil_append, Nat.reduceSub, Nat.reduceAdd, Nat.reduceLeDiff, exists_eq_left', D.bl.injEq, D.int.injEq, D.str.injEq, D.ref.injEq, D.tup.injEq, true_and, and_true, if_true, if_false, Bool.false_eq_true, Bool.not_true, Bool.not_false, decide_true, decide_false, bindP, bindPs, isK, atI_0, atI_1, atI_2, atI_3, ixN_0, ixN_1, Nat.zero_add, LINE, Nat.zero_le, truD, wipeD, Option.some.injEq]
    exact q


theorem draw_eqD : m__law_draw = mDrawD := rfl
theorem pick_eqD : m__law_pick = mPickD := rfl
theorem box_eqD : m__law_box = mBoxD := rfl
theorem seq_eqD : m__law_seq = mSeqD := rfl
theorem by_eqD : m__law_by = mByD := rfl
theorem same_eqD : ∀ n, m__law_same n = mSameD n
  | 0 => rfl
  | n + 1 => by
    show runF 3 (b__law_same (m__law_same n)) = runF 3 (bSameD (mSameD n))
    rw [same_eqD n]
    rfl
theorem sameq {d : D} (s : sameDD 7 d = true) (q : P (.bl true) h) : OkX (m__law_same 8 [d, d] h) P X := by
  rw [same_eqD]; exact same_okD 7 d h P X s q
theorem times_ok {m n : Nat} {s t : Tb} (hs : SmT m s) (ht : SmT n t) (hmn : m + n ≤ 1000000) (q : P (dT (mulT s t)) h) : OkX (m_times_of [dT s, dT t] h) P X := by
  unfold m_times_of; rw [w_run]; unfold b_times_of
  simp (dsimp := false) only [↓Kp_app, ↓w_seq, ↓w_sNil, ↓w_set, ↓w_ret, ↓w_retN, ↓w_sIf, ↓w_expr, ↓w_par, ↓w_par3, ↓w_asg, ↓w_aug, ↓w_sub, ↓w_for, ↓w_raise, ↓w_break, ↓w_cont, ↓w_op2, ↓w_op1, ↓w_cb, ↓w_c, ↓w_var, ↓w_nil, ↓w_cons, ↓w_tup, ↓w_lst, ↓w_new, ↓w_if, ↓w_test, ↓w_tru, ↓w_not, ↓w_and, ↓w_or, ↓w_andV, ↓w_orV, ↓w_notV, ↓w_chain, ↓w_call, ↓w_callK, ↓w_sl, ↓w_part0, ↓w_part1, ↓w_isi, ↓w_join, ↓w_mt, ↓w_lc, ↓w_lcN, ↓w_lcA, ↓w_it, ↓w_range1, ↓w_range2, ↓w_enum, ↓w_enumS, ↓w_zip,   OkX_ok, OkX_err, OkX_stuck, OkX_guard, o_addS, o_addT, o_addLL, o_addRL, o_addII, o_subI, o_mulI, o_mulS, o_fdivI, o_modI, o_powI, o_negI, o_ltI, o_leI, o_gtI, o_geI, o_ltS, o_leS, o_gtS, o_geS, o_eqI, o_eqS, o_neI, o_neS, o_isD, o_isnotD, o_inS, o_ixS, o_ixT, o_ixL, o_ixR, o_slS, o_slT, o_slL, o_slR, o_lenS, o_lenT, o_lenL, o_lenR, o_absI, o_intI, o_intB, o_tupT, o_tupL, o_tupR, o_maxI, o_minI,   List.set_cons_zero, List.set_cons_succ, List.getElem?_cons_zero, List.getElem?_cons_succ, List.map_cons, List.map_nil, List.length_cons, List.length_nil, List.replicate_succ, List.replicate_zero, List.cons_append, List.nil_append, Nat.reduceSub, Nat.reduceAdd, Nat.reduceLeDiff, exists_eq_left', D.bl.injEq, D.int.injEq, D.str.injEq, D.ref.injEq, D.tup.injEq, true_and, and_true, if_true, if_false, Bool.false_eq_true, Bool.not_true, Bool.not_false, decide_true, decide_false, bindP, bindPs, isK, atI_0, atI_1, atI_2, atI_3, ixN_0, ixN_1, Nat.zero_add, LINE, Nat.zero_le, truD, wipeD, Option.some.injEq]
  refine ⟨hs.a.ok ht.a, hs.b.ok ht.c, hs.a.ok ht.b, hs.b.ok ht.d, hs.c.ok ht.a, hs.d.ok ht.c, hs.c.ok ht.b, hs.d.ok ht.d, ?_⟩
  exact q
def negT (t : Tb) : Tb := (-t.1, -t.2.1, -t.2.2.1, -t.2.2.2)
theorem ledt_ok {m n : Nat} {p : Int × Int} {t : Tb} (h1 : Sm m p.1) (h2 : Sm m p.2) (ht : SmT n t) (hmn : m + n ≤ 1000000) (q : P (dP (ledP p t)) h) : OkX (m_led_told [dP p, dT t] h) P X := by
  unfold m_led_told; rw [w_run]; unfold b_led_told
  simp (dsimp := false) only [atI_0, atI_1, atI_2, atI_3, ↓Kp_app, ↓w_seq, ↓w_sNil, ↓w_set, ↓w_ret, ↓w_retN, ↓w_sIf, ↓w_expr, ↓w_par, ↓w_par3, ↓w_asg, ↓w_aug, ↓w_sub, ↓w_for, ↓w_raise, ↓w_break, ↓w_cont, ↓w_op2, ↓w_op1, ↓w_cb, ↓w_c, ↓w_var, ↓w_nil, ↓w_cons, ↓w_tup, ↓w_lst, ↓w_new, ↓w_if, ↓w_test, ↓w_tru, ↓w_not, ↓w_and, ↓w_or, ↓w_andV, ↓w_orV, ↓w_notV, ↓w_chain, ↓w_call, ↓w_callK, ↓w_sl, ↓w_part0, ↓w_part1, ↓w_isi, ↓w_join, ↓w_mt, ↓w_lc, ↓w_lcN, ↓w_lcA, ↓w_it, ↓w_range1, ↓w_range2, ↓w_enum, ↓w_enumS, ↓w_zip,   OkX_ok, OkX_err, OkX_stuck, OkX_guard, o_addS, o_addT, o_addLL, o_addRL, o_addII, o_subI, o_mulI, o_mulS, o_fdivI, o_modI, o_powI, o_negI, o_ltI, o_leI, o_gtI, o_geI, o_ltS, o_leS, o_gtS, o_geS, o_eqI, o_eqS, o_neI, o_neS, o_isD, o_isnotD, o_inS, o_ixS, o_ixT, o_ixL, o_ixR, o_slS, o_slT, o_slL, o_slR, o_lenS, o_lenT, o_lenL, o_lenR, o_absI, o_intI, o_intB, o_tupT, o_tupL, o_tupR, o_maxI, o_minI,   List.set_cons_zero, List.set_cons_succ, List.getElem?_cons_zero, List.getElem?_cons_succ, List.map_cons, List.map_nil, List.length_cons, List.length_nil, List.replicate_succ, List.replicate_zero, List.cons_append, List.nil_append, Nat.reduceSub, Nat.reduceAdd, Nat.reduceLeDiff, exists_eq_left', D.bl.injEq, D.int.injEq, D.str.injEq, D.ref.injEq, D.tup.injEq, true_and, and_true, if_true, if_false, Bool.false_eq_true, Bool.not_true, Bool.not_false, decide_true, decide_false, bindP, bindPs, isK, atI_0, atI_1, atI_2, atI_3, ixN_0, ixN_1, Nat.zero_add, LINE, Nat.zero_le, truD, wipeD, Option.some.injEq]
  refine ⟨h1.ok ht.a, h2.ok ht.c, h1.ok ht.b, h2.ok ht.d, ?_⟩
  exact q
theorem all_four {P : D → List MO → Prop} {X : Ex → List MO → Prop} : OkX (oAll [.lst [.bl true, .bl true, .bl true, .bl true]] h) P X = P (.bl true) h := id rfl
def lightT (t : Tb) : Prop := light t.1 ∧ light t.2.1 ∧ light t.2.2.1 ∧ light t.2.2.2
abbrev dTs (t : Tb) : List D := [.int t.1, .int t.2.1, .int t.2.2.1, .int t.2.2.2]
theorem lightT.sm {t : Tb} (k : lightT t) : SmT 140 t := ⟨k.1.sm, k.2.1.sm, k.2.2.1.sm, k.2.2.2.sm⟩
theorem needT_ok {v : D} {t : Tb} {at_ : Int} (hv : v = .tup (dTs t) ∨ v = .lst (dTs t)) (hl : lightT t) (hd : detT t = 1) (q : P (dT t) h) : OkX (m_need_table [v, .int at_] h) P X := by
  have isl : ∀ {P : List D → List MO → Prop} {X : Ex → List MO → Prop}, P [.bl true, .bl true, .bl true, .bl true] h → OkX (loopC (.nm 1) xYes (xCall m_is_light [] (aCons (xVar 1) aNil)) ⟨dTs t, none⟩ [some v, none] (dTs t) [] h) P X := fun {P X} p => by
    refine w_loopC (fun i : Int => D.int i) (fun l a h' => a = l.map (fun _ => D.bl true) ∧ h' = h) (fun _ _ _ _ => by rfl) [t.1, t.2.1, t.2.2.1, t.2.2.2] h ⟨rfl, rfl⟩ (fun l i r a h' e i' => ?_) (fun a h' i' => ?_)
    · obtain ⟨rfl, rfl⟩ := i'
      refine ⟨_, rfl, ?_⟩
      show OkX (Res.ok true h') _ _
      rw [OkX_ok, if_pos rfl]
      simp (dsimp := false) only [↓Kp_app, ↓w_seq, ↓w_sNil, ↓w_set, ↓w_ret, ↓w_retN, ↓w_sIf, ↓w_expr, ↓w_par, ↓w_par3, ↓w_asg, ↓w_aug, ↓w_sub, ↓w_for, ↓w_raise, ↓w_break, ↓w_cont, ↓w_op2, ↓w_op1, ↓w_cb, ↓w_c, ↓w_var, ↓w_nil, ↓w_cons, ↓w_tup, ↓w_lst, ↓w_new, ↓w_if, ↓w_test, ↓w_tru, ↓w_not, ↓w_and, ↓w_or, ↓w_andV, ↓w_orV, ↓w_notV, ↓w_chain, ↓w_call, ↓w_callK, ↓w_sl, ↓w_part0, ↓w_part1, ↓w_isi, ↓w_join, ↓w_mt, ↓w_lc, ↓w_lcN, ↓w_lcA, ↓w_it, ↓w_range1, ↓w_range2, ↓w_enum, ↓w_enumS, ↓w_zip,   OkX_ok, OkX_err, OkX_stuck, OkX_guard, o_addS, o_addT, o_addLL, o_addRL, o_addII, o_subI, o_mulI, o_mulS, o_fdivI, o_modI, o_powI, o_negI, o_ltI, o_leI, o_gtI, o_geI, o_ltS, o_leS, o_gtS, o_geS, o_eqI, o_eqS, o_neI, o_neS, o_isD, o_isnotD, o_inS, o_ixS, o_ixT, o_ixL, o_ixR, o_slS, o_slT, o_slL, o_slR, o_lenS, o_lenT, o_lenL, o_lenR, o_absI, o_intI, o_intB, o_tupT, o_tupL, o_tupR, o_maxI, o_minI,   List.set_cons_zero, List.set_cons_succ, List.getElem?_cons_zero, List.getElem?_cons_succ, List.map_cons, List.map_nil, List.length_cons, List.length_nil, List.replicate_succ, List.replicate_zero, List.cons_append, List.nil_append, Nat.reduceSub, Nat.reduceAdd, Nat.reduceLeDiff, exists_eq_left', D.bl.injEq, D.int.injEq, D.str.injEq, D.ref.injEq, D.tup.injEq, true_and, and_true, if_true, if_false, Bool.false_eq_true, Bool.not_true, Bool.not_false, decide_true, decide_false, bindP, bindPs, isK, atI_0, atI_1, atI_2, atI_3, ixN_0, ixN_1, Nat.zero_add, LINE, Nat.zero_le, truD, wipeD, Option.some.injEq]
      have hi : light i := by
        have : i ∈ [t.1, t.2.1, t.2.2.1, t.2.2.2] := by rw [e]; simp
        simp only [List.mem_cons, List.not_mem_nil, or_false] at this
        rcases this with rfl | rfl | rfl | rfl
        · exact hl.1
        · exact hl.2.1
        · exact hl.2.2.1
        · exact hl.2.2.2
      refine islight_ok hi ⟨?_, by simp, rfl⟩
      have := congrArg List.length e
      simp at this
      simp [LINE]; omega
    · obtain ⟨rfl, rfl⟩ := i'
      exact p
  have sm := hl.sm
  have m1 : mulOk t.1 t.2.2.2 := sm.a.ok sm.d
  have m2 : mulOk t.2.1 t.2.2.1 := sm.b.ok sm.c
  have e0 : decide (t.1 * t.2.2.2 - t.2.1 * t.2.2.1 = 1) = true := by rw [decide_eq_true_eq]; exact hd
  unfold m_need_table; rw [w_run]; unfold b_need_table
  simp (dsimp := false) only [↓Kp_app, ↓w_seq, ↓w_sNil, ↓w_set, ↓w_ret, ↓w_retN, ↓w_sIf, ↓w_expr, ↓w_par, ↓w_par3, ↓w_asg, ↓w_aug, ↓w_sub, ↓w_for, ↓w_raise, ↓w_break, ↓w_cont, ↓w_op2, ↓w_op1, ↓w_cb, ↓w_c, ↓w_var, ↓w_nil, ↓w_cons, ↓w_tup, ↓w_lst, ↓w_new, ↓w_if, ↓w_test, ↓w_tru, ↓w_not, ↓w_and, ↓w_or, ↓w_andV, ↓w_orV, ↓w_notV, ↓w_chain, ↓w_call, ↓w_callK, ↓w_sl, ↓w_part0, ↓w_part1, ↓w_isi, ↓w_join, ↓w_mt, ↓w_lc, ↓w_lcN, ↓w_lcA, ↓w_it, ↓w_range1, ↓w_range2, ↓w_enum, ↓w_enumS, ↓w_zip,   OkX_ok, OkX_err, OkX_stuck, OkX_guard, o_addS, o_addT, o_addLL, o_addRL, o_addII, o_subI, o_mulI, o_mulS, o_fdivI, o_modI, o_powI, o_negI, o_ltI, o_leI, o_gtI, o_geI, o_ltS, o_leS, o_gtS, o_geS, o_eqI, o_eqS, o_neI, o_neS, o_isD, o_isnotD, o_inS, o_ixS, o_ixT, o_ixL, o_ixR, o_slS, o_slT, o_slL, o_slR, o_lenS, o_lenT, o_lenL, o_lenR, o_absI, o_intI, o_intB, o_tupT, o_tupL, o_tupR, o_maxI, o_minI,   List.set_cons_zero, List.set_cons_succ, List.getElem?_cons_zero, List.getElem?_cons_succ, List.map_cons, List.map_nil, List.length_cons, List.length_nil, List.replicate_succ, List.replicate_zero, List.cons_append, List.nil_append, Nat.reduceSub, Nat.reduceAdd, Nat.reduceLeDiff, exists_eq_left', D.bl.injEq, D.int.injEq, D.str.injEq, D.ref.injEq, D.tup.injEq, true_and, and_true, if_true, if_false, Bool.false_eq_true, Bool.not_true, Bool.not_false, decide_true, decide_false, bindP, bindPs, isK, atI_0, atI_1, atI_2, atI_3, ixN_0, ixN_1, Nat.zero_add, LINE, Nat.zero_le, truD, wipeD, Option.some.injEq]
  have key : OkX (m_is_table [v] h) (fun d h' => d = .bl true ∧ h' = h) fun _ _ => False := by
    unfold m_is_table; rw [w_run]; unfold b_is_table
    rcases hv with rfl | rfl
    · simp (dsimp := false) only [↓Kp_app, ↓w_seq, ↓w_sNil, ↓w_set, ↓w_ret, ↓w_retN, ↓w_sIf, ↓w_expr, ↓w_par, ↓w_par3, ↓w_asg, ↓w_aug, ↓w_sub, ↓w_for, ↓w_raise, ↓w_break, ↓w_cont, ↓w_op2, ↓w_op1, ↓w_cb, ↓w_c, ↓w_var, ↓w_nil, ↓w_cons, ↓w_tup, ↓w_lst, ↓w_new, ↓w_if, ↓w_test, ↓w_tru, ↓w_not, ↓w_and, ↓w_or, ↓w_andV, ↓w_orV, ↓w_notV, ↓w_chain, ↓w_call, ↓w_callK, ↓w_sl, ↓w_part0, ↓w_part1, ↓w_isi, ↓w_join, ↓w_mt, ↓w_lc, ↓w_lcN, ↓w_lcA, ↓w_it, ↓w_range1, ↓w_range2, ↓w_enum, ↓w_enumS, ↓w_zip,   OkX_ok, OkX_err, OkX_stuck, OkX_guard, o_addS, o_addT, o_addLL, o_addRL, o_addII, o_subI, o_mulI, o_mulS, o_fdivI, o_modI, o_powI, o_negI, o_ltI, o_leI, o_gtI, o_geI, o_ltS, o_leS, o_gtS, o_geS, o_eqI, o_eqS, o_neI, o_neS, o_isD, o_isnotD, o_inS, o_ixS, o_ixT, o_ixL, o_ixR, o_slS, o_slT, o_slL, o_slR, o_lenS, o_lenT, o_lenL, o_lenR, o_absI, o_intI, o_intB, o_tupT, o_tupL, o_tupR, o_maxI, o_minI,   List.set_cons_zero, List.set_cons_succ, List.getElem?_cons_zero, List.getElem?_cons_succ, List.map_cons, List.map_nil, List.length_cons, List.length_nil, List.replicate_succ, List.replicate_zero, List.cons_append, List.nil_append, Nat.reduceSub, Nat.reduceAdd, Nat.reduceLeDiff, exists_eq_left', D.bl.injEq, D.int.injEq, D.str.injEq, D.ref.injEq, D.tup.injEq, true_and, and_true, if_true, if_false, Bool.false_eq_true, Bool.not_true, Bool.not_false, decide_true, decide_false, bindP, bindPs, isK, atI_0, atI_1, atI_2, atI_3, ixN_0, ixN_1, Nat.zero_add, LINE, Nat.zero_le, truD, wipeD, Option.some.injEq]
      have e1 : ∀ {P : D → List MO → Prop} {X : Ex → List MO → Prop}, P (.bl true) h → OkX (m_is_row_of [.tup (dTs t), .int 4] h) P X := fun p => p
      refine e1 ?_
      simp (dsimp := false) only [itemsD, ↓Kp_app, ↓w_seq, ↓w_sNil, ↓w_set, ↓w_ret, ↓w_retN, ↓w_sIf, ↓w_expr, ↓w_par, ↓w_par3, ↓w_asg, ↓w_aug, ↓w_sub, ↓w_for, ↓w_raise, ↓w_break, ↓w_cont, ↓w_op2, ↓w_op1, ↓w_cb, ↓w_c, ↓w_var, ↓w_nil, ↓w_cons, ↓w_tup, ↓w_lst, ↓w_new, ↓w_if, ↓w_test, ↓w_tru, ↓w_not, ↓w_and, ↓w_or, ↓w_andV, ↓w_orV, ↓w_notV, ↓w_chain, ↓w_call, ↓w_callK, ↓w_sl, ↓w_part0, ↓w_part1, ↓w_isi, ↓w_join, ↓w_mt, ↓w_lc, ↓w_lcN, ↓w_lcA, ↓w_it, ↓w_range1, ↓w_range2, ↓w_enum, ↓w_enumS, ↓w_zip,   OkX_ok, OkX_err, OkX_stuck, OkX_guard, o_addS, o_addT, o_addLL, o_addRL, o_addII, o_subI, o_mulI, o_mulS, o_fdivI, o_modI, o_powI, o_negI, o_ltI, o_leI, o_gtI, o_geI, o_ltS, o_leS, o_gtS, o_geS, o_eqI, o_eqS, o_neI, o_neS, o_isD, o_isnotD, o_inS, o_ixS, o_ixT, o_ixL, o_ixR, o_slS, o_slT, o_slL, o_slR, o_lenS, o_lenT, o_lenL, o_lenR, o_absI, o_intI, o_intB, o_tupT, o_tupL, o_tupR, o_maxI, o_minI,   List.set_cons_zero, List.set_cons_succ, List.getElem?_cons_zero, List.getElem?_cons_succ, List.map_cons, List.map_nil, List.length_cons, List.length_nil, List.replicate_succ, List.replicate_zero, List.cons_append, List.nil_append, Nat.reduceSub, Nat.reduceAdd, Nat.reduceLeDiff, exists_eq_left', D.bl.injEq, D.int.injEq, D.str.injEq, D.ref.injEq, D.tup.injEq, true_and, and_true, if_true, if_false, Bool.false_eq_true, Bool.not_true, Bool.not_false, decide_true, decide_false, bindP, bindPs, isK, atI_0, atI_1, atI_2, atI_3, ixN_0, ixN_1, Nat.zero_add, LINE, Nat.zero_le, truD, wipeD, Option.some.injEq]
      refine isl ?_
      simp (dsimp := false) only [all_four, atI_0, atI_1, atI_2, atI_3, ↓Kp_app, ↓w_seq, ↓w_sNil, ↓w_set, ↓w_ret, ↓w_retN, ↓w_sIf, ↓w_expr, ↓w_par, ↓w_par3, ↓w_asg, ↓w_aug, ↓w_sub, ↓w_for, ↓w_raise, ↓w_break, ↓w_cont, ↓w_op2, ↓w_op1, ↓w_cb, ↓w_c, ↓w_var, ↓w_nil, ↓w_cons, ↓w_tup, ↓w_lst, ↓w_new, ↓w_if, ↓w_test, ↓w_tru, ↓w_not, ↓w_and, ↓w_or, ↓w_andV, ↓w_orV, ↓w_notV, ↓w_chain, ↓w_call, ↓w_callK, ↓w_sl, ↓w_part0, ↓w_part1, ↓w_isi, ↓w_join, ↓w_mt, ↓w_lc, ↓w_lcN, ↓w_lcA, ↓w_it, ↓w_range1, ↓w_range2, ↓w_enum, ↓w_enumS, ↓w_zip,   OkX_ok, OkX_err, OkX_stuck, OkX_guard, o_addS, o_addT, o_addLL, o_addRL, o_addII, o_subI, o_mulI, o_mulS, o_fdivI, o_modI, o_powI, o_negI, o_ltI, o_leI, o_gtI, o_geI, o_ltS, o_leS, o_gtS, o_geS, o_eqI, o_eqS, o_neI, o_neS, o_isD, o_isnotD, o_inS, o_ixS, o_ixT, o_ixL, o_ixR, o_slS, o_slT, o_slL, o_slR, o_lenS, o_lenT, o_lenL, o_lenR, o_absI, o_intI, o_intB, o_tupT, o_tupL, o_tupR, o_maxI, o_minI,   List.set_cons_zero, List.set_cons_succ, List.getElem?_cons_zero, List.getElem?_cons_succ, List.map_cons, List.map_nil, List.length_cons, List.length_nil, List.replicate_succ, List.replicate_zero, List.cons_append, List.nil_append, Nat.reduceSub, Nat.reduceAdd, Nat.reduceLeDiff, exists_eq_left', D.bl.injEq, D.int.injEq, D.str.injEq, D.ref.injEq, D.tup.injEq, true_and, and_true, if_true, if_false, Bool.false_eq_true, Bool.not_true, Bool.not_false, decide_true, decide_false, bindP, bindPs, isK, atI_0, atI_1, atI_2, atI_3, ixN_0, ixN_1, Nat.zero_add, LINE, Nat.zero_le, truD, wipeD, Option.some.injEq]
      refine ⟨m1, m2, ?_⟩
      rw [e0]
    · simp (dsimp := false) only [↓Kp_app, ↓w_seq, ↓w_sNil, ↓w_set, ↓w_ret, ↓w_retN, ↓w_sIf, ↓w_expr, ↓w_par, ↓w_par3, ↓w_asg, ↓w_aug, ↓w_sub, ↓w_for, ↓w_raise, ↓w_break, ↓w_cont, ↓w_op2, ↓w_op1, ↓w_cb, ↓w_c, ↓w_var, ↓w_nil, ↓w_cons, ↓w_tup, ↓w_lst, ↓w_new, ↓w_if, ↓w_test, ↓w_tru, ↓w_not, ↓w_and, ↓w_or, ↓w_andV, ↓w_orV, ↓w_notV, ↓w_chain, ↓w_call, ↓w_callK, ↓w_sl, ↓w_part0, ↓w_part1, ↓w_isi, ↓w_join, ↓w_mt, ↓w_lc, ↓w_lcN, ↓w_lcA, ↓w_it, ↓w_range1, ↓w_range2, ↓w_enum, ↓w_enumS, ↓w_zip,   OkX_ok, OkX_err, OkX_stuck, OkX_guard, o_addS, o_addT, o_addLL, o_addRL, o_addII, o_subI, o_mulI, o_mulS, o_fdivI, o_modI, o_powI, o_negI, o_ltI, o_leI, o_gtI, o_geI, o_ltS, o_leS, o_gtS, o_geS, o_eqI, o_eqS, o_neI, o_neS, o_isD, o_isnotD, o_inS, o_ixS, o_ixT, o_ixL, o_ixR, o_slS, o_slT, o_slL, o_slR, o_lenS, o_lenT, o_lenL, o_lenR, o_absI, o_intI, o_intB, o_tupT, o_tupL, o_tupR, o_maxI, o_minI,   List.set_cons_zero, List.set_cons_succ, List.getElem?_cons_zero, List.getElem?_cons_succ, List.map_cons, List.map_nil, List.length_cons, List.length_nil, List.replicate_succ, List.replicate_zero, List.cons_append, List.nil_append, Nat.reduceSub, Nat.reduceAdd, Nat.reduceLeDiff, exists_eq_left', D.bl.injEq, D.int.injEq, D.str.injEq, D.ref.injEq, D.tup.injEq, true_and, and_true, if_true, if_false, Bool.false_eq_true, Bool.not_true, Bool.not_false, decide_true, decide_false, bindP, bindPs, isK, atI_0, atI_1, atI_2, atI_3, ixN_0, ixN_1, Nat.zero_add, LINE, Nat.zero_le, truD, wipeD, Option.some.injEq]
      have e1 : ∀ {P : D → List MO → Prop} {X : Ex → List MO → Prop}, P (.bl true) h → OkX (m_is_row_of [.lst (dTs t), .int 4] h) P X := fun p => p
      refine e1 ?_
      simp (dsimp := false) only [itemsD, ↓Kp_app, ↓w_seq, ↓w_sNil, ↓w_set, ↓w_ret, ↓w_retN, ↓w_sIf, ↓w_expr, ↓w_par, ↓w_par3, ↓w_asg, ↓w_aug, ↓w_sub, ↓w_for, ↓w_raise, ↓w_break, ↓w_cont, ↓w_op2, ↓w_op1, ↓w_cb, ↓w_c, ↓w_var, ↓w_nil, ↓w_cons, ↓w_tup, ↓w_lst, ↓w_new, ↓w_if, ↓w_test, ↓w_tru, ↓w_not, ↓w_and, ↓w_or, ↓w_andV, ↓w_orV, ↓w_notV, ↓w_chain, ↓w_call, ↓w_callK, ↓w_sl, ↓w_part0, ↓w_part1, ↓w_isi, ↓w_join, ↓w_mt, ↓w_lc, ↓w_lcN, ↓w_lcA, ↓w_it, ↓w_range1, ↓w_range2, ↓w_enum, ↓w_enumS, ↓w_zip,   OkX_ok, OkX_err, OkX_stuck, OkX_guard, o_addS, o_addT, o_addLL, o_addRL, o_addII, o_subI, o_mulI, o_mulS, o_fdivI, o_modI, o_powI, o_negI, o_ltI, o_leI, o_gtI, o_geI, o_ltS, o_leS, o_gtS, o_geS, o_eqI, o_eqS, o_neI, o_neS, o_isD, o_isnotD, o_inS, o_ixS, o_ixT, o_ixL, o_ixR, o_slS, o_slT, o_slL, o_slR, o_lenS, o_lenT, o_lenL, o_lenR, o_absI, o_intI, o_intB, o_tupT, o_tupL, o_tupR, o_maxI, o_minI,   List.set_cons_zero, List.set_cons_succ, List.getElem?_cons_zero, List.getElem?_cons_succ, List.map_cons, List.map_nil, List.length_cons, List.length_nil, List.replicate_succ, List.replicate_zero, List.cons_append, List.nil_append, Nat.reduceSub, Nat.reduceAdd, Nat.reduceLeDiff, exists_eq_left', D.bl.injEq, D.int.injEq, D.str.injEq, D.ref.injEq, D.tup.injEq, true_and, and_true, if_true, if_false, Bool.false_eq_true, Bool.not_true, Bool.not_false, decide_true, decide_false, bindP, bindPs, isK, atI_0, atI_1, atI_2, atI_3, ixN_0, ixN_1, Nat.zero_add, LINE, Nat.zero_le, truD, wipeD, Option.some.injEq]
      refine isl ?_
      simp (dsimp := false) only [all_four, atI_0, atI_1, atI_2, atI_3, ↓Kp_app, ↓w_seq, ↓w_sNil, ↓w_set, ↓w_ret, ↓w_retN, ↓w_sIf, ↓w_expr, ↓w_par, ↓w_par3, ↓w_asg, ↓w_aug, ↓w_sub, ↓w_for, ↓w_raise, ↓w_break, ↓w_cont, ↓w_op2, ↓w_op1, ↓w_cb, ↓w_c, ↓w_var, ↓w_nil, ↓w_cons, ↓w_tup, ↓w_lst, ↓w_new, ↓w_if, ↓w_test, ↓w_tru, ↓w_not, ↓w_and, ↓w_or, ↓w_andV, ↓w_orV, ↓w_notV, ↓w_chain, ↓w_call, ↓w_callK, ↓w_sl, ↓w_part0, ↓w_part1, ↓w_isi, ↓w_join, ↓w_mt, ↓w_lc, ↓w_lcN, ↓w_lcA, ↓w_it, ↓w_range1, ↓w_range2, ↓w_enum, ↓w_enumS, ↓w_zip,   OkX_ok, OkX_err, OkX_stuck, OkX_guard, o_addS, o_addT, o_addLL, o_addRL, o_addII, o_subI, o_mulI, o_mulS, o_fdivI, o_modI, o_powI, o_negI, o_ltI, o_leI, o_gtI, o_geI, o_ltS, o_leS, o_gtS, o_geS, o_eqI, o_eqS, o_neI, o_neS, o_isD, o_isnotD, o_inS, o_ixS, o_ixT, o_ixL, o_ixR, o_slS, o_slT, o_slL, o_slR, o_lenS, o_lenT, o_lenL, o_lenR, o_absI, o_intI, o_intB, o_tupT, o_tupL, o_tupR, o_maxI, o_minI,   List.set_cons_zero, List.set_cons_succ, List.getElem?_cons_zero, List.getElem?_cons_succ, List.map_cons, List.map_nil, List.length_cons, List.length_nil, List.replicate_succ, List.replicate_zero, List.cons_append, List.nil_append, Nat.reduceSub, Nat.reduceAdd, Nat.reduceLeDiff, exists_eq_left', D.bl.injEq, D.int.injEq, D.str.injEq, D.ref.injEq, D.tup.injEq, true_and, and_true, if_true, if_false, Bool.false_eq_true, Bool.not_true, Bool.not_false, decide_true, decide_false, bindP, bindPs, isK, atI_0, atI_1, atI_2, atI_3, ixN_0, ixN_1, Nat.zero_add, LINE, Nat.zero_le, truD, wipeD, Option.some.injEq]
      refine ⟨m1, m2, ?_⟩
      rw [e0]
  refine key.mono (fun d h' e => ?_) fun _ _ z => z.elim
  obtain ⟨rfl, rfl⟩ := e
  simp (dsimp := false) only [↓Kp_app, ↓w_seq, ↓w_sNil, ↓w_set, ↓w_ret, ↓w_retN, ↓w_sIf, ↓w_expr, ↓w_par, ↓w_par3, ↓w_asg, ↓w_aug, ↓w_sub, ↓w_for, ↓w_raise, ↓w_break, ↓w_cont, ↓w_op2, ↓w_op1, ↓w_cb, ↓w_c, ↓w_var, ↓w_nil, ↓w_cons, ↓w_tup, ↓w_lst, ↓w_new, ↓w_if, ↓w_test, ↓w_tru, ↓w_not, ↓w_and, ↓w_or, ↓w_andV, ↓w_orV, ↓w_notV, ↓w_chain, ↓w_call, ↓w_callK, ↓w_sl, ↓w_part0, ↓w_part1, ↓w_isi, ↓w_join, ↓w_mt, ↓w_lc, ↓w_lcN, ↓w_lcA, ↓w_it, ↓w_range1, ↓w_range2, ↓w_enum, ↓w_enumS, ↓w_zip,   OkX_ok, OkX_err, OkX_stuck, OkX_guard, o_addS, o_addT, o_addLL, o_addRL, o_addII, o_subI, o_mulI, o_mulS, o_fdivI, o_modI, o_powI, o_negI, o_ltI, o_leI, o_gtI, o_geI, o_ltS, o_leS, o_gtS, o_geS, o_eqI, o_eqS, o_neI, o_neS, o_isD, o_isnotD, o_inS, o_ixS, o_ixT, o_ixL, o_ixR, o_slS, o_slT, o_slL, o_slR, o_lenS, o_lenT, o_lenL, o_lenR, o_absI, o_intI, o_intB, o_tupT, o_tupL, o_tupR, o_maxI, o_minI,   List.set_cons_zero, List.set_cons_succ, List.getElem?_cons_zero, List.getElem?_cons_succ, List.map_cons, List.map_nil, List.length_cons, List.length_nil, List.replicate_succ, List.replicate_zero, List.cons_append, List.nil_append, Nat.reduceSub, Nat.reduceAdd, Nat.reduceLeDiff, exists_eq_left', D.bl.injEq, D.int.injEq, D.str.injEq, D.ref.injEq, D.tup.injEq, true_and, and_true, if_true, if_false, Bool.false_eq_true, Bool.not_true, Bool.not_false, decide_true, decide_false, bindP, bindPs, isK, atI_0, atI_1, atI_2, atI_3, ixN_0, ixN_1, Nat.zero_add, LINE, Nat.zero_le, truD, wipeD, Option.some.injEq]
  rcases hv with rfl | rfl
  · simp (dsimp := false) only [↓Kp_app, ↓w_seq, ↓w_sNil, ↓w_set, ↓w_ret, ↓w_retN, ↓w_sIf, ↓w_expr, ↓w_par, ↓w_par3, ↓w_asg, ↓w_aug, ↓w_sub, ↓w_for, ↓w_raise, ↓w_break, ↓w_cont, ↓w_op2, ↓w_op1, ↓w_cb, ↓w_c, ↓w_var, ↓w_nil, ↓w_cons, ↓w_tup, ↓w_lst, ↓w_new, ↓w_if, ↓w_test, ↓w_tru, ↓w_not, ↓w_and, ↓w_or, ↓w_andV, ↓w_orV, ↓w_notV, ↓w_chain, ↓w_call, ↓w_callK, ↓w_sl, ↓w_part0, ↓w_part1, ↓w_isi, ↓w_join, ↓w_mt, ↓w_lc, ↓w_lcN, ↓w_lcA, ↓w_it, ↓w_range1, ↓w_range2, ↓w_enum, ↓w_enumS, ↓w_zip,   OkX_ok, OkX_err, OkX_stuck, OkX_guard, o_addS, o_addT, o_addLL, o_addRL, o_addII, o_subI, o_mulI, o_mulS, o_fdivI, o_modI, o_powI, o_negI, o_ltI, o_leI, o_gtI, o_geI, o_ltS, o_leS, o_gtS, o_geS, o_eqI, o_eqS, o_neI, o_neS, o_isD, o_isnotD, o_inS, o_ixS, o_ixT, o_ixL, o_ixR, o_slS, o_slT, o_slL, o_slR, o_lenS, o_lenT, o_lenL, o_lenR, o_absI, o_intI, o_intB, o_tupT, o_tupL, o_tupR, o_maxI, o_minI,   List.set_cons_zero, List.set_cons_succ, List.getElem?_cons_zero, List.getElem?_cons_succ, List.map_cons, List.map_nil, List.length_cons, List.length_nil, List.replicate_succ, List.replicate_zero, List.cons_append, List.nil_append, Nat.reduceSub, Nat.reduceAdd, Nat.reduceLeDiff, exists_eq_left', D.bl.injEq, D.int.injEq, D.str.injEq, D.ref.injEq, D.tup.injEq, true_and, and_true, if_true, if_false, Bool.false_eq_true, Bool.not_true, Bool.not_false, decide_true, decide_false, bindP, bindPs, isK, atI_0, atI_1, atI_2, atI_3, ixN_0, ixN_1, Nat.zero_add, LINE, Nat.zero_le, truD, wipeD, Option.some.injEq]
    exact q
  · simp (dsimp := false) only [↓Kp_app, ↓w_seq, ↓w_sNil, ↓w_set, ↓w_ret, ↓w_retN, ↓w_sIf, ↓w_expr, ↓w_par, ↓w_par3, ↓w_asg, ↓w_aug, ↓w_sub, ↓w_for, ↓w_raise, ↓w_break, ↓w_cont, ↓w_op2, ↓w_op1, ↓w_cb, ↓w_c, ↓w_var, ↓w_nil, ↓w_cons, ↓w_tup, ↓w_lst, ↓w_new, ↓w_if, ↓w_test, ↓w_tru, ↓w_not, ↓w_and, ↓w_or, ↓w_andV, ↓w_orV, ↓w_notV, ↓w_chain, ↓w_call, ↓w_callK, ↓w_sl, ↓w_part0, ↓w_part1, ↓w_isi, ↓w_join, ↓w_mt, ↓w_lc, ↓w_lcN, ↓w_lcA, ↓w_it, ↓w_range1, ↓w_range2, ↓w_enum, ↓w_enumS, ↓w_zip,   OkX_ok, OkX_err, OkX_stuck, OkX_guard, o_addS, o_addT, o_addLL, o_addRL, o_addII, o_subI, o_mulI, o_mulS, o_fdivI, o_modI, o_powI, o_negI, o_ltI, o_leI, o_gtI, o_geI, o_ltS, o_leS, o_gtS, o_geS, o_eqI, o_eqS, o_neI, o_neS, o_isD, o_isnotD, o_inS, o_ixS, o_ixT, o_ixL, o_ixR, o_slS, o_slT, o_slL, o_slR, o_lenS, o_lenT, o_lenL, o_lenR, o_absI, o_intI, o_intB, o_tupT, o_tupL, o_tupR, o_maxI, o_minI,   List.set_cons_zero, List.set_cons_succ, List.getElem?_cons_zero, List.getElem?_cons_succ, List.map_cons, List.map_nil, List.length_cons, List.length_nil, List.replicate_succ, List.replicate_zero, List.cons_append, List.nil_append, Nat.reduceSub, Nat.reduceAdd, Nat.reduceLeDiff, exists_eq_left', D.bl.injEq, D.int.injEq, D.str.injEq, D.ref.injEq, D.tup.injEq, true_and, and_true, if_true, if_false, Bool.false_eq_true, Bool.not_true, Bool.not_false, decide_true, decide_false, bindP, bindPs, isK, atI_0, atI_1, atI_2, atI_3, ixN_0, ixN_1, Nat.zero_add, LINE, Nat.zero_le, truD, wipeD, Option.some.injEq]
    exact q
theorem ledpair_ok {v w : D} {t : Tb} {x y : Int} (hv : v = .tup (dTs t) ∨ v = .lst (dTs t)) (hl : lightT t) (hd : detT t = 1) (hw : w = .tup [.int x, .int y] ∨ w = .lst [.int x, .int y]) (hx : light x) (hy : light y) (q : P (dP (ledP (x, y) t)) h) :
    OkX (m_led_pair [v, w] h) P X := by
  unfold m_led_pair; rw [w_run]; unfold b_led_pair
  simp (dsimp := false) only [↓Kp_app, ↓w_seq, ↓w_sNil, ↓w_set, ↓w_ret, ↓w_retN, ↓w_sIf, ↓w_expr, ↓w_par, ↓w_par3, ↓w_asg, ↓w_aug, ↓w_sub, ↓w_for, ↓w_raise, ↓w_break, ↓w_cont, ↓w_op2, ↓w_op1, ↓w_cb, ↓w_c, ↓w_var, ↓w_nil, ↓w_cons, ↓w_tup, ↓w_lst, ↓w_new, ↓w_if, ↓w_test, ↓w_tru, ↓w_not, ↓w_and, ↓w_or, ↓w_andV, ↓w_orV, ↓w_notV, ↓w_chain, ↓w_call, ↓w_callK, ↓w_sl, ↓w_part0, ↓w_part1, ↓w_isi, ↓w_join, ↓w_mt, ↓w_lc, ↓w_lcN, ↓w_lcA, ↓w_it, ↓w_range1, ↓w_range2, ↓w_enum, ↓w_enumS, ↓w_zip,   OkX_ok, OkX_err, OkX_stuck, OkX_guard, o_addS, o_addT, o_addLL, o_addRL, o_addII, o_subI, o_mulI, o_mulS, o_fdivI, o_modI, o_powI, o_negI, o_ltI, o_leI, o_gtI, o_geI, o_ltS, o_leS, o_gtS, o_geS, o_eqI, o_eqS, o_neI, o_neS, o_isD, o_isnotD, o_inS, o_ixS, o_ixT, o_ixL, o_ixR, o_slS, o_slT, o_slL, o_slR, o_lenS, o_lenT, o_lenL, o_lenR, o_absI, o_intI, o_intB, o_tupT, o_tupL, o_tupR, o_maxI, o_minI,   List.set_cons_zero, List.set_cons_succ, List.getElem?_cons_zero, List.getElem?_cons_succ, List.map_cons, List.map_nil, List.length_cons, List.length_nil, List.replicate_succ, List.replicate_zero, List.cons_append, List.nil_append, Nat.reduceSub, Nat.reduceAdd, Nat.reduceLeDiff, exists_eq_left', D.bl.injEq, D.int.injEq, D.str.injEq, D.ref.injEq, D.tup.injEq, true_and, and_true, if_true, if_false, Bool.false_eq_true, Bool.not_true, Bool.not_false, decide_true, decide_false, bindP, bindPs, isK, atI_0, atI_1, atI_2, atI_3, ixN_0, ixN_1, Nat.zero_add, LINE, Nat.zero_le, truD, wipeD, Option.some.injEq]
  refine needT_ok hv hl hd ?_
  simp (dsimp := false) only [↓Kp_app, ↓w_seq, ↓w_sNil, ↓w_set, ↓w_ret, ↓w_retN, ↓w_sIf, ↓w_expr, ↓w_par, ↓w_par3, ↓w_asg, ↓w_aug, ↓w_sub, ↓w_for, ↓w_raise, ↓w_break, ↓w_cont, ↓w_op2, ↓w_op1, ↓w_cb, ↓w_c, ↓w_var, ↓w_nil, ↓w_cons, ↓w_tup, ↓w_lst, ↓w_new, ↓w_if, ↓w_test, ↓w_tru, ↓w_not, ↓w_and, ↓w_or, ↓w_andV, ↓w_orV, ↓w_notV, ↓w_chain, ↓w_call, ↓w_callK, ↓w_sl, ↓w_part0, ↓w_part1, ↓w_isi, ↓w_join, ↓w_mt, ↓w_lc, ↓w_lcN, ↓w_lcA, ↓w_it, ↓w_range1, ↓w_range2, ↓w_enum, ↓w_enumS, ↓w_zip,   OkX_ok, OkX_err, OkX_stuck, OkX_guard, o_addS, o_addT, o_addLL, o_addRL, o_addII, o_subI, o_mulI, o_mulS, o_fdivI, o_modI, o_powI, o_negI, o_ltI, o_leI, o_gtI, o_geI, o_ltS, o_leS, o_gtS, o_geS, o_eqI, o_eqS, o_neI, o_neS, o_isD, o_isnotD, o_inS, o_ixS, o_ixT, o_ixL, o_ixR, o_slS, o_slT, o_slL, o_slR, o_lenS, o_lenT, o_lenL, o_lenR, o_absI, o_intI, o_intB, o_tupT, o_tupL, o_tupR, o_maxI, o_minI,   List.set_cons_zero, List.set_cons_succ, List.getElem?_cons_zero, List.getElem?_cons_succ, List.map_cons, List.map_nil, List.length_cons, List.length_nil, List.replicate_succ, List.replicate_zero, List.cons_append, List.nil_append, Nat.reduceSub, Nat.reduceAdd, Nat.reduceLeDiff, exists_eq_left', D.bl.injEq, D.int.injEq, D.str.injEq, D.ref.injEq, D.tup.injEq, true_and, and_true, if_true, if_false, Bool.false_eq_true, Bool.not_true, Bool.not_false, decide_true, decide_false, bindP, bindPs, isK, atI_0, atI_1, atI_2, atI_3, ixN_0, ixN_1, Nat.zero_add, LINE, Nat.zero_le, truD, wipeD, Option.some.injEq]
  refine need_ok hw hx hy ?_
  simp (dsimp := false) only [↓Kp_app, ↓w_seq, ↓w_sNil, ↓w_set, ↓w_ret, ↓w_retN, ↓w_sIf, ↓w_expr, ↓w_par, ↓w_par3, ↓w_asg, ↓w_aug, ↓w_sub, ↓w_for, ↓w_raise, ↓w_break, ↓w_cont, ↓w_op2, ↓w_op1, ↓w_cb, ↓w_c, ↓w_var, ↓w_nil, ↓w_cons, ↓w_tup, ↓w_lst, ↓w_new, ↓w_if, ↓w_test, ↓w_tru, ↓w_not, ↓w_and, ↓w_or, ↓w_andV, ↓w_orV, ↓w_notV, ↓w_chain, ↓w_call, ↓w_callK, ↓w_sl, ↓w_part0, ↓w_part1, ↓w_isi, ↓w_join, ↓w_mt, ↓w_lc, ↓w_lcN, ↓w_lcA, ↓w_it, ↓w_range1, ↓w_range2, ↓w_enum, ↓w_enumS, ↓w_zip,   OkX_ok, OkX_err, OkX_stuck, OkX_guard, o_addS, o_addT, o_addLL, o_addRL, o_addII, o_subI, o_mulI, o_mulS, o_fdivI, o_modI, o_powI, o_negI, o_ltI, o_leI, o_gtI, o_geI, o_ltS, o_leS, o_gtS, o_geS, o_eqI, o_eqS, o_neI, o_neS, o_isD, o_isnotD, o_inS, o_ixS, o_ixT, o_ixL, o_ixR, o_slS, o_slT, o_slL, o_slR, o_lenS, o_lenT, o_lenL, o_lenR, o_absI, o_intI, o_intB, o_tupT, o_tupL, o_tupR, o_maxI, o_minI,   List.set_cons_zero, List.set_cons_succ, List.getElem?_cons_zero, List.getElem?_cons_succ, List.map_cons, List.map_nil, List.length_cons, List.length_nil, List.replicate_succ, List.replicate_zero, List.cons_append, List.nil_append, Nat.reduceSub, Nat.reduceAdd, Nat.reduceLeDiff, exists_eq_left', D.bl.injEq, D.int.injEq, D.str.injEq, D.ref.injEq, D.tup.injEq, true_and, and_true, if_true, if_false, Bool.false_eq_true, Bool.not_true, Bool.not_false, decide_true, decide_false, bindP, bindPs, isK, atI_0, atI_1, atI_2, atI_3, ixN_0, ixN_1, Nat.zero_add, LINE, Nat.zero_le, truD, wipeD, Option.some.injEq]
  refine ledt_ok (m := 140) (n := 140) hx.sm hy.sm hl.sm (by decide) ?_
  simp (dsimp := false) only [↓Kp_app, ↓w_seq, ↓w_sNil, ↓w_set, ↓w_ret, ↓w_retN, ↓w_sIf, ↓w_expr, ↓w_par, ↓w_par3, ↓w_asg, ↓w_aug, ↓w_sub, ↓w_for, ↓w_raise, ↓w_break, ↓w_cont, ↓w_op2, ↓w_op1, ↓w_cb, ↓w_c, ↓w_var, ↓w_nil, ↓w_cons, ↓w_tup, ↓w_lst, ↓w_new, ↓w_if, ↓w_test, ↓w_tru, ↓w_not, ↓w_and, ↓w_or, ↓w_andV, ↓w_orV, ↓w_notV, ↓w_chain, ↓w_call, ↓w_callK, ↓w_sl, ↓w_part0, ↓w_part1, ↓w_isi, ↓w_join, ↓w_mt, ↓w_lc, ↓w_lcN, ↓w_lcA, ↓w_it, ↓w_range1, ↓w_range2, ↓w_enum, ↓w_enumS, ↓w_zip,   OkX_ok, OkX_err, OkX_stuck, OkX_guard, o_addS, o_addT, o_addLL, o_addRL, o_addII, o_subI, o_mulI, o_mulS, o_fdivI, o_modI, o_powI, o_negI, o_ltI, o_leI, o_gtI, o_geI, o_ltS, o_leS, o_gtS, o_geS, o_eqI, o_eqS, o_neI, o_neS, o_isD, o_isnotD, o_inS, o_ixS, o_ixT, o_ixL, o_ixR, o_slS, o_slT, o_slL, o_slR, o_lenS, o_lenT, o_lenL, o_lenR, o_absI, o_intI, o_intB, o_tupT, o_tupL, o_tupR, o_maxI, o_minI,   List.set_cons_zero, List.set_cons_succ, List.getElem?_cons_zero, List.getElem?_cons_succ, List.map_cons, List.map_nil, List.length_cons, List.length_nil, List.replicate_succ, List.replicate_zero, List.cons_append, List.nil_append, Nat.reduceSub, Nat.reduceAdd, Nat.reduceLeDiff, exists_eq_left', D.bl.injEq, D.int.injEq, D.str.injEq, D.ref.injEq, D.tup.injEq, true_and, and_true, if_true, if_false, Bool.false_eq_true, Bool.not_true, Bool.not_false, decide_true, decide_false, bindP, bindPs, isK, atI_0, atI_1, atI_2, atI_3, ixN_0, ixN_1, Nat.zero_add, LINE, Nat.zero_le, truD, wipeD, Option.some.injEq]
  exact q
end
end Lw
end
section
set_option Elab.async false
set_option linter.all false
set_option maxRecDepth 100000
set_option maxHeartbeats 4000000
namespace Lw
open PySem PySem.Spec PyProof.Rows L2 LamX He MP
/-! Euclid's turns, by Fibonacci -/
def fibP : Nat → Nat × Nat
  | 0 => (0, 1)
  | n + 1 => ((fibP n).2, (fibP n).1 + (fibP n).2)
def fb (n : Nat) : Nat := (fibP n).1
theorem fb2 (n : Nat) : fb (n + 2) = fb n + fb (n + 1) := rfl
def fin : Nat → Nat → Nat → Prop
  | 0, _, b => b = 0
  | k + 1, a, b => b = 0 ∨ fin k b (a % b)
theorem fin_of : ∀ (k : Nat), (∀ a b, b ≤ a → b < fb (k + 1) → fin k a b) ∧ (∀ a b, b ≤ a → b < fb (k + 2) → fin (k + 1) a b)
  | 0 => by
    have h1 : ∀ a b, b ≤ a → b < fb 1 → fin 0 a b := fun a b _ h => by
      have : fb 1 = 1 := rfl
      unfold fin; omega
    refine ⟨h1, fun a b _ h => ?_⟩
    have : fb 2 = 1 := rfl
    have h : b < fb 2 := h
    unfold fin; left; omega
  | k + 1 => by
    obtain ⟨h1, h2⟩ := fin_of k
    refine ⟨h2, fun a b hab h => ?_⟩
    by_cases z : b = 0
    · exact .inl z
    · refine .inr ?_
      have hr : a % b < b := Nat.mod_lt a (by omega)
      by_cases hs : a % b < fb (k + 2)
      · exact h2 b (a % b) (by omega) hs
      · by_cases z2 : a % b = 0
        · exact .inl z2
        · refine .inr (h1 (a % b) (b % (a % b)) (Nat.le_of_lt (Nat.mod_lt _ (by omega))) ?_)
          have h3 : b % (a % b) ≤ b - a % b := by
            have := Nat.div_add_mod b (a % b)
            have h4 : 1 ≤ b / (a % b) := Nat.div_pos (by omega) (by omega)
            have h5 : (a % b) * 1 ≤ (a % b) * (b / (a % b)) := Nat.mul_le_mul_left _ h4
            omega
          have h4 : fb (k + 3) = fb (k + 1) + fb (k + 2) := fb2 (k + 1)
          have h : b < fb (k + 3) := h
          omega
theorem fin_start {a b : Nat} (ha : a < 10 ^ 40) (hb : b < 10 ^ 40) : fin 199 a b := by
  have hf : 10 ^ 40 < fb 197 := by decide +kernel
  by_cases z : b = 0
  · exact .inl z
  · refine .inr ?_
    exact (fin_of 197).2 b (a % b) (Nat.le_of_lt (Nat.mod_lt a (by omega))) (by
      have h1 := Nat.mod_lt a (show 0 < b by omega)
      have h2 : fb 199 = fb 197 + fb 198 := fb2 197
      show a % b < fb 199
      omega)
theorem fin_mono : ∀ {k a b : Nat}, fin k a b → fin (k + 1) a b
  | 0, a, b, h => .inl h
  | k + 1, a, b, h => by
    rcases h with h | h
    · exact .inl h
    · exact .inr (fin_mono h)
theorem fin_le {j k a b : Nat} (h : fin j a b) (l : j ≤ k) : fin k a b := by
  induction l with
  | refl => exact h
  | step _ ih => exact fin_mono ih
/-! one step -/
def cut (x y : Int) : Int := if (decide (x < 0) = decide (y < 0)) then ((x.natAbs / y.natAbs : Nat) : Int) else -((x.natAbs / y.natAbs : Nat) : Int)
theorem cut_rest (x y : Int) : (cut x y * y - x).natAbs = x.natAbs % y.natAbs := by
  have key : ∀ a b : Nat, ((a / b : Nat) : Int) * b - a = -((a % b : Nat) : Int) := fun a b => by
    have := Nat.div_add_mod a b
    have h : ((b : Int) * ((a / b : Nat) : Int) + ((a % b : Nat) : Int)) = (a : Int) := by exact_mod_cast this
    rw [Int.mul_comm ((a / b : Nat) : Int)]
    omega
  unfold cut
  have k := key x.natAbs y.natAbs
  by_cases hx : x < 0 <;> by_cases hy : y < 0
  · simp only [hx, hy, if_true]
    have e1 : x = -(x.natAbs : Int) := by omega
    have e2 : y = -(y.natAbs : Int) := by omega
    generalize x.natAbs = a at *
    generalize y.natAbs = b at *
    subst e1 e2
    rw [Int.mul_neg]; omega
  · simp only [hx, hy, decide_true, decide_false, Bool.true_eq_false, if_false]
    have e1 : x = -(x.natAbs : Int) := by omega
    have e2 : y = (y.natAbs : Int) := by omega
    generalize x.natAbs = a at *
    generalize y.natAbs = b at *
    subst e1 e2
    rw [Int.neg_mul]; omega
  · simp only [hx, hy, decide_true, decide_false, Bool.false_eq_true, if_false]
    have e1 : x = (x.natAbs : Int) := by omega
    have e2 : y = -(y.natAbs : Int) := by omega
    generalize x.natAbs = a at *
    generalize y.natAbs = b at *
    subst e1 e2
    rw [Int.neg_mul, Int.mul_neg]; omega
  · simp only [hx, hy, if_true]
    have e1 : x = (x.natAbs : Int) := by omega
    have e2 : y = (y.natAbs : Int) := by omega
    generalize x.natAbs = a at *
    generalize y.natAbs = b at *
    subst e1 e2
    omega
theorem cut_sm {m : Nat} {x y : Int} (hx : Sm m x) : Sm m (cut x y) := by
  have : (cut x y).natAbs = x.natAbs / y.natAbs := by
    unfold cut
    split
    · rw [Int.natAbs_natCast]
    · rw [Int.natAbs_neg, Int.natAbs_natCast]
  unfold Sm at *
  rw [this]
  exact Nat.lt_of_le_of_lt (Nat.div_le_self _ _) hx
theorem rest_sm {m : Nat} {x y : Int} (hy : Sm m y) (h0 : y ≠ 0) : Sm m (cut x y * y - x) := by
  unfold Sm at *
  rw [cut_rest]
  exact Nat.lt_trans (Nat.mod_lt _ (by omega)) hy
/-! the way -/
def eu : Nat → Int → Int → List Int × Int × Int
  | 0, x, y => ([], x, y)
  | n + 1, x, y => if y = 0 then ([], x, y) else
    let r := eu n y (cut x y * y - x)
    (cut x y :: r.1, r.2)
theorem eu_stop {n : Nat} {x : Int} : eu n x 0 = ([], x, 0) := by cases n <;> simp [eu]
theorem eu_end : ∀ {n : Nat} {x y : Int}, fin n x.natAbs y.natAbs → (eu n x y).2.2 = 0
  | 0, x, y, h => by
    have h : y.natAbs = 0 := h
    show y = 0
    omega
  | n + 1, x, y, h => by
    unfold eu
    split
    · assumption
    · rename_i hy
      rcases h with h | h
      · omega
      · exact eu_end (n := n) (x := y) (y := cut x y * y - x) (by rw [cut_rest]; exact h)
theorem eu_more : ∀ {n : Nat} {x y : Int}, fin n x.natAbs y.natAbs → eu (n + 1) x y = eu n x y
  | 0, x, y, h => by
    have h : y.natAbs = 0 := h
    have : y = 0 := by omega
    subst this
    rw [eu_stop, eu_stop]
  | n + 1, x, y, h => by
    unfold eu
    split
    · rfl
    · rename_i hy
      rcases h with h | h
      · omega
      · rw [eu_more (n := n) (x := y) (y := cut x y * y - x) (by rw [cut_rest]; exact h)]
theorem eu_le {j k : Nat} {x y : Int} (h : fin j x.natAbs y.natAbs) (l : j ≤ k) : eu k x y = eu j x y := by
  induction l with
  | refl => rfl
  | step l ih => rw [eu_more (fin_le h l), ih]
theorem eu_len : ∀ {n : Nat} {x y : Int}, (eu n x y).1.length ≤ n
  | 0, _, _ => Nat.le_refl _
  | n + 1, x, y => by
    unfold eu
    split
    · exact Nat.zero_le _
    · exact Nat.succ_le_succ eu_len
theorem eu_gcd : ∀ {n : Nat} {x y : Int}, Nat.gcd (eu n x y).2.1.natAbs (eu n x y).2.2.natAbs = Nat.gcd x.natAbs y.natAbs
  | 0, _, _ => rfl
  | n + 1, x, y => by
    unfold eu
    split
    · rfl
    · rename_i hy
      show Nat.gcd (eu n y (cut x y * y - x)).2.1.natAbs (eu n y (cut x y * y - x)).2.2.natAbs = _
      rw [eu_gcd, cut_rest, Nat.gcd_comm y.natAbs, ← Nat.gcd_rec, Nat.gcd_comm]
def tabs (t : Tb) : List Int → Tb
  | [] => t
  | m :: l => tabs (mulT t (0, -1, 1, m)) l
theorem tabs_app (t : Tb) : ∀ (l : List Int) (m : Int), tabs t (l ++ [m]) = mulT (tabs t l) (0, -1, 1, m)
  | [], m => rfl
  | k :: l, m => by
    show tabs (mulT t (0, -1, 1, k)) (l ++ [m]) = _
    rw [tabs_app]; rfl
theorem tabs_det (t : Tb) : ∀ (l : List Int), detT (tabs t l) = detT t
  | [] => rfl
  | k :: l => by
    show detT (tabs (mulT t (0, -1, 1, k)) l) = _
    rw [tabs_det, det_mul]
    have : detT (0, -1, 1, k) = 1 := by unfold detT; simp
    rw [this, Int.mul_one]
theorem tabs_led : ∀ (n : Nat) (p : Int × Int) (t : Tb) (x y : Int), ledP p t = (x, y) → ledP p (tabs t (eu n x y).1) = (eu n x y).2
  | 0, p, t, x, y, h => h
  | n + 1, p, t, x, y, h => by
    unfold eu
    split
    · exact h
    · refine tabs_led n p _ y (cut x y * y - x) ?_
      rw [led_mul, h]
      unfold ledP
      simp
      grind
end Lw
end
section
set_option Elab.async false
set_option linter.all false
set_option maxRecDepth 100000
set_option maxHeartbeats 4000000
namespace Lw
open PySem PySem.Spec PyProof.Rows L2 LamX He MP
section
variable {h t : List MO} {P : D → List MO → Prop} {X : Ex → List MO → Prop}
theorem eqD_bl {a b : Bool} : eqD h (.bl a) (.bl b) = some (decide (a = b)) := by cases a <;> cases b <;> rfl
theorem fdivNN (x y : Int) : ((x.natAbs : Int).fdiv (y.natAbs : Int)) = ((x.natAbs / y.natAbs : Nat) : Int) := fdivN _ _
theorem log_small {n : Nat} (hn : n < 2 ^ 8000) : n.log2 < 9000 := by
  by_cases z : n = 0
  · subst z; decide
  · have := (Nat.log2_lt z).mpr hn
    omega
theorem sm_log {m : Nat} {y : Int} (hy : Sm m y) (hm : m ≤ 8000) : ((y.natAbs : Int)).natAbs.log2 < 9000 := by
  rw [Int.natAbs_natCast]
  exact log_small (Nat.lt_of_lt_of_le hy (Nat.pow_le_pow_right (by decide) hm))
theorem cutoff_ok {m : Nat} {x y : Int} (hy : Sm m y) (hm : m ≤ 8000) (h0 : y ≠ 0) (q : P (.int (cut x y)) h) : OkX (m_cut_off [.int x, .int y] h) P X := by
  unfold m_cut_off; rw [w_run]; unfold b_cut_off
  simp (dsimp := false) only [o_eqD, eqD_bl, ↓Kp_app, ↓w_seq, ↓w_sNil, ↓w_set, ↓w_ret, ↓w_retN, ↓w_sIf, ↓w_expr, ↓w_par, ↓w_par3, ↓w_asg, ↓w_aug, ↓w_sub, ↓w_for, ↓w_raise, ↓w_break, ↓w_cont, ↓w_op2, ↓w_op1, ↓w_cb, ↓w_c, ↓w_var, ↓w_nil, ↓w_cons, ↓w_tup, ↓w_lst, ↓w_new, ↓w_if, ↓w_test, ↓w_tru, ↓w_not, ↓w_and, ↓w_or, ↓w_andV, ↓w_orV, ↓w_notV, ↓w_chain, ↓w_call, ↓w_callK, ↓w_sl, ↓w_part0, ↓w_part1, ↓w_isi, ↓w_join, ↓w_mt, ↓w_lc, ↓w_lcN, ↓w_lcA, ↓w_it, ↓w_range1, ↓w_range2, ↓w_enum, ↓w_enumS, ↓w_zip,   OkX_ok, OkX_err, OkX_stuck, OkX_guard, o_addS, o_addT, o_addLL, o_addRL, o_addII, o_subI, o_mulI, o_mulS, o_fdivI, o_modI, o_powI, o_negI, o_ltI, o_leI, o_gtI, o_geI, o_ltS, o_leS, o_gtS, o_geS, o_eqI, o_eqS, o_neI, o_neS, o_isD, o_isnotD, o_inS, o_ixS, o_ixT, o_ixL, o_ixR, o_slS, o_slT, o_slL, o_slR, o_lenS, o_lenT, o_lenL, o_lenR, o_absI, o_intI, o_intB, o_tupT, o_tupL, o_tupR, o_maxI, o_minI,   List.set_cons_zero, List.set_cons_succ, List.getElem?_cons_zero, List.getElem?_cons_succ, List.map_cons, List.map_nil, List.length_cons, List.length_nil, List.replicate_succ, List.replicate_zero, List.cons_append, List.nil_append, Nat.reduceSub, Nat.reduceAdd, Nat.reduceLeDiff, exists_eq_left', D.bl.injEq, D.int.injEq, D.str.injEq, D.ref.injEq, D.tup.injEq, true_and, and_true, if_true, if_false, Bool.false_eq_true, Bool.not_true, Bool.not_false, decide_true, decide_false, bindP, bindPs, isK, atI_0, atI_1, atI_2, atI_3, ixN_0, ixN_1, Nat.zero_add, LINE, Nat.zero_le, truD, wipeD, Option.some.injEq]
  refine ⟨⟨by omega, sm_log hy hm⟩, ?_⟩
  rw [fdivNN]
  unfold cut at q
  by_cases e : decide (x < 0) = decide (y < 0)
  · rw [if_pos e] at q
    simp only [e, decide_true, if_true]
    exact q
  · rw [if_neg e] at q
    simp only [e, decide_false, Bool.false_eq_true, if_false]
    exact q
theorem lcut_ok {m : Nat} {x y : Int} (hx : Sm m x) (hy : Sm m y) (hm : m ≤ 8000) (h0 : y ≠ 0) (q : P (.int (cut x y)) h) : OkX (m__law_cut [.int x, .int y] h) P X := by
  unfold m__law_cut; rw [w_run]; unfold b__law_cut
  simp (dsimp := false) only [↓Kp_app, ↓w_seq, ↓w_sNil, ↓w_set, ↓w_ret, ↓w_retN, ↓w_sIf, ↓w_expr, ↓w_par, ↓w_par3, ↓w_asg, ↓w_aug, ↓w_sub, ↓w_for, ↓w_raise, ↓w_break, ↓w_cont, ↓w_op2, ↓w_op1, ↓w_cb, ↓w_c, ↓w_var, ↓w_nil, ↓w_cons, ↓w_tup, ↓w_lst, ↓w_new, ↓w_if, ↓w_test, ↓w_tru, ↓w_not, ↓w_and, ↓w_or, ↓w_andV, ↓w_orV, ↓w_notV, ↓w_chain, ↓w_call, ↓w_callK, ↓w_sl, ↓w_part0, ↓w_part1, ↓w_isi, ↓w_join, ↓w_mt, ↓w_lc, ↓w_lcN, ↓w_lcA, ↓w_it, ↓w_range1, ↓w_range2, ↓w_enum, ↓w_enumS, ↓w_zip,   OkX_ok, OkX_err, OkX_stuck, OkX_guard, o_addS, o_addT, o_addLL, o_addRL, o_addII, o_subI, o_mulI, o_mulS, o_fdivI, o_modI, o_powI, o_negI, o_ltI, o_leI, o_gtI, o_geI, o_ltS, o_leS, o_gtS, o_geS, o_eqI, o_eqS, o_neI, o_neS, o_isD, o_isnotD, o_inS, o_ixS, o_ixT, o_ixL, o_ixR, o_slS, o_slT, o_slL, o_slR, o_lenS, o_lenT, o_lenL, o_lenR, o_absI, o_intI, o_intB, o_tupT, o_tupL, o_tupR, o_maxI, o_minI,   List.set_cons_zero, List.set_cons_succ, List.getElem?_cons_zero, List.getElem?_cons_succ, List.map_cons, List.map_nil, List.length_cons, List.length_nil, List.replicate_succ, List.replicate_zero, List.cons_append, List.nil_append, Nat.reduceSub, Nat.reduceAdd, Nat.reduceLeDiff, exists_eq_left', D.bl.injEq, D.int.injEq, D.str.injEq, D.ref.injEq, D.tup.injEq, true_and, and_true, if_true, if_false, Bool.false_eq_true, Bool.not_true, Bool.not_false, decide_true, decide_false, bindP, bindPs, isK, atI_0, atI_1, atI_2, atI_3, ixN_0, ixN_1, Nat.zero_add, LINE, Nat.zero_le, truD, wipeD, Option.some.injEq]
  refine ⟨⟨by omega, sm_log hy hm⟩, hx.ok hy, ?_⟩
  rw [fdivNN, Int.zero_sub]
  unfold cut at q
  by_cases e : decide (x < 0) = decide (y < 0)
  · rw [if_pos e] at q
    have : 0 ≤ x * y := by
      by_cases hx : x < 0
      · have hy : y < 0 := by simpa [hx] using e
        exact Int.mul_nonneg_of_nonpos_of_nonpos (by omega) (by omega)
      · have hy : ¬ y < 0 := by simpa [hx] using e
        exact Int.mul_nonneg (by omega) (by omega)
    simp only [this, decide_true, if_true]
    exact q
  · rw [if_neg e] at q
    by_cases z : x = 0
    · subst z
      simp at q ⊢
      exact q
    · have : ¬ 0 ≤ x * y := by
        by_cases hx : x < 0
        · have hy : 0 < y := by
            by_cases c : y < 0
            · simp [hx, c] at e
            · omega
          have := Int.mul_neg_of_neg_of_pos hx hy
          omega
        · have hy : y < 0 := by
            by_cases c : y < 0
            · exact c
            · simp [hx, c] at e
          have := Int.mul_neg_of_pos_of_neg (show 0 < x by omega) hy
          omega
      simp only [this, decide_false, Bool.false_eq_true, if_false]
      exact q
theorem app_len {l : List Int} {m : Int} (hl : l.length < 1000) : gAppend (l.map D.int) [.int m] = some (.non, (l ++ [m]).map D.int) := by
  rw [app_append (by rw [List.length_map]; exact Nat.lt_of_lt_of_le hl (show 1000 ≤ LINE by decide))]
  simp
theorem atI_last {l : List Int} {m : Int} : atI ((l ++ [m]).map D.int) (-1) = some (.int m) := by
  unfold atI ixN
  simp [-List.map_append]
  rw [show (-1 + ((l.length : Int) + 1)).toNat = l.length by omega, if_pos (by omega)]
  simp
theorem deF_ints {n k : Nat} : ∀ l : List Int, (l.map D.int).mapM (deF n h (k + 1)) = some (l.map D.int)
  | [] => rfl
  | i :: l => by
    rw [List.map_cons, List.mapM_cons, deF_ints l]
    rfl
theorem deD_steps {l : List Int} {a b : Int} : deD 0 [.lst (l.map D.int)] (.tup [.ref 0, .tup [.int a, .int b]]) = some (.tup [.lst (l.map .int), .tup [.int a, .int b]]) := by
  have e : ((l.map D.int).mapM (deF 0 [.lst (l.map D.int)] 7)) = some (l.map D.int) := deF_ints l
  show (List.mapM (deF 0 [.lst (l.map D.int)] 8) [.ref 0, .tup [.int a, .int b]]).map D.tup = _
  rw [List.mapM_cons]
  have e2 : deF 0 [.lst (l.map D.int)] 8 (.ref 0) = some (.lst (l.map D.int)) := by
    show ((l.map D.int).mapM (deF 0 [.lst (l.map D.int)] 7)).map D.lst = _
    rw [e]; rfl
  rw [e2]
  rfl
theorem steps_ok {x y : Int} (hx : light x) (hy : light y) (q : P (.tup [.lst ((eu 199 x y).1.map .int), dP (eu 199 x y).2]) h) : OkX (m_steps_told [dP (x, y)] h) P X := by
  have f0 : fin 199 x.natAbs y.natAbs := fin_start (by unfold light at hx; omega) (by unfold light at hy; omega)
  have endq := eu_end f0
  unfold m_steps_told
  refine w_pure rfl ?_
  rw [w_run]; unfold b_steps_told
  simp (dsimp := false) only [↓Kp_app, ↓w_seq, ↓w_sNil, ↓w_set, ↓w_ret, ↓w_retN, ↓w_sIf, ↓w_expr, ↓w_par, ↓w_par3, ↓w_asg, ↓w_aug, ↓w_sub, ↓w_for, ↓w_raise, ↓w_break, ↓w_cont, ↓w_op2, ↓w_op1, ↓w_cb, ↓w_c, ↓w_var, ↓w_nil, ↓w_cons, ↓w_tup, ↓w_lst, ↓w_new, ↓w_if, ↓w_test, ↓w_tru, ↓w_not, ↓w_and, ↓w_or, ↓w_andV, ↓w_orV, ↓w_notV, ↓w_chain, ↓w_call, ↓w_callK, ↓w_sl, ↓w_part0, ↓w_part1, ↓w_isi, ↓w_join, ↓w_mt, ↓w_lc, ↓w_lcN, ↓w_lcA, ↓w_it, ↓w_range1, ↓w_range2, ↓w_enum, ↓w_enumS, ↓w_zip,   OkX_ok, OkX_err, OkX_stuck, OkX_guard, o_addS, o_addT, o_addLL, o_addRL, o_addII, o_subI, o_mulI, o_mulS, o_fdivI, o_modI, o_powI, o_negI, o_ltI, o_leI, o_gtI, o_geI, o_ltS, o_leS, o_gtS, o_geS, o_eqI, o_eqS, o_neI, o_neS, o_isD, o_isnotD, o_inS, o_ixS, o_ixT, o_ixL, o_ixR, o_slS, o_slT, o_slL, o_slR, o_lenS, o_lenT, o_lenL, o_lenR, o_absI, o_intI, o_intB, o_tupT, o_tupL, o_tupR, o_maxI, o_minI,   List.set_cons_zero, List.set_cons_succ, List.getElem?_cons_zero, List.getElem?_cons_succ, List.map_cons, List.map_nil, List.length_cons, List.length_nil, List.replicate_succ, List.replicate_zero, List.cons_append, List.nil_append, Nat.reduceSub, Nat.reduceAdd, Nat.reduceLeDiff, exists_eq_left', D.bl.injEq, D.int.injEq, D.str.injEq, D.ref.injEq, D.tup.injEq, true_and, and_true, if_true, if_false, Bool.false_eq_true, Bool.not_true, Bool.not_false, decide_true, decide_false, bindP, bindPs, isK, atI_0, atI_1, atI_2, atI_3, ixN_0, ixN_1, Nat.zero_add, LINE, Nat.zero_le, truD, wipeD, Option.some.injEq]
  refine w_loopW (fun k ρ h' => ∃ (l : List Int) (a b : Int), ρ = [some (dP (x, y)), some (.int a), some (.int b), some (.ref 0)] ∧ h' = [.lst (l.map .int)] ∧ Sm 140 a ∧ Sm 140 b ∧ fin k a.natAbs b.natAbs ∧ k ≤ 199 ∧ l.length + k ≤ 199 ∧ eu 199 x y = (l ++ (eu k a b).1, (eu k a b).2)) (fun k ρ h' i => ?_) 100000 199 _ _ (by decide) ⟨[], x, y, rfl, rfl, hx.sm, hy.sm, f0, Nat.le_refl _, by simp, by simp⟩
  obtain ⟨l, a, b, rfl, rfl, sa, sb, hf, hk, hlk, he⟩ := i
  simp (dsimp := false) only [↓Kp_app, ↓w_seq, ↓w_sNil, ↓w_set, ↓w_ret, ↓w_retN, ↓w_sIf, ↓w_expr, ↓w_par, ↓w_par3, ↓w_asg, ↓w_aug, ↓w_sub, ↓w_for, ↓w_raise, ↓w_break, ↓w_cont, ↓w_op2, ↓w_op1, ↓w_cb, ↓w_c, ↓w_var, ↓w_nil, ↓w_cons, ↓w_tup, ↓w_lst, ↓w_new, ↓w_if, ↓w_test, ↓w_tru, ↓w_not, ↓w_and, ↓w_or, ↓w_andV, ↓w_orV, ↓w_notV, ↓w_chain, ↓w_call, ↓w_callK, ↓w_sl, ↓w_part0, ↓w_part1, ↓w_isi, ↓w_join, ↓w_mt, ↓w_lc, ↓w_lcN, ↓w_lcA, ↓w_it, ↓w_range1, ↓w_range2, ↓w_enum, ↓w_enumS, ↓w_zip,   OkX_ok, OkX_err, OkX_stuck, OkX_guard, o_addS, o_addT, o_addLL, o_addRL, o_addII, o_subI, o_mulI, o_mulS, o_fdivI, o_modI, o_powI, o_negI, o_ltI, o_leI, o_gtI, o_geI, o_ltS, o_leS, o_gtS, o_geS, o_eqI, o_eqS, o_neI, o_neS, o_isD, o_isnotD, o_inS, o_ixS, o_ixT, o_ixL, o_ixR, o_slS, o_slT, o_slL, o_slR, o_lenS, o_lenT, o_lenL, o_lenR, o_absI, o_intI, o_intB, o_tupT, o_tupL, o_tupR, o_maxI, o_minI,   List.set_cons_zero, List.set_cons_succ, List.getElem?_cons_zero, List.getElem?_cons_succ, List.map_cons, List.map_nil, List.length_cons, List.length_nil, List.replicate_succ, List.replicate_zero, List.cons_append, List.nil_append, Nat.reduceSub, Nat.reduceAdd, Nat.reduceLeDiff, exists_eq_left', D.bl.injEq, D.int.injEq, D.str.injEq, D.ref.injEq, D.tup.injEq, true_and, and_true, if_true, if_false, Bool.false_eq_true, Bool.not_true, Bool.not_false, decide_true, decide_false, bindP, bindPs, isK, atI_0, atI_1, atI_2, atI_3, ixN_0, ixN_1, Nat.zero_add, LINE, Nat.zero_le, truD, wipeD, Option.some.injEq]
  by_cases z : b = 0
  · subst z
    rw [eu_stop, List.append_nil] at he
    rw [he] at q
    simp only [Int.reduceEq, decide_true, Bool.not_true, Bool.false_eq_true, if_false]
    exact ⟨_, deD_steps, q⟩
  · simp only [z, decide_false, Bool.not_false, if_true]
    cases k with
    | zero => have : b.natAbs = 0 := hf; omega
    | succ k =>
      rcases hf with hf | hf
      · omega
      have hl0 : ∀ d : List D, hl [MO.lst d] 0 = some d := fun _ => rfl
      refine cutoff_ok sb (by decide) z ?_
      simp (dsimp := false) only [hl0, app_len (show l.length < 1000 by omega), atI_last, ↓Kp_app, ↓w_seq, ↓w_sNil, ↓w_set, ↓w_ret, ↓w_retN, ↓w_sIf, ↓w_expr, ↓w_par, ↓w_par3, ↓w_asg, ↓w_aug, ↓w_sub, ↓w_for, ↓w_raise, ↓w_break, ↓w_cont, ↓w_op2, ↓w_op1, ↓w_cb, ↓w_c, ↓w_var, ↓w_nil, ↓w_cons, ↓w_tup, ↓w_lst, ↓w_new, ↓w_if, ↓w_test, ↓w_tru, ↓w_not, ↓w_and, ↓w_or, ↓w_andV, ↓w_orV, ↓w_notV, ↓w_chain, ↓w_call, ↓w_callK, ↓w_sl, ↓w_part0, ↓w_part1, ↓w_isi, ↓w_join, ↓w_mt, ↓w_lc, ↓w_lcN, ↓w_lcA, ↓w_it, ↓w_range1, ↓w_range2, ↓w_enum, ↓w_enumS, ↓w_zip,   OkX_ok, OkX_err, OkX_stuck, OkX_guard, o_addS, o_addT, o_addLL, o_addRL, o_addII, o_subI, o_mulI, o_mulS, o_fdivI, o_modI, o_powI, o_negI, o_ltI, o_leI, o_gtI, o_geI, o_ltS, o_leS, o_gtS, o_geS, o_eqI, o_eqS, o_neI, o_neS, o_isD, o_isnotD, o_inS, o_ixS, o_ixT, o_ixL, o_ixR, o_slS, o_slT, o_slL, o_slR, o_lenS, o_lenT, o_lenL, o_lenR, o_absI, o_intI, o_intB, o_tupT, o_tupL, o_tupR, o_maxI, o_minI,   List.set_cons_zero, List.set_cons_succ, List.getElem?_cons_zero, List.getElem?_cons_succ, List.map_cons, List.map_nil, List.length_cons, List.length_nil, List.replicate_succ, List.replicate_zero, List.cons_append, List.nil_append, Nat.reduceSub, Nat.reduceAdd, Nat.reduceLeDiff, exists_eq_left', D.bl.injEq, D.int.injEq, D.str.injEq, D.ref.injEq, D.tup.injEq, true_and, and_true, if_true, if_false, Bool.false_eq_true, Bool.not_true, Bool.not_false, decide_true, decide_false, bindP, bindPs, isK, atI_0, atI_1, atI_2, atI_3, ixN_0, ixN_1, Nat.zero_add, LINE, Nat.zero_le, truD, wipeD, Option.some.injEq]
      refine ⟨(cut_sm sa).ok sb, k, by omega, l ++ [cut a b], b, cut a b * b - a, rfl, rfl, sb, rest_sm sb z, by rw [cut_rest]; exact hf, by omega, by simp; omega, ?_⟩
      rw [he]
      conv => lhs; unfold eu
      rw [if_neg z]
      simp
theorem row_sm : ∀ {n : Nat} {x y : Int} {m : Nat}, Sm m x → Sm m y → ∀ k ∈ (eu n x y).1, Sm m k
  | 0, _, _, _, _, _, k, h => by cases h
  | n + 1, x, y, m, hx, hy, k, h => by
    unfold eu at h
    split at h
    · cases h
    · rename_i z
      rcases List.mem_cons.mp h with rfl | h
      · exact cut_sm hx
      · exact row_sm hy (rest_sm hy z) k h
theorem stepT {m : Nat} {k : Int} (hk : Sm m k) (h1 : 1 ≤ m) : SmT m (0, -1, 1, k) := by
  have : (2 : Nat) ^ 1 ≤ 2 ^ m := Nat.pow_le_pow_right (by decide) h1
  exact ⟨by unfold Sm; show (0 : Nat) < 2 ^ m; omega, by unfold Sm; show (1 : Nat) < 2 ^ m; omega, by unfold Sm; show (1 : Nat) < 2 ^ m; omega, hk⟩
theorem tabs_sm : ∀ (l : List Int) (t : Tb) (m : Nat), SmT m t → (∀ k ∈ l, Sm 140 k) → SmT (m + 141 * l.length) (tabs t l)
  | [], t, m, ht, _ => ht
  | k :: l, t, m, ht, h => by
    have := tabs_sm l (mulT t (0, -1, 1, k)) (m + 140 + 1) (ht.mul (stepT (h k List.mem_cons_self) (by decide))) fun k m => h k (List.mem_cons_of_mem _ m)
    exact this.mono (by simp; omega)
theorem one_sm : SmT 1 (1, 0, 0, 1) := ⟨by unfold Sm; decide, by unfold Sm; decide, by unfold Sm; decide, by unfold Sm; decide⟩
theorem minus_ok {t : Tb} (q : P (dT (negT t)) h) : OkX (m_minus_of [dT t] h) P X := by
  unfold m_minus_of; rw [w_run]; unfold b_minus_of
  simp (dsimp := false) only [atI_0, atI_1, atI_2, atI_3, ↓Kp_app, ↓w_seq, ↓w_sNil, ↓w_set, ↓w_ret, ↓w_retN, ↓w_sIf, ↓w_expr, ↓w_par, ↓w_par3, ↓w_asg, ↓w_aug, ↓w_sub, ↓w_for, ↓w_raise, ↓w_break, ↓w_cont, ↓w_op2, ↓w_op1, ↓w_cb, ↓w_c, ↓w_var, ↓w_nil, ↓w_cons, ↓w_tup, ↓w_lst, ↓w_new, ↓w_if, ↓w_test, ↓w_tru, ↓w_not, ↓w_and, ↓w_or, ↓w_andV, ↓w_orV, ↓w_notV, ↓w_chain, ↓w_call, ↓w_callK, ↓w_sl, ↓w_part0, ↓w_part1, ↓w_isi, ↓w_join, ↓w_mt, ↓w_lc, ↓w_lcN, ↓w_lcA, ↓w_it, ↓w_range1, ↓w_range2, ↓w_enum, ↓w_enumS, ↓w_zip,   OkX_ok, OkX_err, OkX_stuck, OkX_guard, o_addS, o_addT, o_addLL, o_addRL, o_addII, o_subI, o_mulI, o_mulS, o_fdivI, o_modI, o_powI, o_negI, o_ltI, o_leI, o_gtI, o_geI, o_ltS, o_leS, o_gtS, o_geS, o_eqI, o_eqS, o_neI, o_neS, o_isD, o_isnotD, o_inS, o_ixS, o_ixT, o_ixL, o_ixR, o_slS, o_slT, o_slL, o_slR, o_lenS, o_lenT, o_lenL, o_lenR, o_absI, o_intI, o_intB, o_tupT, o_tupL, o_tupR, o_maxI, o_minI,   List.set_cons_zero, List.set_cons_succ, List.getElem?_cons_zero, List.getElem?_cons_succ, List.map_cons, List.map_nil, List.length_cons, List.length_nil, List.replicate_succ, List.replicate_zero, List.cons_append, List.nil_append, Nat.reduceSub, Nat.reduceAdd, Nat.reduceLeDiff, exists_eq_left', D.bl.injEq, D.int.injEq, D.str.injEq, D.ref.injEq, D.tup.injEq, true_and, and_true, if_true, if_false, Bool.false_eq_true, Bool.not_true, Bool.not_false, decide_true, decide_false, bindP, bindPs, isK, atI_0, atI_1, atI_2, atI_3, ixN_0, ixN_1, Nat.zero_add, LINE, Nat.zero_le, truD, wipeD, Option.some.injEq]
  exact q
theorem lneg_ok {t : Tb} (q : P (dT (negT t)) h) : OkX (m__law_neg [dT t] h) P X := by
  unfold m__law_neg; rw [w_run]; unfold b__law_neg
  simp (dsimp := false) only [atI_0, atI_1, atI_2, atI_3, ↓Kp_app, ↓w_seq, ↓w_sNil, ↓w_set, ↓w_ret, ↓w_retN, ↓w_sIf, ↓w_expr, ↓w_par, ↓w_par3, ↓w_asg, ↓w_aug, ↓w_sub, ↓w_for, ↓w_raise, ↓w_break, ↓w_cont, ↓w_op2, ↓w_op1, ↓w_cb, ↓w_c, ↓w_var, ↓w_nil, ↓w_cons, ↓w_tup, ↓w_lst, ↓w_new, ↓w_if, ↓w_test, ↓w_tru, ↓w_not, ↓w_and, ↓w_or, ↓w_andV, ↓w_orV, ↓w_notV, ↓w_chain, ↓w_call, ↓w_callK, ↓w_sl, ↓w_part0, ↓w_part1, ↓w_isi, ↓w_join, ↓w_mt, ↓w_lc, ↓w_lcN, ↓w_lcA, ↓w_it, ↓w_range1, ↓w_range2, ↓w_enum, ↓w_enumS, ↓w_zip,   OkX_ok, OkX_err, OkX_stuck, OkX_guard, o_addS, o_addT, o_addLL, o_addRL, o_addII, o_subI, o_mulI, o_mulS, o_fdivI, o_modI, o_powI, o_negI, o_ltI, o_leI, o_gtI, o_geI, o_ltS, o_leS, o_gtS, o_geS, o_eqI, o_eqS, o_neI, o_neS, o_isD, o_isnotD, o_inS, o_ixS, o_ixT, o_ixL, o_ixR, o_slS, o_slT, o_slL, o_slR, o_lenS, o_lenT, o_lenL, o_lenR, o_absI, o_intI, o_intB, o_tupT, o_tupL, o_tupR, o_maxI, o_minI,   List.set_cons_zero, List.set_cons_succ, List.getElem?_cons_zero, List.getElem?_cons_succ, List.map_cons, List.map_nil, List.length_cons, List.length_nil, List.replicate_succ, List.replicate_zero, List.cons_append, List.nil_append, Nat.reduceSub, Nat.reduceAdd, Nat.reduceLeDiff, exists_eq_left', D.bl.injEq, D.int.injEq, D.str.injEq, D.ref.injEq, D.tup.injEq, true_and, and_true, if_true, if_false, Bool.false_eq_true, Bool.not_true, Bool.not_false, decide_true, decide_false, bindP, bindPs, isK, atI_0, atI_1, atI_2, atI_3, ixN_0, ixN_1, Nat.zero_add, LINE, Nat.zero_le, truD, wipeD, Option.some.injEq]
  simp only [Int.zero_sub]
  exact q
/-- the row, the divisor, the table of a pair -/
@[irreducible] def rowE (x y : Int) : List Int := (eu 199 x y).1
@[irreducible] def endE (x y : Int) : Int := (eu 199 x y).2.1
@[irreducible] def tabE (x y : Int) : Tb := if endE x y < 0 then negT (tabs (1, 0, 0, 1) (rowE x y)) else tabs (1, 0, 0, 1) (rowE x y)
theorem rowE_len {x y : Int} : (rowE x y).length ≤ 199 := by unfold rowE; exact eu_len
theorem rowE_sm {x y : Int} (hx : light x) (hy : light y) : ∀ k ∈ rowE x y, Sm 140 k := by unfold rowE; exact row_sm hx.sm hy.sm
theorem eu_eq {x y : Int} (hx : light x) (hy : light y) : eu 199 x y = (rowE x y, endE x y, 0) := by
  have := eu_end (n := 199) (x := x) (y := y) (fin_start (by unfold light at hx; omega) (by unfold light at hy; omega))
  unfold rowE endE
  rw [← this]
theorem tab_sm {x y : Int} (hx : light x) (hy : light y) : SmT 30000 (tabs (1, 0, 0, 1) (rowE x y)) :=
  (tabs_sm (rowE x y) _ 1 one_sm (rowE_sm hx hy)).mono (by have := @rowE_len x y; omega)
theorem reducedT_ok {x y : Int} (hx : light x) (hy : light y) (q : P (.tup [.int ((endE x y).natAbs : Nat), dT (tabE x y)]) h) : OkX (m_reduced_told [dP (x, y)] h) P X := by
  unfold m_reduced_told; rw [w_run]; unfold b_reduced_told
  simp (dsimp := false) only [↓Kp_app, ↓w_seq, ↓w_sNil, ↓w_set, ↓w_ret, ↓w_retN, ↓w_sIf, ↓w_expr, ↓w_par, ↓w_par3, ↓w_asg, ↓w_aug, ↓w_sub, ↓w_for, ↓w_raise, ↓w_break, ↓w_cont, ↓w_op2, ↓w_op1, ↓w_cb, ↓w_c, ↓w_var, ↓w_nil, ↓w_cons, ↓w_tup, ↓w_lst, ↓w_new, ↓w_if, ↓w_test, ↓w_tru, ↓w_not, ↓w_and, ↓w_or, ↓w_andV, ↓w_orV, ↓w_notV, ↓w_chain, ↓w_call, ↓w_callK, ↓w_sl, ↓w_part0, ↓w_part1, ↓w_isi, ↓w_join, ↓w_mt, ↓w_lc, ↓w_lcN, ↓w_lcA, ↓w_it, ↓w_range1, ↓w_range2, ↓w_enum, ↓w_enumS, ↓w_zip,   OkX_ok, OkX_err, OkX_stuck, OkX_guard, o_addS, o_addT, o_addLL, o_addRL, o_addII, o_subI, o_mulI, o_mulS, o_fdivI, o_modI, o_powI, o_negI, o_ltI, o_leI, o_gtI, o_geI, o_ltS, o_leS, o_gtS, o_geS, o_eqI, o_eqS, o_neI, o_neS, o_isD, o_isnotD, o_inS, o_ixS, o_ixT, o_ixL, o_ixR, o_slS, o_slT, o_slL, o_slR, o_lenS, o_lenT, o_lenL, o_lenR, o_absI, o_intI, o_intB, o_tupT, o_tupL, o_tupR, o_maxI, o_minI,   List.set_cons_zero, List.set_cons_succ, List.getElem?_cons_zero, List.getElem?_cons_succ, List.map_cons, List.map_nil, List.length_cons, List.length_nil, List.replicate_succ, List.replicate_zero, List.cons_append, List.nil_append, Nat.reduceSub, Nat.reduceAdd, Nat.reduceLeDiff, exists_eq_left', D.bl.injEq, D.int.injEq, D.str.injEq, D.ref.injEq, D.tup.injEq, true_and, and_true, if_true, if_false, Bool.false_eq_true, Bool.not_true, Bool.not_false, decide_true, decide_false, bindP, bindPs, isK, atI_0, atI_1, atI_2, atI_3, ixN_0, ixN_1, Nat.zero_add, LINE, Nat.zero_le, truD, wipeD, Option.some.injEq]
  refine steps_ok hx hy ?_
  rw [eu_eq hx hy]
  simp (dsimp := false) only [↓Kp_app, ↓w_seq, ↓w_sNil, ↓w_set, ↓w_ret, ↓w_retN, ↓w_sIf, ↓w_expr, ↓w_par, ↓w_par3, ↓w_asg, ↓w_aug, ↓w_sub, ↓w_for, ↓w_raise, ↓w_break, ↓w_cont, ↓w_op2, ↓w_op1, ↓w_cb, ↓w_c, ↓w_var, ↓w_nil, ↓w_cons, ↓w_tup, ↓w_lst, ↓w_new, ↓w_if, ↓w_test, ↓w_tru, ↓w_not, ↓w_and, ↓w_or, ↓w_andV, ↓w_orV, ↓w_notV, ↓w_chain, ↓w_call, ↓w_callK, ↓w_sl, ↓w_part0, ↓w_part1, ↓w_isi, ↓w_join, ↓w_mt, ↓w_lc, ↓w_lcN, ↓w_lcA, ↓w_it, ↓w_range1, ↓w_range2, ↓w_enum, ↓w_enumS, ↓w_zip,   OkX_ok, OkX_err, OkX_stuck, OkX_guard, o_addS, o_addT, o_addLL, o_addRL, o_addII, o_subI, o_mulI, o_mulS, o_fdivI, o_modI, o_powI, o_negI, o_ltI, o_leI, o_gtI, o_geI, o_ltS, o_leS, o_gtS, o_geS, o_eqI, o_eqS, o_neI, o_neS, o_isD, o_isnotD, o_inS, o_ixS, o_ixT, o_ixL, o_ixR, o_slS, o_slT, o_slL, o_slR, o_lenS, o_lenT, o_lenL, o_lenR, o_absI, o_intI, o_intB, o_tupT, o_tupL, o_tupR, o_maxI, o_minI,   List.set_cons_zero, List.set_cons_succ, List.getElem?_cons_zero, List.getElem?_cons_succ, List.map_cons, List.map_nil, List.length_cons, List.length_nil, List.replicate_succ, List.replicate_zero, List.cons_append, List.nil_append, Nat.reduceSub, Nat.reduceAdd, Nat.reduceLeDiff, exists_eq_left', D.bl.injEq, D.int.injEq, D.str.injEq, D.ref.injEq, D.tup.injEq, true_and, and_true, if_true, if_false, Bool.false_eq_true, Bool.not_true, Bool.not_false, decide_true, decide_false, bindP, bindPs, isK, atI_0, atI_1, atI_2, atI_3, ixN_0, ixN_1, Nat.zero_add, LINE, Nat.zero_le, truD, wipeD, Option.some.injEq]
  refine ⟨_, rfl, ?_⟩
  have rs := rowE_sm hx hy
  have rl := @rowE_len x y
  refine w_loopFm D.int (fun l ρ h' => ∃ x4, ρ = [some (dP (x, y)), some (.lst ((rowE x y).map .int)), some (dP (endE x y, 0)), some (dT (tabs (1, 0, 0, 1) l)), x4] ∧ h' = h) (fun _ _ _ _ => rfl) (rowE x y) _ _ ⟨none, rfl, rfl⟩ (fun l k r ρ h' e i => ?_) (fun ρ h' i => ?_)
  · obtain ⟨x4, rfl, rfl⟩ := i
    refine ⟨_, rfl, ?_⟩
    simp (dsimp := false) only [↓Kp_app, ↓w_seq, ↓w_sNil, ↓w_set, ↓w_ret, ↓w_retN, ↓w_sIf, ↓w_expr, ↓w_par, ↓w_par3, ↓w_asg, ↓w_aug, ↓w_sub, ↓w_for, ↓w_raise, ↓w_break, ↓w_cont, ↓w_op2, ↓w_op1, ↓w_cb, ↓w_c, ↓w_var, ↓w_nil, ↓w_cons, ↓w_tup, ↓w_lst, ↓w_new, ↓w_if, ↓w_test, ↓w_tru, ↓w_not, ↓w_and, ↓w_or, ↓w_andV, ↓w_orV, ↓w_notV, ↓w_chain, ↓w_call, ↓w_callK, ↓w_sl, ↓w_part0, ↓w_part1, ↓w_isi, ↓w_join, ↓w_mt, ↓w_lc, ↓w_lcN, ↓w_lcA, ↓w_it, ↓w_range1, ↓w_range2, ↓w_enum, ↓w_enumS, ↓w_zip,   OkX_ok, OkX_err, OkX_stuck, OkX_guard, o_addS, o_addT, o_addLL, o_addRL, o_addII, o_subI, o_mulI, o_mulS, o_fdivI, o_modI, o_powI, o_negI, o_ltI, o_leI, o_gtI, o_geI, o_ltS, o_leS, o_gtS, o_geS, o_eqI, o_eqS, o_neI, o_neS, o_isD, o_isnotD, o_inS, o_ixS, o_ixT, o_ixL, o_ixR, o_slS, o_slT, o_slL, o_slR, o_lenS, o_lenT, o_lenL, o_lenR, o_absI, o_intI, o_intB, o_tupT, o_tupL, o_tupR, o_maxI, o_minI,   List.set_cons_zero, List.set_cons_succ, List.getElem?_cons_zero, List.getElem?_cons_succ, List.map_cons, List.map_nil, List.length_cons, List.length_nil, List.replicate_succ, List.replicate_zero, List.cons_append, List.nil_append, Nat.reduceSub, Nat.reduceAdd, Nat.reduceLeDiff, exists_eq_left', D.bl.injEq, D.int.injEq, D.str.injEq, D.ref.injEq, D.tup.injEq, true_and, and_true, if_true, if_false, Bool.false_eq_true, Bool.not_true, Bool.not_false, decide_true, decide_false, bindP, bindPs, isK, atI_0, atI_1, atI_2, atI_3, ixN_0, ixN_1, Nat.zero_add, LINE, Nat.zero_le, truD, wipeD, Option.some.injEq]
    have hk : Sm 140 k := rs k (by rw [e]; simp)
    have hl : SmT (1 + 141 * l.length) (tabs (1, 0, 0, 1) l) := tabs_sm l _ 1 one_sm fun k m => rs k (by rw [e]; exact List.mem_append_left _ m)
    have ll := congrArg List.length e
    simp at ll
    refine times_ok (t := (0, -1, 1, k)) hl (stepT hk (by decide)) (by omega) ?_
    simp (dsimp := false) only [↓Kp_app, ↓w_seq, ↓w_sNil, ↓w_set, ↓w_ret, ↓w_retN, ↓w_sIf, ↓w_expr, ↓w_par, ↓w_par3, ↓w_asg, ↓w_aug, ↓w_sub, ↓w_for, ↓w_raise, ↓w_break, ↓w_cont, ↓w_op2, ↓w_op1, ↓w_cb, ↓w_c, ↓w_var, ↓w_nil, ↓w_cons, ↓w_tup, ↓w_lst, ↓w_new, ↓w_if, ↓w_test, ↓w_tru, ↓w_not, ↓w_and, ↓w_or, ↓w_andV, ↓w_orV, ↓w_notV, ↓w_chain, ↓w_call, ↓w_callK, ↓w_sl, ↓w_part0, ↓w_part1, ↓w_isi, ↓w_join, ↓w_mt, ↓w_lc, ↓w_lcN, ↓w_lcA, ↓w_it, ↓w_range1, ↓w_range2, ↓w_enum, ↓w_enumS, ↓w_zip,   OkX_ok, OkX_err, OkX_stuck, OkX_guard, o_addS, o_addT, o_addLL, o_addRL, o_addII, o_subI, o_mulI, o_mulS, o_fdivI, o_modI, o_powI, o_negI, o_ltI, o_leI, o_gtI, o_geI, o_ltS, o_leS, o_gtS, o_geS, o_eqI, o_eqS, o_neI, o_neS, o_isD, o_isnotD, o_inS, o_ixS, o_ixT, o_ixL, o_ixR, o_slS, o_slT, o_slL, o_slR, o_lenS, o_lenT, o_lenL, o_lenR, o_absI, o_intI, o_intB, o_tupT, o_tupL, o_tupR, o_maxI, o_minI,   List.set_cons_zero, List.set_cons_succ, List.getElem?_cons_zero, List.getElem?_cons_succ, List.map_cons, List.map_nil, List.length_cons, List.length_nil, List.replicate_succ, List.replicate_zero, List.cons_append, List.nil_append, Nat.reduceSub, Nat.reduceAdd, Nat.reduceLeDiff, exists_eq_left', D.bl.injEq, D.int.injEq, D.str.injEq, D.ref.injEq, D.tup.injEq, true_and, and_true, if_true, if_false, Bool.false_eq_true, Bool.not_true, Bool.not_false, decide_true, decide_false, bindP, bindPs, isK, atI_0, atI_1, atI_2, atI_3, ixN_0, ixN_1, Nat.zero_add, LINE, Nat.zero_le, truD, wipeD, Option.some.injEq]
    exact ⟨_, by rw [tabs_app]⟩
  · obtain ⟨x4, rfl, rfl⟩ := i
    simp (dsimp := false) only [atI_0, ↓Kp_app, ↓w_seq, ↓w_sNil, ↓w_set, ↓w_ret, ↓w_retN, ↓w_sIf, ↓w_expr, ↓w_par, ↓w_par3, ↓w_asg, ↓w_aug, ↓w_sub, ↓w_for, ↓w_raise, ↓w_break, ↓w_cont, ↓w_op2, ↓w_op1, ↓w_cb, ↓w_c, ↓w_var, ↓w_nil, ↓w_cons, ↓w_tup, ↓w_lst, ↓w_new, ↓w_if, ↓w_test, ↓w_tru, ↓w_not, ↓w_and, ↓w_or, ↓w_andV, ↓w_orV, ↓w_notV, ↓w_chain, ↓w_call, ↓w_callK, ↓w_sl, ↓w_part0, ↓w_part1, ↓w_isi, ↓w_join, ↓w_mt, ↓w_lc, ↓w_lcN, ↓w_lcA, ↓w_it, ↓w_range1, ↓w_range2, ↓w_enum, ↓w_enumS, ↓w_zip,   OkX_ok, OkX_err, OkX_stuck, OkX_guard, o_addS, o_addT, o_addLL, o_addRL, o_addII, o_subI, o_mulI, o_mulS, o_fdivI, o_modI, o_powI, o_negI, o_ltI, o_leI, o_gtI, o_geI, o_ltS, o_leS, o_gtS, o_geS, o_eqI, o_eqS, o_neI, o_neS, o_isD, o_isnotD, o_inS, o_ixS, o_ixT, o_ixL, o_ixR, o_slS, o_slT, o_slL, o_slR, o_lenS, o_lenT, o_lenL, o_lenR, o_absI, o_intI, o_intB, o_tupT, o_tupL, o_tupR, o_maxI, o_minI,   List.set_cons_zero, List.set_cons_succ, List.getElem?_cons_zero, List.getElem?_cons_succ, List.map_cons, List.map_nil, List.length_cons, List.length_nil, List.replicate_succ, List.replicate_zero, List.cons_append, List.nil_append, Nat.reduceSub, Nat.reduceAdd, Nat.reduceLeDiff, exists_eq_left', D.bl.injEq, D.int.injEq, D.str.injEq, D.ref.injEq, D.tup.injEq, true_and, and_true, if_true, if_false, Bool.false_eq_true, Bool.not_true, Bool.not_false, decide_true, decide_false, bindP, bindPs, isK, atI_0, atI_1, atI_2, atI_3, ixN_0, ixN_1, Nat.zero_add, LINE, Nat.zero_le, truD, wipeD, Option.some.injEq]
    unfold tabE at q
    by_cases z : endE x y < 0
    · rw [if_pos z] at q
      simp only [z, decide_true, if_true]
      refine minus_ok ?_
      simp (dsimp := false) only [↓Kp_app, ↓w_seq, ↓w_sNil, ↓w_set, ↓w_ret, ↓w_retN, ↓w_sIf, ↓w_expr, ↓w_par, ↓w_par3, ↓w_asg, ↓w_aug, ↓w_sub, ↓w_for, ↓w_raise, ↓w_break, ↓w_cont, ↓w_op2, ↓w_op1, ↓w_cb, ↓w_c, ↓w_var, ↓w_nil, ↓w_cons, ↓w_tup, ↓w_lst, ↓w_new, ↓w_if, ↓w_test, ↓w_tru, ↓w_not, ↓w_and, ↓w_or, ↓w_andV, ↓w_orV, ↓w_notV, ↓w_chain, ↓w_call, ↓w_callK, ↓w_sl, ↓w_part0, ↓w_part1, ↓w_isi, ↓w_join, ↓w_mt, ↓w_lc, ↓w_lcN, ↓w_lcA, ↓w_it, ↓w_range1, ↓w_range2, ↓w_enum, ↓w_enumS, ↓w_zip,   OkX_ok, OkX_err, OkX_stuck, OkX_guard, o_addS, o_addT, o_addLL, o_addRL, o_addII, o_subI, o_mulI, o_mulS, o_fdivI, o_modI, o_powI, o_negI, o_ltI, o_leI, o_gtI, o_geI, o_ltS, o_leS, o_gtS, o_geS, o_eqI, o_eqS, o_neI, o_neS, o_isD, o_isnotD, o_inS, o_ixS, o_ixT, o_ixL, o_ixR, o_slS, o_slT, o_slL, o_slR, o_lenS, o_lenT, o_lenL, o_lenR, o_absI, o_intI, o_intB, o_tupT, o_tupL, o_tupR, o_maxI, o_minI,   List.set_cons_zero, List.set_cons_succ, List.getElem?_cons_zero, List.getElem?_cons_succ, List.map_cons, List.map_nil, List.length_cons, List.length_nil, List.replicate_succ, List.replicate_zero, List.cons_append, List.nil_append, Nat.reduceSub, Nat.reduceAdd, Nat.reduceLeDiff, exists_eq_left', D.bl.injEq, D.int.injEq, D.str.injEq, D.ref.injEq, D.tup.injEq, true_and, and_true, if_true, if_false, Bool.false_eq_true, Bool.not_true, Bool.not_false, decide_true, decide_false, bindP, bindPs, isK, atI_0, atI_1, atI_2, atI_3, ixN_0, ixN_1, Nat.zero_add, LINE, Nat.zero_le, truD, wipeD, Option.some.injEq]
      exact q
    · rw [if_neg z] at q
      simp only [z, decide_false, Bool.false_eq_true, if_false]
      exact q
theorem quotients_ok {v : D} {x y : Int} (hv : v = .tup [.int x, .int y] ∨ v = .lst [.int x, .int y]) (hx : light x) (hy : light y) (q : P (.tup ((rowE x y).map .int)) h) : OkX (m_quotients [v] h) P X := by
  unfold m_quotients; rw [w_run]; unfold b_quotients
  simp (dsimp := false) only [↓Kp_app, ↓w_seq, ↓w_sNil, ↓w_set, ↓w_ret, ↓w_retN, ↓w_sIf, ↓w_expr, ↓w_par, ↓w_par3, ↓w_asg, ↓w_aug, ↓w_sub, ↓w_for, ↓w_raise, ↓w_break, ↓w_cont, ↓w_op2, ↓w_op1, ↓w_cb, ↓w_c, ↓w_var, ↓w_nil, ↓w_cons, ↓w_tup, ↓w_lst, ↓w_new, ↓w_if, ↓w_test, ↓w_tru, ↓w_not, ↓w_and, ↓w_or, ↓w_andV, ↓w_orV, ↓w_notV, ↓w_chain, ↓w_call, ↓w_callK, ↓w_sl, ↓w_part0, ↓w_part1, ↓w_isi, ↓w_join, ↓w_mt, ↓w_lc, ↓w_lcN, ↓w_lcA, ↓w_it, ↓w_range1, ↓w_range2, ↓w_enum, ↓w_enumS, ↓w_zip,   OkX_ok, OkX_err, OkX_stuck, OkX_guard, o_addS, o_addT, o_addLL, o_addRL, o_addII, o_subI, o_mulI, o_mulS, o_fdivI, o_modI, o_powI, o_negI, o_ltI, o_leI, o_gtI, o_geI, o_ltS, o_leS, o_gtS, o_geS, o_eqI, o_eqS, o_neI, o_neS, o_isD, o_isnotD, o_inS, o_ixS, o_ixT, o_ixL, o_ixR, o_slS, o_slT, o_slL, o_slR, o_lenS, o_lenT, o_lenL, o_lenR, o_absI, o_intI, o_intB, o_tupT, o_tupL, o_tupR, o_maxI, o_minI,   List.set_cons_zero, List.set_cons_succ, List.getElem?_cons_zero, List.getElem?_cons_succ, List.map_cons, List.map_nil, List.length_cons, List.length_nil, List.replicate_succ, List.replicate_zero, List.cons_append, List.nil_append, Nat.reduceSub, Nat.reduceAdd, Nat.reduceLeDiff, exists_eq_left', D.bl.injEq, D.int.injEq, D.str.injEq, D.ref.injEq, D.tup.injEq, true_and, and_true, if_true, if_false, Bool.false_eq_true, Bool.not_true, Bool.not_false, decide_true, decide_false, bindP, bindPs, isK, atI_0, atI_1, atI_2, atI_3, ixN_0, ixN_1, Nat.zero_add, LINE, Nat.zero_le, truD, wipeD, Option.some.injEq]
  refine need_ok hv hx hy ?_
  simp (dsimp := false) only [↓Kp_app, ↓w_seq, ↓w_sNil, ↓w_set, ↓w_ret, ↓w_retN, ↓w_sIf, ↓w_expr, ↓w_par, ↓w_par3, ↓w_asg, ↓w_aug, ↓w_sub, ↓w_for, ↓w_raise, ↓w_break, ↓w_cont, ↓w_op2, ↓w_op1, ↓w_cb, ↓w_c, ↓w_var, ↓w_nil, ↓w_cons, ↓w_tup, ↓w_lst, ↓w_new, ↓w_if, ↓w_test, ↓w_tru, ↓w_not, ↓w_and, ↓w_or, ↓w_andV, ↓w_orV, ↓w_notV, ↓w_chain, ↓w_call, ↓w_callK, ↓w_sl, ↓w_part0, ↓w_part1, ↓w_isi, ↓w_join, ↓w_mt, ↓w_lc, ↓w_lcN, ↓w_lcA, ↓w_it, ↓w_range1, ↓w_range2, ↓w_enum, ↓w_enumS, ↓w_zip,   OkX_ok, OkX_err, OkX_stuck, OkX_guard, o_addS, o_addT, o_addLL, o_addRL, o_addII, o_subI, o_mulI, o_mulS, o_fdivI, o_modI, o_powI, o_negI, o_ltI, o_leI, o_gtI, o_geI, o_ltS, o_leS, o_gtS, o_geS, o_eqI, o_eqS, o_neI, o_neS, o_isD, o_isnotD, o_inS, o_ixS, o_ixT, o_ixL, o_ixR, o_slS, o_slT, o_slL, o_slR, o_lenS, o_lenT, o_lenL, o_lenR, o_absI, o_intI, o_intB, o_tupT, o_tupL, o_tupR, o_maxI, o_minI,   List.set_cons_zero, List.set_cons_succ, List.getElem?_cons_zero, List.getElem?_cons_succ, List.map_cons, List.map_nil, List.length_cons, List.length_nil, List.replicate_succ, List.replicate_zero, List.cons_append, List.nil_append, Nat.reduceSub, Nat.reduceAdd, Nat.reduceLeDiff, exists_eq_left', D.bl.injEq, D.int.injEq, D.str.injEq, D.ref.injEq, D.tup.injEq, true_and, and_true, if_true, if_false, Bool.false_eq_true, Bool.not_true, Bool.not_false, decide_true, decide_false, bindP, bindPs, isK, atI_0, atI_1, atI_2, atI_3, ixN_0, ixN_1, Nat.zero_add, LINE, Nat.zero_le, truD, wipeD, Option.some.injEq]
  refine steps_ok hx hy ?_
  simp (dsimp := false) only [atI_0, ↓Kp_app, ↓w_seq, ↓w_sNil, ↓w_set, ↓w_ret, ↓w_retN, ↓w_sIf, ↓w_expr, ↓w_par, ↓w_par3, ↓w_asg, ↓w_aug, ↓w_sub, ↓w_for, ↓w_raise, ↓w_break, ↓w_cont, ↓w_op2, ↓w_op1, ↓w_cb, ↓w_c, ↓w_var, ↓w_nil, ↓w_cons, ↓w_tup, ↓w_lst, ↓w_new, ↓w_if, ↓w_test, ↓w_tru, ↓w_not, ↓w_and, ↓w_or, ↓w_andV, ↓w_orV, ↓w_notV, ↓w_chain, ↓w_call, ↓w_callK, ↓w_sl, ↓w_part0, ↓w_part1, ↓w_isi, ↓w_join, ↓w_mt, ↓w_lc, ↓w_lcN, ↓w_lcA, ↓w_it, ↓w_range1, ↓w_range2, ↓w_enum, ↓w_enumS, ↓w_zip,   OkX_ok, OkX_err, OkX_stuck, OkX_guard, o_addS, o_addT, o_addLL, o_addRL, o_addII, o_subI, o_mulI, o_mulS, o_fdivI, o_modI, o_powI, o_negI, o_ltI, o_leI, o_gtI, o_geI, o_ltS, o_leS, o_gtS, o_geS, o_eqI, o_eqS, o_neI, o_neS, o_isD, o_isnotD, o_inS, o_ixS, o_ixT, o_ixL, o_ixR, o_slS, o_slT, o_slL, o_slR, o_lenS, o_lenT, o_lenL, o_lenR, o_absI, o_intI, o_intB, o_tupT, o_tupL, o_tupR, o_maxI, o_minI,   List.set_cons_zero, List.set_cons_succ, List.getElem?_cons_zero, List.getElem?_cons_succ, List.map_cons, List.map_nil, List.length_cons, List.length_nil, List.replicate_succ, List.replicate_zero, List.cons_append, List.nil_append, Nat.reduceSub, Nat.reduceAdd, Nat.reduceLeDiff, exists_eq_left', D.bl.injEq, D.int.injEq, D.str.injEq, D.ref.injEq, D.tup.injEq, true_and, and_true, if_true, if_false, Bool.false_eq_true, Bool.not_true, Bool.not_false, decide_true, decide_false, bindP, bindPs, isK, atI_0, atI_1, atI_2, atI_3, ixN_0, ixN_1, Nat.zero_add, LINE, Nat.zero_le, truD, wipeD, Option.some.injEq]
  unfold rowE at q
  exact q
theorem reduced_ok {v : D} {x y : Int} (hv : v = .tup [.int x, .int y] ∨ v = .lst [.int x, .int y]) (hx : light x) (hy : light y) (q : P (.tup [.int ((endE x y).natAbs : Nat), dT (tabE x y)]) h) : OkX (m_reduced [v] h) P X := by
  unfold m_reduced; rw [w_run]; unfold b_reduced
  simp (dsimp := false) only [↓Kp_app, ↓w_seq, ↓w_sNil, ↓w_set, ↓w_ret, ↓w_retN, ↓w_sIf, ↓w_expr, ↓w_par, ↓w_par3, ↓w_asg, ↓w_aug, ↓w_sub, ↓w_for, ↓w_raise, ↓w_break, ↓w_cont, ↓w_op2, ↓w_op1, ↓w_cb, ↓w_c, ↓w_var, ↓w_nil, ↓w_cons, ↓w_tup, ↓w_lst, ↓w_new, ↓w_if, ↓w_test, ↓w_tru, ↓w_not, ↓w_and, ↓w_or, ↓w_andV, ↓w_orV, ↓w_notV, ↓w_chain, ↓w_call, ↓w_callK, ↓w_sl, ↓w_part0, ↓w_part1, ↓w_isi, ↓w_join, ↓w_mt, ↓w_lc, ↓w_lcN, ↓w_lcA, ↓w_it, ↓w_range1, ↓w_range2, ↓w_enum, ↓w_enumS, ↓w_zip,   OkX_ok, OkX_err, OkX_stuck, OkX_guard, o_addS, o_addT, o_addLL, o_addRL, o_addII, o_subI, o_mulI, o_mulS, o_fdivI, o_modI, o_powI, o_negI, o_ltI, o_leI, o_gtI, o_geI, o_ltS, o_leS, o_gtS, o_geS, o_eqI, o_eqS, o_neI, o_neS, o_isD, o_isnotD, o_inS, o_ixS, o_ixT, o_ixL, o_ixR, o_slS, o_slT, o_slL, o_slR, o_lenS, o_lenT, o_lenL, o_lenR, o_absI, o_intI, o_intB, o_tupT, o_tupL, o_tupR, o_maxI, o_minI,   List.set_cons_zero, List.set_cons_succ, List.getElem?_cons_zero, List.getElem?_cons_succ, List.map_cons, List.map_nil, List.length_cons, List.length_nil, List.replicate_succ, List.replicate_zero, List.cons_append, List.nil_append, Nat.reduceSub, Nat.reduceAdd, Nat.reduceLeDiff, exists_eq_left', D.bl.injEq, D.int.injEq, D.str.injEq, D.ref.injEq, D.tup.injEq, true_and, and_true, if_true, if_false, Bool.false_eq_true, Bool.not_true, Bool.not_false, decide_true, decide_false, bindP, bindPs, isK, atI_0, atI_1, atI_2, atI_3, ixN_0, ixN_1, Nat.zero_add, LINE, Nat.zero_le, truD, wipeD, Option.some.injEq]
  refine need_ok hv hx hy ?_
  simp (dsimp := false) only [↓Kp_app, ↓w_seq, ↓w_sNil, ↓w_set, ↓w_ret, ↓w_retN, ↓w_sIf, ↓w_expr, ↓w_par, ↓w_par3, ↓w_asg, ↓w_aug, ↓w_sub, ↓w_for, ↓w_raise, ↓w_break, ↓w_cont, ↓w_op2, ↓w_op1, ↓w_cb, ↓w_c, ↓w_var, ↓w_nil, ↓w_cons, ↓w_tup, ↓w_lst, ↓w_new, ↓w_if, ↓w_test, ↓w_tru, ↓w_not, ↓w_and, ↓w_or, ↓w_andV, ↓w_orV, ↓w_notV, ↓w_chain, ↓w_call, ↓w_callK, ↓w_sl, ↓w_part0, ↓w_part1, ↓w_isi, ↓w_join, ↓w_mt, ↓w_lc, ↓w_lcN, ↓w_lcA, ↓w_it, ↓w_range1, ↓w_range2, ↓w_enum, ↓w_enumS, ↓w_zip,   OkX_ok, OkX_err, OkX_stuck, OkX_guard, o_addS, o_addT, o_addLL, o_addRL, o_addII, o_subI, o_mulI, o_mulS, o_fdivI, o_modI, o_powI, o_negI, o_ltI, o_leI, o_gtI, o_geI, o_ltS, o_leS, o_gtS, o_geS, o_eqI, o_eqS, o_neI, o_neS, o_isD, o_isnotD, o_inS, o_ixS, o_ixT, o_ixL, o_ixR, o_slS, o_slT, o_slL, o_slR, o_lenS, o_lenT, o_lenL, o_lenR, o_absI, o_intI, o_intB, o_tupT, o_tupL, o_tupR, o_maxI, o_minI,   List.set_cons_zero, List.set_cons_succ, List.getElem?_cons_zero, List.getElem?_cons_succ, List.map_cons, List.map_nil, List.length_cons, List.length_nil, List.replicate_succ, List.replicate_zero, List.cons_append, List.nil_append, Nat.reduceSub, Nat.reduceAdd, Nat.reduceLeDiff, exists_eq_left', D.bl.injEq, D.int.injEq, D.str.injEq, D.ref.injEq, D.tup.injEq, true_and, and_true, if_true, if_false, Bool.false_eq_true, Bool.not_true, Bool.not_false, decide_true, decide_false, bindP, bindPs, isK, atI_0, atI_1, atI_2, atI_3, ixN_0, ixN_1, Nat.zero_add, LINE, Nat.zero_le, truD, wipeD, Option.some.injEq]
  refine reducedT_ok hx hy ?_
  simp (dsimp := false) only [↓Kp_app, ↓w_seq, ↓w_sNil, ↓w_set, ↓w_ret, ↓w_retN, ↓w_sIf, ↓w_expr, ↓w_par, ↓w_par3, ↓w_asg, ↓w_aug, ↓w_sub, ↓w_for, ↓w_raise, ↓w_break, ↓w_cont, ↓w_op2, ↓w_op1, ↓w_cb, ↓w_c, ↓w_var, ↓w_nil, ↓w_cons, ↓w_tup, ↓w_lst, ↓w_new, ↓w_if, ↓w_test, ↓w_tru, ↓w_not, ↓w_and, ↓w_or, ↓w_andV, ↓w_orV, ↓w_notV, ↓w_chain, ↓w_call, ↓w_callK, ↓w_sl, ↓w_part0, ↓w_part1, ↓w_isi, ↓w_join, ↓w_mt, ↓w_lc, ↓w_lcN, ↓w_lcA, ↓w_it, ↓w_range1, ↓w_range2, ↓w_enum, ↓w_enumS, ↓w_zip,   OkX_ok, OkX_err, OkX_stuck, OkX_guard, o_addS, o_addT, o_addLL, o_addRL, o_addII, o_subI, o_mulI, o_mulS, o_fdivI, o_modI, o_powI, o_negI, o_ltI, o_leI, o_gtI, o_geI, o_ltS, o_leS, o_gtS, o_geS, o_eqI, o_eqS, o_neI, o_neS, o_isD, o_isnotD, o_inS, o_ixS, o_ixT, o_ixL, o_ixR, o_slS, o_slT, o_slL, o_slR, o_lenS, o_lenT, o_lenL, o_lenR, o_absI, o_intI, o_intB, o_tupT, o_tupL, o_tupR, o_maxI, o_minI,   List.set_cons_zero, List.set_cons_succ, List.getElem?_cons_zero, List.getElem?_cons_succ, List.map_cons, List.map_nil, List.length_cons, List.length_nil, List.replicate_succ, List.replicate_zero, List.cons_append, List.nil_append, Nat.reduceSub, Nat.reduceAdd, Nat.reduceLeDiff, exists_eq_left', D.bl.injEq, D.int.injEq, D.str.injEq, D.ref.injEq, D.tup.injEq, true_and, and_true, if_true, if_false, Bool.false_eq_true, Bool.not_true, Bool.not_false, decide_true, decide_false, bindP, bindPs, isK, atI_0, atI_1, atI_2, atI_3, ixN_0, ixN_1, Nat.zero_add, LINE, Nat.zero_le, truD, wipeD, Option.some.injEq]
  exact q
end
end Lw
end
section
set_option Elab.async false
set_option linter.all false
set_option maxRecDepth 100000
set_option maxHeartbeats 4000000
namespace Lw
open PySem PySem.Spec PyProof.Rows L2 LamX He MP
section
variable {h t : List MO} {P : D → List MO → Prop} {X : Ex → List MO → Prop}
theorem below_ints : ∀ l : List Int, belowDs 0 (l.map D.int) = true
  | [] => rfl
  | i :: l => by
    show (belowD 0 (.int i) && belowDs 0 (l.map D.int)) = true
    rw [below_ints l]; rfl
theorem leuclid_ok {x y : Int} (hx : light x) (hy : light y) (q : P (.tup [.tup ((rowE x y).map .int), .int ((endE x y).natAbs : Nat), dT (tabE x y)]) h) : OkX (m__law_euclid [dP (x, y)] h) P X := by
  have f0 : fin 199 x.natAbs y.natAbs := fin_start (by unfold light at hx; omega) (by unfold light at hy; omega)
  have rs := row_sm (n := 199) hx.sm hy.sm
  have ee := eu_eq hx hy
  unfold m__law_euclid
  refine w_pure rfl ?_
  rw [w_run]; unfold b__law_euclid
  simp (dsimp := false) only [↓Kp_app, ↓w_seq, ↓w_sNil, ↓w_set, ↓w_ret, ↓w_retN, ↓w_sIf, ↓w_expr, ↓w_par, ↓w_par3, ↓w_asg, ↓w_aug, ↓w_sub, ↓w_for, ↓w_raise, ↓w_break, ↓w_cont, ↓w_op2, ↓w_op1, ↓w_cb, ↓w_c, ↓w_var, ↓w_nil, ↓w_cons, ↓w_tup, ↓w_lst, ↓w_new, ↓w_if, ↓w_test, ↓w_tru, ↓w_not, ↓w_and, ↓w_or, ↓w_andV, ↓w_orV, ↓w_notV, ↓w_chain, ↓w_call, ↓w_callK, ↓w_sl, ↓w_part0, ↓w_part1, ↓w_isi, ↓w_join, ↓w_mt, ↓w_lc, ↓w_lcN, ↓w_lcA, ↓w_it, ↓w_range1, ↓w_range2, ↓w_enum, ↓w_enumS, ↓w_zip,   OkX_ok, OkX_err, OkX_stuck, OkX_guard, o_addS, o_addT, o_addLL, o_addRL, o_addII, o_subI, o_mulI, o_mulS, o_fdivI, o_modI, o_powI, o_negI, o_ltI, o_leI, o_gtI, o_geI, o_ltS, o_leS, o_gtS, o_geS, o_eqI, o_eqS, o_neI, o_neS, o_isD, o_isnotD, o_inS, o_ixS, o_ixT, o_ixL, o_ixR, o_slS, o_slT, o_slL, o_slR, o_lenS, o_lenT, o_lenL, o_lenR, o_absI, o_intI, o_intB, o_tupT, o_tupL, o_tupR, o_maxI, o_minI,   List.set_cons_zero, List.set_cons_succ, List.getElem?_cons_zero, List.getElem?_cons_succ, List.map_cons, List.map_nil, List.length_cons, List.length_nil, List.replicate_succ, List.replicate_zero, List.cons_append, List.nil_append, Nat.reduceSub, Nat.reduceAdd, Nat.reduceLeDiff, exists_eq_left', D.bl.injEq, D.int.injEq, D.str.injEq, D.ref.injEq, D.tup.injEq, true_and, and_true, if_true, if_false, Bool.false_eq_true, Bool.not_true, Bool.not_false, decide_true, decide_false, bindP, bindPs, isK, atI_0, atI_1, atI_2, atI_3, ixN_0, ixN_1, Nat.zero_add, LINE, Nat.zero_le, truD, wipeD, Option.some.injEq]
  have hl0 : ∀ d : List D, hl [MO.lst d] 0 = some d := fun _ => rfl
  refine ⟨by decide, ?_⟩
  refine w_loopF (fun pre ρ h' => ∃ (l : List Int) (a b : Int) (k : Nat) (x5 x6 : Option D), ρ = [some (dP (x, y)), some (.int a), some (.int b), some (.ref 0), some (dT (tabs (1, 0, 0, 1) l)), x5, x6] ∧ h' = [.lst (l.map .int)] ∧ Sm 140 a ∧ Sm 140 b ∧ fin k a.natAbs b.natAbs ∧ l.length + k ≤ 199 ∧ eu 199 x y = (l ++ (eu k a b).1, (eu k a b).2) ∧ (b = 0 ∨ k + pre.length ≤ 199)) (fun _ _ _ _ => rfl) [] _ _ _ ⟨[], x, y, 199, none, none, rfl, rfl, hx.sm, hy.sm, f0, by simp, by simp, by simp⟩ (fun l0 d r ρ h' e i => ?_) (fun ρ h' i => ?_)
  · obtain ⟨l, a, b, k, x5, x6, rfl, rfl, sa, sb, hf, hlk, he, hp⟩ := i
    refine ⟨_, rfl, ?_⟩
    simp (dsimp := false) only [↓Kp_app, ↓w_seq, ↓w_sNil, ↓w_set, ↓w_ret, ↓w_retN, ↓w_sIf, ↓w_expr, ↓w_par, ↓w_par3, ↓w_asg, ↓w_aug, ↓w_sub, ↓w_for, ↓w_raise, ↓w_break, ↓w_cont, ↓w_op2, ↓w_op1, ↓w_cb, ↓w_c, ↓w_var, ↓w_nil, ↓w_cons, ↓w_tup, ↓w_lst, ↓w_new, ↓w_if, ↓w_test, ↓w_tru, ↓w_not, ↓w_and, ↓w_or, ↓w_andV, ↓w_orV, ↓w_notV, ↓w_chain, ↓w_call, ↓w_callK, ↓w_sl, ↓w_part0, ↓w_part1, ↓w_isi, ↓w_join, ↓w_mt, ↓w_lc, ↓w_lcN, ↓w_lcA, ↓w_it, ↓w_range1, ↓w_range2, ↓w_enum, ↓w_enumS, ↓w_zip,   OkX_ok, OkX_err, OkX_stuck, OkX_guard, o_addS, o_addT, o_addLL, o_addRL, o_addII, o_subI, o_mulI, o_mulS, o_fdivI, o_modI, o_powI, o_negI, o_ltI, o_leI, o_gtI, o_geI, o_ltS, o_leS, o_gtS, o_geS, o_eqI, o_eqS, o_neI, o_neS, o_isD, o_isnotD, o_inS, o_ixS, o_ixT, o_ixL, o_ixR, o_slS, o_slT, o_slL, o_slR, o_lenS, o_lenT, o_lenL, o_lenR, o_absI, o_intI, o_intB, o_tupT, o_tupL, o_tupR, o_maxI, o_minI,   List.set_cons_zero, List.set_cons_succ, List.getElem?_cons_zero, List.getElem?_cons_succ, List.map_cons, List.map_nil, List.length_cons, List.length_nil, List.replicate_succ, List.replicate_zero, List.cons_append, List.nil_append, Nat.reduceSub, Nat.reduceAdd, Nat.reduceLeDiff, exists_eq_left', D.bl.injEq, D.int.injEq, D.str.injEq, D.ref.injEq, D.tup.injEq, true_and, and_true, if_true, if_false, Bool.false_eq_true, Bool.not_true, Bool.not_false, decide_true, decide_false, bindP, bindPs, isK, atI_0, atI_1, atI_2, atI_3, ixN_0, ixN_1, Nat.zero_add, LINE, Nat.zero_le, truD, wipeD, Option.some.injEq]
    by_cases z : b = 0
    · subst z
      simp only [Int.reduceEq, decide_true, Bool.not_true, Bool.false_eq_true, if_false]
      exact ⟨l, a, 0, k, _, _, rfl, rfl, sa, sb, hf, hlk, he, .inl rfl⟩
    · simp only [z, decide_false, Bool.not_false, if_true]
      cases k with
      | zero => have : b.natAbs = 0 := hf; omega
      | succ k =>
        rcases hf with hf | hf
        · omega
        refine lcut_ok sa sb (by decide) z ?_
        simp (dsimp := false) only [hl0, app_len (show l.length < 1000 by omega), ↓Kp_app, ↓w_seq, ↓w_sNil, ↓w_set, ↓w_ret, ↓w_retN, ↓w_sIf, ↓w_expr, ↓w_par, ↓w_par3, ↓w_asg, ↓w_aug, ↓w_sub, ↓w_for, ↓w_raise, ↓w_break, ↓w_cont, ↓w_op2, ↓w_op1, ↓w_cb, ↓w_c, ↓w_var, ↓w_nil, ↓w_cons, ↓w_tup, ↓w_lst, ↓w_new, ↓w_if, ↓w_test, ↓w_tru, ↓w_not, ↓w_and, ↓w_or, ↓w_andV, ↓w_orV, ↓w_notV, ↓w_chain, ↓w_call, ↓w_callK, ↓w_sl, ↓w_part0, ↓w_part1, ↓w_isi, ↓w_join, ↓w_mt, ↓w_lc, ↓w_lcN, ↓w_lcA, ↓w_it, ↓w_range1, ↓w_range2, ↓w_enum, ↓w_enumS, ↓w_zip,   OkX_ok, OkX_err, OkX_stuck, OkX_guard, o_addS, o_addT, o_addLL, o_addRL, o_addII, o_subI, o_mulI, o_mulS, o_fdivI, o_modI, o_powI, o_negI, o_ltI, o_leI, o_gtI, o_geI, o_ltS, o_leS, o_gtS, o_geS, o_eqI, o_eqS, o_neI, o_neS, o_isD, o_isnotD, o_inS, o_ixS, o_ixT, o_ixL, o_ixR, o_slS, o_slT, o_slL, o_slR, o_lenS, o_lenT, o_lenL, o_lenR, o_absI, o_intI, o_intB, o_tupT, o_tupL, o_tupR, o_maxI, o_minI,   List.set_cons_zero, List.set_cons_succ, List.getElem?_cons_zero, List.getElem?_cons_succ, List.map_cons, List.map_nil, List.length_cons, List.length_nil, List.replicate_succ, List.replicate_zero, List.cons_append, List.nil_append, Nat.reduceSub, Nat.reduceAdd, Nat.reduceLeDiff, exists_eq_left', D.bl.injEq, D.int.injEq, D.str.injEq, D.ref.injEq, D.tup.injEq, true_and, and_true, if_true, if_false, Bool.false_eq_true, Bool.not_true, Bool.not_false, decide_true, decide_false, bindP, bindPs, isK, atI_0, atI_1, atI_2, atI_3, ixN_0, ixN_1, Nat.zero_add, LINE, Nat.zero_le, truD, wipeD, Option.some.injEq]
        have hm : ∀ k ∈ l, Sm 140 k := fun k m => rs k (by rw [he]; exact List.mem_append_left _ m)
        rw [by_eqD]
        refine by_okD (t := (0, 0 - 1, 1, cut a b)) (tabs_sm l _ 1 one_sm hm) (n := 140) (stepT (cut_sm sa) (by decide)) (by omega) ?_
        simp (dsimp := false) only [↓Kp_app, ↓w_seq, ↓w_sNil, ↓w_set, ↓w_ret, ↓w_retN, ↓w_sIf, ↓w_expr, ↓w_par, ↓w_par3, ↓w_asg, ↓w_aug, ↓w_sub, ↓w_for, ↓w_raise, ↓w_break, ↓w_cont, ↓w_op2, ↓w_op1, ↓w_cb, ↓w_c, ↓w_var, ↓w_nil, ↓w_cons, ↓w_tup, ↓w_lst, ↓w_new, ↓w_if, ↓w_test, ↓w_tru, ↓w_not, ↓w_and, ↓w_or, ↓w_andV, ↓w_orV, ↓w_notV, ↓w_chain, ↓w_call, ↓w_callK, ↓w_sl, ↓w_part0, ↓w_part1, ↓w_isi, ↓w_join, ↓w_mt, ↓w_lc, ↓w_lcN, ↓w_lcA, ↓w_it, ↓w_range1, ↓w_range2, ↓w_enum, ↓w_enumS, ↓w_zip,   OkX_ok, OkX_err, OkX_stuck, OkX_guard, o_addS, o_addT, o_addLL, o_addRL, o_addII, o_subI, o_mulI, o_mulS, o_fdivI, o_modI, o_powI, o_negI, o_ltI, o_leI, o_gtI, o_geI, o_ltS, o_leS, o_gtS, o_geS, o_eqI, o_eqS, o_neI, o_neS, o_isD, o_isnotD, o_inS, o_ixS, o_ixT, o_ixL, o_ixR, o_slS, o_slT, o_slL, o_slR, o_lenS, o_lenT, o_lenL, o_lenR, o_absI, o_intI, o_intB, o_tupT, o_tupL, o_tupR, o_maxI, o_minI,   List.set_cons_zero, List.set_cons_succ, List.getElem?_cons_zero, List.getElem?_cons_succ, List.map_cons, List.map_nil, List.length_cons, List.length_nil, List.replicate_succ, List.replicate_zero, List.cons_append, List.nil_append, Nat.reduceSub, Nat.reduceAdd, Nat.reduceLeDiff, exists_eq_left', D.bl.injEq, D.int.injEq, D.str.injEq, D.ref.injEq, D.tup.injEq, true_and, and_true, if_true, if_false, Bool.false_eq_true, Bool.not_true, Bool.not_false, decide_true, decide_false, bindP, bindPs, isK, atI_0, atI_1, atI_2, atI_3, ixN_0, ixN_1, Nat.zero_add, LINE, Nat.zero_le, truD, wipeD, Option.some.injEq]
        refine ⟨(cut_sm sa).ok sb, l ++ [cut a b], b, cut a b * b - a, k, _, _, by rw [tabs_app]; rfl, rfl, sb, rest_sm sb z, by rw [cut_rest]; exact hf, by simp; omega, ?_, .inr (by simp; omega)⟩
        rw [he]
        conv => lhs; unfold eu
        rw [if_neg z]
        simp
  · obtain ⟨l, a, b, k, x5, x6, rfl, rfl, sa, sb, hf, hlk, he, hp⟩ := i
    have hb : b = 0 := by
      rcases hp with hp | hp
      · exact hp
      · simp [rangeD] at hp <;> omega
    subst hb
    rw [eu_stop, ee] at he
    simp at he
    obtain ⟨e1, e2⟩ := he
    simp (dsimp := false) only [hl0, ↓Kp_app, ↓w_seq, ↓w_sNil, ↓w_set, ↓w_ret, ↓w_retN, ↓w_sIf, ↓w_expr, ↓w_par, ↓w_par3, ↓w_asg, ↓w_aug, ↓w_sub, ↓w_for, ↓w_raise, ↓w_break, ↓w_cont, ↓w_op2, ↓w_op1, ↓w_cb, ↓w_c, ↓w_var, ↓w_nil, ↓w_cons, ↓w_tup, ↓w_lst, ↓w_new, ↓w_if, ↓w_test, ↓w_tru, ↓w_not, ↓w_and, ↓w_or, ↓w_andV, ↓w_orV, ↓w_notV, ↓w_chain, ↓w_call, ↓w_callK, ↓w_sl, ↓w_part0, ↓w_part1, ↓w_isi, ↓w_join, ↓w_mt, ↓w_lc, ↓w_lcN, ↓w_lcA, ↓w_it, ↓w_range1, ↓w_range2, ↓w_enum, ↓w_enumS, ↓w_zip,   OkX_ok, OkX_err, OkX_stuck, OkX_guard, o_addS, o_addT, o_addLL, o_addRL, o_addII, o_subI, o_mulI, o_mulS, o_fdivI, o_modI, o_powI, o_negI, o_ltI, o_leI, o_gtI, o_geI, o_ltS, o_leS, o_gtS, o_geS, o_eqI, o_eqS, o_neI, o_neS, o_isD, o_isnotD, o_inS, o_ixS, o_ixT, o_ixL, o_ixR, o_slS, o_slT, o_slL, o_slR, o_lenS, o_lenT, o_lenL, o_lenR, o_absI, o_intI, o_intB, o_tupT, o_tupL, o_tupR, o_maxI, o_minI,   List.set_cons_zero, List.set_cons_succ, List.getElem?_cons_zero, List.getElem?_cons_succ, List.map_cons, List.map_nil, List.length_cons, List.length_nil, List.replicate_succ, List.replicate_zero, List.cons_append, List.nil_append, Nat.reduceSub, Nat.reduceAdd, Nat.reduceLeDiff, exists_eq_left', D.bl.injEq, D.int.injEq, D.str.injEq, D.ref.injEq, D.tup.injEq, true_and, and_true, if_true, if_false, Bool.false_eq_true, Bool.not_true, Bool.not_false, decide_true, decide_false, bindP, bindPs, isK, atI_0, atI_1, atI_2, atI_3, ixN_0, ixN_1, Nat.zero_add, LINE, Nat.zero_le, truD, wipeD, Option.some.injEq]
    unfold tabE at q
    by_cases z : endE x y < 0
    · rw [if_pos z] at q
      have : ¬ 0 ≤ a := by omega
      simp only [this, decide_false, Bool.false_eq_true, if_false]
      refine lneg_ok ?_
      simp (dsimp := false) only [↓Kp_app, ↓w_seq, ↓w_sNil, ↓w_set, ↓w_ret, ↓w_retN, ↓w_sIf, ↓w_expr, ↓w_par, ↓w_par3, ↓w_asg, ↓w_aug, ↓w_sub, ↓w_for, ↓w_raise, ↓w_break, ↓w_cont, ↓w_op2, ↓w_op1, ↓w_cb, ↓w_c, ↓w_var, ↓w_nil, ↓w_cons, ↓w_tup, ↓w_lst, ↓w_new, ↓w_if, ↓w_test, ↓w_tru, ↓w_not, ↓w_and, ↓w_or, ↓w_andV, ↓w_orV, ↓w_notV, ↓w_chain, ↓w_call, ↓w_callK, ↓w_sl, ↓w_part0, ↓w_part1, ↓w_isi, ↓w_join, ↓w_mt, ↓w_lc, ↓w_lcN, ↓w_lcA, ↓w_it, ↓w_range1, ↓w_range2, ↓w_enum, ↓w_enumS, ↓w_zip,   OkX_ok, OkX_err, OkX_stuck, OkX_guard, o_addS, o_addT, o_addLL, o_addRL, o_addII, o_subI, o_mulI, o_mulS, o_fdivI, o_modI, o_powI, o_negI, o_ltI, o_leI, o_gtI, o_geI, o_ltS, o_leS, o_gtS, o_geS, o_eqI, o_eqS, o_neI, o_neS, o_isD, o_isnotD, o_inS, o_ixS, o_ixT, o_ixL, o_ixR, o_slS, o_slT, o_slL, o_slR, o_lenS, o_lenT, o_lenL, o_lenR, o_absI, o_intI, o_intB, o_tupT, o_tupL, o_tupR, o_maxI, o_minI,   List.set_cons_zero, List.set_cons_succ, List.getElem?_cons_zero, List.getElem?_cons_succ, List.map_cons, List.map_nil, List.length_cons, List.length_nil, List.replicate_succ, List.replicate_zero, List.cons_append, List.nil_append, Nat.reduceSub, Nat.reduceAdd, Nat.reduceLeDiff, exists_eq_left', D.bl.injEq, D.int.injEq, D.str.injEq, D.ref.injEq, D.tup.injEq, true_and, and_true, if_true, if_false, Bool.false_eq_true, Bool.not_true, Bool.not_false, decide_true, decide_false, bindP, bindPs, isK, atI_0, atI_1, atI_2, atI_3, ixN_0, ixN_1, Nat.zero_add, LINE, Nat.zero_le, truD, wipeD, Option.some.injEq]
      rw [← e1, ← e2]
      refine ⟨_, ?_, q⟩
      unfold deD
      rw [if_pos (by show (belowDs 0 ((rowE x y).map D.int) && true) = true; rw [below_ints]; rfl)]
    · rw [if_neg z] at q
      have : 0 ≤ a := by omega
      simp only [this, decide_true, if_true]
      rw [← e1, ← e2]
      refine ⟨_, ?_, q⟩
      unfold deD
      rw [if_pos (by show (belowDs 0 ((rowE x y).map D.int) && true) = true; rw [below_ints]; rfl)]
theorem fin_400 {a b : Nat} (ha : a < 10 ^ 40) (hb : b < 10 ^ 40) : fin 400 a b := fin_le (fin_start ha hb) (by decide)
theorem shared_ok {x y : Int} (hx : light x) (hy : light y) (q : P (.int (Nat.gcd x.natAbs y.natAbs : Nat)) h) : OkX (m__law_shared [.int x, .int y] h) P X := by
  have f0 : fin 400 x.natAbs y.natAbs := fin_400 (by unfold light at hx; omega) (by unfold light at hy; omega)
  unfold m__law_shared; rw [w_run]; unfold b__law_shared
  simp (dsimp := false) only [↓Kp_app, ↓w_seq, ↓w_sNil, ↓w_set, ↓w_ret, ↓w_retN, ↓w_sIf, ↓w_expr, ↓w_par, ↓w_par3, ↓w_asg, ↓w_aug, ↓w_sub, ↓w_for, ↓w_raise, ↓w_break, ↓w_cont, ↓w_op2, ↓w_op1, ↓w_cb, ↓w_c, ↓w_var, ↓w_nil, ↓w_cons, ↓w_tup, ↓w_lst, ↓w_new, ↓w_if, ↓w_test, ↓w_tru, ↓w_not, ↓w_and, ↓w_or, ↓w_andV, ↓w_orV, ↓w_notV, ↓w_chain, ↓w_call, ↓w_callK, ↓w_sl, ↓w_part0, ↓w_part1, ↓w_isi, ↓w_join, ↓w_mt, ↓w_lc, ↓w_lcN, ↓w_lcA, ↓w_it, ↓w_range1, ↓w_range2, ↓w_enum, ↓w_enumS, ↓w_zip,   OkX_ok, OkX_err, OkX_stuck, OkX_guard, o_addS, o_addT, o_addLL, o_addRL, o_addII, o_subI, o_mulI, o_mulS, o_fdivI, o_modI, o_powI, o_negI, o_ltI, o_leI, o_gtI, o_geI, o_ltS, o_leS, o_gtS, o_geS, o_eqI, o_eqS, o_neI, o_neS, o_isD, o_isnotD, o_inS, o_ixS, o_ixT, o_ixL, o_ixR, o_slS, o_slT, o_slL, o_slR, o_lenS, o_lenT, o_lenL, o_lenR, o_absI, o_intI, o_intB, o_tupT, o_tupL, o_tupR, o_maxI, o_minI,   List.set_cons_zero, List.set_cons_succ, List.getElem?_cons_zero, List.getElem?_cons_succ, List.map_cons, List.map_nil, List.length_cons, List.length_nil, List.replicate_succ, List.replicate_zero, List.cons_append, List.nil_append, Nat.reduceSub, Nat.reduceAdd, Nat.reduceLeDiff, exists_eq_left', D.bl.injEq, D.int.injEq, D.str.injEq, D.ref.injEq, D.tup.injEq, true_and, and_true, if_true, if_false, Bool.false_eq_true, Bool.not_true, Bool.not_false, decide_true, decide_false, bindP, bindPs, isK, atI_0, atI_1, atI_2, atI_3, ixN_0, ixN_1, Nat.zero_add, LINE, Nat.zero_le, truD, wipeD, Option.some.injEq]
  refine ⟨by decide, ?_⟩
  refine w_loopF (fun pre ρ h' => ∃ (a b : Nat) (x2 : Option D), ρ = [some (.int (a : Nat)), some (.int (b : Nat)), x2] ∧ h' = h ∧ pre.length ≤ 400 ∧ a < 2 ^ 140 ∧ b < 2 ^ 140 ∧ fin (400 - pre.length) a b ∧ Nat.gcd a b = Nat.gcd x.natAbs y.natAbs) (fun _ _ _ _ => rfl) [] _ _ _ ⟨x.natAbs, y.natAbs, none, rfl, rfl, by simp, hx.sm, hy.sm, f0, rfl⟩ (fun l d r ρ h' e i => ?_) (fun ρ h' i => ?_)
  · obtain ⟨a, b, x2, rfl, rfl, hl, ha, hb, hf, hg⟩ := i
    refine ⟨_, rfl, ?_⟩
    have hl2 : l.length < 400 := by
      have := congrArg List.length e
      simp [rangeD] at this
      omega
    have e4 : 400 - l.length = (400 - (l.length + 1)) + 1 := by omega
    simp (dsimp := false) only [↓Kp_app, ↓w_seq, ↓w_sNil, ↓w_set, ↓w_ret, ↓w_retN, ↓w_sIf, ↓w_expr, ↓w_par, ↓w_par3, ↓w_asg, ↓w_aug, ↓w_sub, ↓w_for, ↓w_raise, ↓w_break, ↓w_cont, ↓w_op2, ↓w_op1, ↓w_cb, ↓w_c, ↓w_var, ↓w_nil, ↓w_cons, ↓w_tup, ↓w_lst, ↓w_new, ↓w_if, ↓w_test, ↓w_tru, ↓w_not, ↓w_and, ↓w_or, ↓w_andV, ↓w_orV, ↓w_notV, ↓w_chain, ↓w_call, ↓w_callK, ↓w_sl, ↓w_part0, ↓w_part1, ↓w_isi, ↓w_join, ↓w_mt, ↓w_lc, ↓w_lcN, ↓w_lcA, ↓w_it, ↓w_range1, ↓w_range2, ↓w_enum, ↓w_enumS, ↓w_zip,   OkX_ok, OkX_err, OkX_stuck, OkX_guard, o_addS, o_addT, o_addLL, o_addRL, o_addII, o_subI, o_mulI, o_mulS, o_fdivI, o_modI, o_powI, o_negI, o_ltI, o_leI, o_gtI, o_geI, o_ltS, o_leS, o_gtS, o_geS, o_eqI, o_eqS, o_neI, o_neS, o_isD, o_isnotD, o_inS, o_ixS, o_ixT, o_ixL, o_ixR, o_slS, o_slT, o_slL, o_slR, o_lenS, o_lenT, o_lenL, o_lenR, o_absI, o_intI, o_intB, o_tupT, o_tupL, o_tupR, o_maxI, o_minI,   List.set_cons_zero, List.set_cons_succ, List.getElem?_cons_zero, List.getElem?_cons_succ, List.map_cons, List.map_nil, List.length_cons, List.length_nil, List.replicate_succ, List.replicate_zero, List.cons_append, List.nil_append, Nat.reduceSub, Nat.reduceAdd, Nat.reduceLeDiff, exists_eq_left', D.bl.injEq, D.int.injEq, D.str.injEq, D.ref.injEq, D.tup.injEq, true_and, and_true, if_true, if_false, Bool.false_eq_true, Bool.not_true, Bool.not_false, decide_true, decide_false, bindP, bindPs, isK, atI_0, atI_1, atI_2, atI_3, ixN_0, ixN_1, Nat.zero_add, LINE, Nat.zero_le, truD, wipeD, Option.some.injEq]
    by_cases z : b = 0
    · subst z
      simp only [Int.natCast_eq_zero, decide_true, Bool.not_true, Bool.false_eq_true, if_false]
      refine ⟨a, 0, _, rfl, by simp; omega, ha, hb, ?_, hg⟩
      have : ∀ k, fin k a 0 := fun k => by cases k; exact rfl; exact .inl rfl
      exact this _
    · have z2 : ¬ (b : Int) = 0 := by omega
      simp only [z2, decide_false, Bool.not_false, if_true]
      rw [e4] at hf
      rcases hf with hf | hf
      · exact absurd hf z
      · rw [fdivN]
        have hq : Sm 140 (((a / b : Nat) : Int)) := by unfold Sm; rw [Int.natAbs_natCast]; exact Nat.lt_of_le_of_lt (Nat.div_le_self _ _) ha
        refine ⟨⟨z2, by rw [Int.natAbs_natCast]; exact log_small (Nat.lt_of_lt_of_le hb (Nat.pow_le_pow_right (by decide) (by decide)))⟩, hq.ok (show Sm 140 (b : Int) by unfold Sm; rw [Int.natAbs_natCast]; exact hb), b, a % b, some d, ?_, by simp; omega, hb, Nat.lt_trans (Nat.mod_lt _ (by omega)) hb, ?_, ?_⟩
        · have := Nat.div_add_mod a b
          have e5 : ((b : Int) * ((a / b : Nat) : Int) + ((a % b : Nat) : Int)) = (a : Int) := by exact_mod_cast this
          rw [Int.mul_comm] at e5
          have : (a : Int) - ((a / b : Nat) : Int) * (b : Int) = ((a % b : Nat) : Int) := by omega
          rw [this]
        · rw [List.length_append]; exact hf
        · rw [← hg, Nat.gcd_comm b, ← Nat.gcd_rec, Nat.gcd_comm]
  · obtain ⟨a, b, x2, rfl, rfl, hl, ha, hb, hf, hg⟩ := i
    have : 400 - ([] ++ rangeD 0 (Int.toNat 400)).length = 0 := by simp [rangeD]
    rw [this] at hf
    have hb : b = 0 := hf
    subst hb
    simp (dsimp := false) only [↓Kp_app, ↓w_seq, ↓w_sNil, ↓w_set, ↓w_ret, ↓w_retN, ↓w_sIf, ↓w_expr, ↓w_par, ↓w_par3, ↓w_asg, ↓w_aug, ↓w_sub, ↓w_for, ↓w_raise, ↓w_break, ↓w_cont, ↓w_op2, ↓w_op1, ↓w_cb, ↓w_c, ↓w_var, ↓w_nil, ↓w_cons, ↓w_tup, ↓w_lst, ↓w_new, ↓w_if, ↓w_test, ↓w_tru, ↓w_not, ↓w_and, ↓w_or, ↓w_andV, ↓w_orV, ↓w_notV, ↓w_chain, ↓w_call, ↓w_callK, ↓w_sl, ↓w_part0, ↓w_part1, ↓w_isi, ↓w_join, ↓w_mt, ↓w_lc, ↓w_lcN, ↓w_lcA, ↓w_it, ↓w_range1, ↓w_range2, ↓w_enum, ↓w_enumS, ↓w_zip,   OkX_ok, OkX_err, OkX_stuck, OkX_guard, o_addS, o_addT, o_addLL, o_addRL, o_addII, o_subI, o_mulI, o_mulS, o_fdivI, o_modI, o_powI, o_negI, o_ltI, o_leI, o_gtI, o_geI, o_ltS, o_leS, o_gtS, o_geS, o_eqI, o_eqS, o_neI, o_neS, o_isD, o_isnotD, o_inS, o_ixS, o_ixT, o_ixL, o_ixR, o_slS, o_slT, o_slL, o_slR, o_lenS, o_lenT, o_lenL, o_lenR, o_absI, o_intI, o_intB, o_tupT, o_tupL, o_tupR, o_maxI, o_minI,   List.set_cons_zero, List.set_cons_succ, List.getElem?_cons_zero, List.getElem?_cons_succ, List.map_cons, List.map_nil, List.length_cons, List.length_nil, List.replicate_succ, List.replicate_zero, List.cons_append, List.nil_append, Nat.reduceSub, Nat.reduceAdd, Nat.reduceLeDiff, exists_eq_left', D.bl.injEq, D.int.injEq, D.str.injEq, D.ref.injEq, D.tup.injEq, true_and, and_true, if_true, if_false, Bool.false_eq_true, Bool.not_true, Bool.not_false, decide_true, decide_false, bindP, bindPs, isK, atI_0, atI_1, atI_2, atI_3, ixN_0, ixN_1, Nat.zero_add, LINE, Nat.zero_le, truD, wipeD, Option.some.injEq]
    have : a = Nat.gcd x.natAbs y.natAbs := by rw [← hg]; simp
    rw [this]
    exact q
end
end Lw
end
section
set_option Elab.async false
set_option linter.all false
set_option maxRecDepth 100000
set_option maxHeartbeats 4000000
namespace Lw
open PySem PySem.Spec PyProof.Rows L2 LamX He MP
section
variable {h t : List MO} {P : D → List MO → Prop} {X : Ex → List MO → Prop}
theorem absC {PA : List D → List MO → Prop} {i : Nat} {ρ0 : Rho} {it : IterD} (hi : i < ρ0.length) (ck : ckOk it h = true) (zs : List Int) (hz : zs.length < 1000) (q : PA (zs.map fun z => D.int (z.natAbs : Int)) h) :
    OkX (loopC (.nm i) xYes (xCB oAbs (aCons (xVar i) aNil)) it ρ0 (zs.map D.int) [] h) PA X := by
  refine w_loopC D.int (fun l a h' => a = l.map (fun z => D.int (z.natAbs : Int)) ∧ h' = h) (fun _ _ _ e => by rw [e.2]; exact ck) zs h ⟨rfl, rfl⟩ (fun l x r a h' e i' => ?_) (fun a h' i' => ?_)
  · obtain ⟨rfl, rfl⟩ := i'
    refine ⟨_, rfl, ?_⟩
    have e0 : (ρ0.set i (some (D.int x)))[i]? = some (some (D.int x)) := by simp [hi]
    show OkX (Res.ok true h') _ _
    rw [OkX_ok, if_pos rfl]
    simp (dsimp := false) only [e0, ↓Kp_app, ↓w_seq, ↓w_sNil, ↓w_set, ↓w_ret, ↓w_retN, ↓w_sIf, ↓w_expr, ↓w_par, ↓w_par3, ↓w_asg, ↓w_aug, ↓w_sub, ↓w_for, ↓w_raise, ↓w_break, ↓w_cont, ↓w_op2, ↓w_op1, ↓w_cb, ↓w_c, ↓w_var, ↓w_nil, ↓w_cons, ↓w_tup, ↓w_lst, ↓w_new, ↓w_if, ↓w_test, ↓w_tru, ↓w_not, ↓w_and, ↓w_or, ↓w_andV, ↓w_orV, ↓w_notV, ↓w_chain, ↓w_call, ↓w_callK, ↓w_sl, ↓w_part0, ↓w_part1, ↓w_isi, ↓w_join, ↓w_mt, ↓w_lc, ↓w_lcN, ↓w_lcA, ↓w_it, ↓w_range1, ↓w_range2, ↓w_enum, ↓w_enumS, ↓w_zip,   OkX_ok, OkX_err, OkX_stuck, OkX_guard, o_addS, o_addT, o_addLL, o_addRL, o_addII, o_subI, o_mulI, o_mulS, o_fdivI, o_modI, o_powI, o_negI, o_ltI, o_leI, o_gtI, o_geI, o_ltS, o_leS, o_gtS, o_geS, o_eqI, o_eqS, o_neI, o_neS, o_isD, o_isnotD, o_inS, o_ixS, o_ixT, o_ixL, o_ixR, o_slS, o_slT, o_slL, o_slR, o_lenS, o_lenT, o_lenL, o_lenR, o_absI, o_intI, o_intB, o_tupT, o_tupL, o_tupR, o_maxI, o_minI,   List.set_cons_zero, List.set_cons_succ, List.getElem?_cons_zero, List.getElem?_cons_succ, List.map_cons, List.map_nil, List.length_cons, List.length_nil, List.replicate_succ, List.replicate_zero, List.cons_append, List.nil_append, Nat.reduceSub, Nat.reduceAdd, Nat.reduceLeDiff, exists_eq_left', D.bl.injEq, D.int.injEq, D.str.injEq, D.ref.injEq, D.tup.injEq, true_and, and_true, if_true, if_false, Bool.false_eq_true, Bool.not_true, Bool.not_false, decide_true, decide_false, bindP, bindPs, isK, atI_0, atI_1, atI_2, atI_3, ixN_0, ixN_1, Nat.zero_add, LINE, Nat.zero_le, truD, wipeD, Option.some.injEq]
    have := congrArg List.length e
    simp at this
    exact ⟨Nat.lt_of_lt_of_le (show (l.map _).length < 1000 by simp; omega) (show 1000 ≤ LINE by decide), by simp⟩
  · obtain ⟨rfl, rfl⟩ := i'
    exact q
theorem o_max2 {a b : Int} : OkX (oMax [.lst [.int a, .int b]] h) P X = P (.int (max a b)) h := id rfl
theorem o_max4 {a b c d : Int} : OkX (oMax [.lst [.int a, .int b, .int c, .int d]] h) P X = P (.int (max a (max b (max c d)))) h := id rfl
theorem pairs_ok (x : BoxD t h) (q : ∀ ds h', (∀ d ∈ ds, ∃ a b, d = dP (a, b) ∧ light a ∧ light b) → ds.length ≤ 8 → BoxD t h' → P (.lst ds) h') : OkX (m__law_pairs [.ref 1] h) P X := by
  unfold m__law_pairs; rw [w_run]; unfold b__law_pairs
  simp (dsimp := false) only [↓Kp_app, ↓w_seq, ↓w_sNil, ↓w_set, ↓w_ret, ↓w_retN, ↓w_sIf, ↓w_expr, ↓w_par, ↓w_par3, ↓w_asg, ↓w_aug, ↓w_sub, ↓w_for, ↓w_raise, ↓w_break, ↓w_cont, ↓w_op2, ↓w_op1, ↓w_cb, ↓w_c, ↓w_var, ↓w_nil, ↓w_cons, ↓w_tup, ↓w_lst, ↓w_new, ↓w_if, ↓w_test, ↓w_tru, ↓w_not, ↓w_and, ↓w_or, ↓w_andV, ↓w_orV, ↓w_notV, ↓w_chain, ↓w_call, ↓w_callK, ↓w_sl, ↓w_part0, ↓w_part1, ↓w_isi, ↓w_join, ↓w_mt, ↓w_lc, ↓w_lcN, ↓w_lcA, ↓w_it, ↓w_range1, ↓w_range2, ↓w_enum, ↓w_enumS, ↓w_zip,   OkX_ok, OkX_err, OkX_stuck, OkX_guard, o_addS, o_addT, o_addLL, o_addRL, o_addII, o_subI, o_mulI, o_mulS, o_fdivI, o_modI, o_powI, o_negI, o_ltI, o_leI, o_gtI, o_geI, o_ltS, o_leS, o_gtS, o_geS, o_eqI, o_eqS, o_neI, o_neS, o_isD, o_isnotD, o_inS, o_ixS, o_ixT, o_ixL, o_ixR, o_slS, o_slT, o_slL, o_slR, o_lenS, o_lenT, o_lenL, o_lenR, o_absI, o_intI, o_intB, o_tupT, o_tupL, o_tupR, o_maxI, o_minI,   List.set_cons_zero, List.set_cons_succ, List.getElem?_cons_zero, List.getElem?_cons_succ, List.map_cons, List.map_nil, List.length_cons, List.length_nil, List.replicate_succ, List.replicate_zero, List.cons_append, List.nil_append, Nat.reduceSub, Nat.reduceAdd, Nat.reduceLeDiff, exists_eq_left', D.bl.injEq, D.int.injEq, D.str.injEq, D.ref.injEq, D.tup.injEq, true_and, and_true, if_true, if_false, Bool.false_eq_true, Bool.not_true, Bool.not_false, decide_true, decide_false, bindP, bindPs, isK, atI_0, atI_1, atI_2, atI_3, ixN_0, ixN_1, Nat.zero_add, LINE, Nat.zero_le, truD, wipeD, Option.some.injEq]
  refine ⟨⟨by decide, by decide, by decide⟩, ⟨by decide, by decide, by decide⟩, ?_⟩
  rw [pick_eqD]
  refine pick_okD x (by simp) (by simp) fun d h1 hd x1 => ?_
  obtain ⟨high, rfl, g0, g1⟩ : ∃ high : Int, d = .int high ∧ 3 ≤ high ∧ high ≤ 1000000000000000000000000000000000000000 := by
    simp only [List.mem_cons, List.not_mem_nil, or_false] at hd
    rcases hd with rfl | rfl | rfl | rfl | rfl
    · exact ⟨_, rfl, by decide, by decide⟩
    · exact ⟨_, rfl, by decide, by decide⟩
    · exact ⟨_, rfl, by decide, by decide⟩
    · exact ⟨_, rfl, by decide, by decide⟩
    · exact ⟨_, rfl, by decide, by decide⟩
  have sh : Sm 140 high := by unfold Sm; omega
  have lg : (2 * high + 1).natAbs.log2 < 9000 := log_small (Nat.lt_of_lt_of_le (show (2 * high + 1).natAbs < 2 ^ 140 by omega) (Nat.pow_le_pow_right (by decide) (by decide)))
  have m2 : mulOk 2 high := (show Sm 2 2 by unfold Sm; decide).ok sh
  simp (dsimp := false) only [↓Kp_app, ↓w_seq, ↓w_sNil, ↓w_set, ↓w_ret, ↓w_retN, ↓w_sIf, ↓w_expr, ↓w_par, ↓w_par3, ↓w_asg, ↓w_aug, ↓w_sub, ↓w_for, ↓w_raise, ↓w_break, ↓w_cont, ↓w_op2, ↓w_op1, ↓w_cb, ↓w_c, ↓w_var, ↓w_nil, ↓w_cons, ↓w_tup, ↓w_lst, ↓w_new, ↓w_if, ↓w_test, ↓w_tru, ↓w_not, ↓w_and, ↓w_or, ↓w_andV, ↓w_orV, ↓w_notV, ↓w_chain, ↓w_call, ↓w_callK, ↓w_sl, ↓w_part0, ↓w_part1, ↓w_isi, ↓w_join, ↓w_mt, ↓w_lc, ↓w_lcN, ↓w_lcA, ↓w_it, ↓w_range1, ↓w_range2, ↓w_enum, ↓w_enumS, ↓w_zip,   OkX_ok, OkX_err, OkX_stuck, OkX_guard, o_addS, o_addT, o_addLL, o_addRL, o_addII, o_subI, o_mulI, o_mulS, o_fdivI, o_modI, o_powI, o_negI, o_ltI, o_leI, o_gtI, o_geI, o_ltS, o_leS, o_gtS, o_geS, o_eqI, o_eqS, o_neI, o_neS, o_isD, o_isnotD, o_inS, o_ixS, o_ixT, o_ixL, o_ixR, o_slS, o_slT, o_slL, o_slR, o_lenS, o_lenT, o_lenL, o_lenR, o_absI, o_intI, o_intB, o_tupT, o_tupL, o_tupR, o_maxI, o_minI,   List.set_cons_zero, List.set_cons_succ, List.getElem?_cons_zero, List.getElem?_cons_succ, List.map_cons, List.map_nil, List.length_cons, List.length_nil, List.replicate_succ, List.replicate_zero, List.cons_append, List.nil_append, Nat.reduceSub, Nat.reduceAdd, Nat.reduceLeDiff, exists_eq_left', D.bl.injEq, D.int.injEq, D.str.injEq, D.ref.injEq, D.tup.injEq, true_and, and_true, if_true, if_false, Bool.false_eq_true, Bool.not_true, Bool.not_false, decide_true, decide_false, bindP, bindPs, isK, atI_0, atI_1, atI_2, atI_3, ixN_0, ixN_1, Nat.zero_add, LINE, Nat.zero_le, truD, wipeD, Option.some.injEq]
  refine ⟨m2, ?_⟩
  rw [draw_eqD]
  refine draw_okD x1 (by omega) lg fun kx h2 kx0 kx1 x2 => ?_
  simp (dsimp := false) only [↓Kp_app, ↓w_seq, ↓w_sNil, ↓w_set, ↓w_ret, ↓w_retN, ↓w_sIf, ↓w_expr, ↓w_par, ↓w_par3, ↓w_asg, ↓w_aug, ↓w_sub, ↓w_for, ↓w_raise, ↓w_break, ↓w_cont, ↓w_op2, ↓w_op1, ↓w_cb, ↓w_c, ↓w_var, ↓w_nil, ↓w_cons, ↓w_tup, ↓w_lst, ↓w_new, ↓w_if, ↓w_test, ↓w_tru, ↓w_not, ↓w_and, ↓w_or, ↓w_andV, ↓w_orV, ↓w_notV, ↓w_chain, ↓w_call, ↓w_callK, ↓w_sl, ↓w_part0, ↓w_part1, ↓w_isi, ↓w_join, ↓w_mt, ↓w_lc, ↓w_lcN, ↓w_lcA, ↓w_it, ↓w_range1, ↓w_range2, ↓w_enum, ↓w_enumS, ↓w_zip,   OkX_ok, OkX_err, OkX_stuck, OkX_guard, o_addS, o_addT, o_addLL, o_addRL, o_addII, o_subI, o_mulI, o_mulS, o_fdivI, o_modI, o_powI, o_negI, o_ltI, o_leI, o_gtI, o_geI, o_ltS, o_leS, o_gtS, o_geS, o_eqI, o_eqS, o_neI, o_neS, o_isD, o_isnotD, o_inS, o_ixS, o_ixT, o_ixL, o_ixR, o_slS, o_slT, o_slL, o_slR, o_lenS, o_lenT, o_lenL, o_lenR, o_absI, o_intI, o_intB, o_tupT, o_tupL, o_tupR, o_maxI, o_minI,   List.set_cons_zero, List.set_cons_succ, List.getElem?_cons_zero, List.getElem?_cons_succ, List.map_cons, List.map_nil, List.length_cons, List.length_nil, List.replicate_succ, List.replicate_zero, List.cons_append, List.nil_append, Nat.reduceSub, Nat.reduceAdd, Nat.reduceLeDiff, exists_eq_left', D.bl.injEq, D.int.injEq, D.str.injEq, D.ref.injEq, D.tup.injEq, true_and, and_true, if_true, if_false, Bool.false_eq_true, Bool.not_true, Bool.not_false, decide_true, decide_false, bindP, bindPs, isK, atI_0, atI_1, atI_2, atI_3, ixN_0, ixN_1, Nat.zero_add, LINE, Nat.zero_le, truD, wipeD, Option.some.injEq]
  refine ⟨m2, ?_⟩
  refine draw_okD x2 (by omega) lg fun ky h3 ky0 ky1 x3 => ?_
  simp (dsimp := false) only [↓Kp_app, ↓w_seq, ↓w_sNil, ↓w_set, ↓w_ret, ↓w_retN, ↓w_sIf, ↓w_expr, ↓w_par, ↓w_par3, ↓w_asg, ↓w_aug, ↓w_sub, ↓w_for, ↓w_raise, ↓w_break, ↓w_cont, ↓w_op2, ↓w_op1, ↓w_cb, ↓w_c, ↓w_var, ↓w_nil, ↓w_cons, ↓w_tup, ↓w_lst, ↓w_new, ↓w_if, ↓w_test, ↓w_tru, ↓w_not, ↓w_and, ↓w_or, ↓w_andV, ↓w_orV, ↓w_notV, ↓w_chain, ↓w_call, ↓w_callK, ↓w_sl, ↓w_part0, ↓w_part1, ↓w_isi, ↓w_join, ↓w_mt, ↓w_lc, ↓w_lcN, ↓w_lcA, ↓w_it, ↓w_range1, ↓w_range2, ↓w_enum, ↓w_enumS, ↓w_zip,   OkX_ok, OkX_err, OkX_stuck, OkX_guard, o_addS, o_addT, o_addLL, o_addRL, o_addII, o_subI, o_mulI, o_mulS, o_fdivI, o_modI, o_powI, o_negI, o_ltI, o_leI, o_gtI, o_geI, o_ltS, o_leS, o_gtS, o_geS, o_eqI, o_eqS, o_neI, o_neS, o_isD, o_isnotD, o_inS, o_ixS, o_ixT, o_ixL, o_ixR, o_slS, o_slT, o_slL, o_slR, o_lenS, o_lenT, o_lenL, o_lenR, o_absI, o_intI, o_intB, o_tupT, o_tupL, o_tupR, o_maxI, o_minI,   List.set_cons_zero, List.set_cons_succ, List.getElem?_cons_zero, List.getElem?_cons_succ, List.map_cons, List.map_nil, List.length_cons, List.length_nil, List.replicate_succ, List.replicate_zero, List.cons_append, List.nil_append, Nat.reduceSub, Nat.reduceAdd, Nat.reduceLeDiff, exists_eq_left', D.bl.injEq, D.int.injEq, D.str.injEq, D.ref.injEq, D.tup.injEq, true_and, and_true, if_true, if_false, Bool.false_eq_true, Bool.not_true, Bool.not_false, decide_true, decide_false, bindP, bindPs, isK, atI_0, atI_1, atI_2, atI_3, ixN_0, ixN_1, Nat.zero_add, LINE, Nat.zero_le, truD, wipeD, Option.some.injEq]
  refine draw_okD x3 (by decide) (by decide) fun kt h4 kt0 kt1 x4 => ?_
  simp (dsimp := false) only [↓Kp_app, ↓w_seq, ↓w_sNil, ↓w_set, ↓w_ret, ↓w_retN, ↓w_sIf, ↓w_expr, ↓w_par, ↓w_par3, ↓w_asg, ↓w_aug, ↓w_sub, ↓w_for, ↓w_raise, ↓w_break, ↓w_cont, ↓w_op2, ↓w_op1, ↓w_cb, ↓w_c, ↓w_var, ↓w_nil, ↓w_cons, ↓w_tup, ↓w_lst, ↓w_new, ↓w_if, ↓w_test, ↓w_tru, ↓w_not, ↓w_and, ↓w_or, ↓w_andV, ↓w_orV, ↓w_notV, ↓w_chain, ↓w_call, ↓w_callK, ↓w_sl, ↓w_part0, ↓w_part1, ↓w_isi, ↓w_join, ↓w_mt, ↓w_lc, ↓w_lcN, ↓w_lcA, ↓w_it, ↓w_range1, ↓w_range2, ↓w_enum, ↓w_enumS, ↓w_zip,   OkX_ok, OkX_err, OkX_stuck, OkX_guard, o_addS, o_addT, o_addLL, o_addRL, o_addII, o_subI, o_mulI, o_mulS, o_fdivI, o_modI, o_powI, o_negI, o_ltI, o_leI, o_gtI, o_geI, o_ltS, o_leS, o_gtS, o_geS, o_eqI, o_eqS, o_neI, o_neS, o_isD, o_isnotD, o_inS, o_ixS, o_ixT, o_ixL, o_ixR, o_slS, o_slT, o_slL, o_slR, o_lenS, o_lenT, o_lenL, o_lenR, o_absI, o_intI, o_intB, o_tupT, o_tupL, o_tupR, o_maxI, o_minI,   List.set_cons_zero, List.set_cons_succ, List.getElem?_cons_zero, List.getElem?_cons_succ, List.map_cons, List.map_nil, List.length_cons, List.length_nil, List.replicate_succ, List.replicate_zero, List.cons_append, List.nil_append, Nat.reduceSub, Nat.reduceAdd, Nat.reduceLeDiff, exists_eq_left', D.bl.injEq, D.int.injEq, D.str.injEq, D.ref.injEq, D.tup.injEq, true_and, and_true, if_true, if_false, Bool.false_eq_true, Bool.not_true, Bool.not_false, decide_true, decide_false, bindP, bindPs, isK, atI_0, atI_1, atI_2, atI_3, ixN_0, ixN_1, Nat.zero_add, LINE, Nat.zero_le, truD, wipeD, Option.some.injEq]
  refine draw_okD x4 (by decide) (by decide) fun kr h5 kr0 kr1 x5 => ?_
  simp (dsimp := false) only [↓Kp_app, ↓w_seq, ↓w_sNil, ↓w_set, ↓w_ret, ↓w_retN, ↓w_sIf, ↓w_expr, ↓w_par, ↓w_par3, ↓w_asg, ↓w_aug, ↓w_sub, ↓w_for, ↓w_raise, ↓w_break, ↓w_cont, ↓w_op2, ↓w_op1, ↓w_cb, ↓w_c, ↓w_var, ↓w_nil, ↓w_cons, ↓w_tup, ↓w_lst, ↓w_new, ↓w_if, ↓w_test, ↓w_tru, ↓w_not, ↓w_and, ↓w_or, ↓w_andV, ↓w_orV, ↓w_notV, ↓w_chain, ↓w_call, ↓w_callK, ↓w_sl, ↓w_part0, ↓w_part1, ↓w_isi, ↓w_join, ↓w_mt, ↓w_lc, ↓w_lcN, ↓w_lcA, ↓w_it, ↓w_range1, ↓w_range2, ↓w_enum, ↓w_enumS, ↓w_zip,   OkX_ok, OkX_err, OkX_stuck, OkX_guard, o_addS, o_addT, o_addLL, o_addRL, o_addII, o_subI, o_mulI, o_mulS, o_fdivI, o_modI, o_powI, o_negI, o_ltI, o_leI, o_gtI, o_geI, o_ltS, o_leS, o_gtS, o_geS, o_eqI, o_eqS, o_neI, o_neS, o_isD, o_isnotD, o_inS, o_ixS, o_ixT, o_ixL, o_ixR, o_slS, o_slT, o_slL, o_slR, o_lenS, o_lenT, o_lenL, o_lenR, o_absI, o_intI, o_intB, o_tupT, o_tupL, o_tupR, o_maxI, o_minI,   List.set_cons_zero, List.set_cons_succ, List.getElem?_cons_zero, List.getElem?_cons_succ, List.map_cons, List.map_nil, List.length_cons, List.length_nil, List.replicate_succ, List.replicate_zero, List.cons_append, List.nil_append, Nat.reduceSub, Nat.reduceAdd, Nat.reduceLeDiff, exists_eq_left', D.bl.injEq, D.int.injEq, D.str.injEq, D.ref.injEq, D.tup.injEq, true_and, and_true, if_true, if_false, Bool.false_eq_true, Bool.not_true, Bool.not_false, decide_true, decide_false, bindP, bindPs, isK, atI_0, atI_1, atI_2, atI_3, ixN_0, ixN_1, Nat.zero_add, LINE, Nat.zero_le, truD, wipeD, Option.some.injEq]
  refine ⟨by unfold big62; omega, ?_⟩
  refine w_loopF (fun l ρ h' => ∃ (a b : Int) (x7 : Option D), ρ = [some (.ref 1), some (.int high), some (.int (kx - high)), some (.int (ky - high)), some (.int (1 + kt)), some (.int a), some (.int b), x7, none, none, none, none] ∧ h' = h5 ∧ Sm (1 + l.length) a ∧ Sm (1 + l.length) b) (fun _ _ _ _ => rfl) [] _ _ _ ⟨1, 1, none, rfl, rfl, by unfold Sm; decide, by unfold Sm; decide⟩ (fun l d r ρ h' e i => ?_) (fun ρ h' i => ?_)
  · obtain ⟨a, b, x7, rfl, rfl, sa, sb⟩ := i
    refine ⟨_, rfl, ?_⟩
    simp (dsimp := false) only [↓Kp_app, ↓w_seq, ↓w_sNil, ↓w_set, ↓w_ret, ↓w_retN, ↓w_sIf, ↓w_expr, ↓w_par, ↓w_par3, ↓w_asg, ↓w_aug, ↓w_sub, ↓w_for, ↓w_raise, ↓w_break, ↓w_cont, ↓w_op2, ↓w_op1, ↓w_cb, ↓w_c, ↓w_var, ↓w_nil, ↓w_cons, ↓w_tup, ↓w_lst, ↓w_new, ↓w_if, ↓w_test, ↓w_tru, ↓w_not, ↓w_and, ↓w_or, ↓w_andV, ↓w_orV, ↓w_notV, ↓w_chain, ↓w_call, ↓w_callK, ↓w_sl, ↓w_part0, ↓w_part1, ↓w_isi, ↓w_join, ↓w_mt, ↓w_lc, ↓w_lcN, ↓w_lcA, ↓w_it, ↓w_range1, ↓w_range2, ↓w_enum, ↓w_enumS, ↓w_zip,   OkX_ok, OkX_err, OkX_stuck, OkX_guard, o_addS, o_addT, o_addLL, o_addRL, o_addII, o_subI, o_mulI, o_mulS, o_fdivI, o_modI, o_powI, o_negI, o_ltI, o_leI, o_gtI, o_geI, o_ltS, o_leS, o_gtS, o_geS, o_eqI, o_eqS, o_neI, o_neS, o_isD, o_isnotD, o_inS, o_ixS, o_ixT, o_ixL, o_ixR, o_slS, o_slT, o_slL, o_slR, o_lenS, o_lenT, o_lenL, o_lenR, o_absI, o_intI, o_intB, o_tupT, o_tupL, o_tupR, o_maxI, o_minI,   List.set_cons_zero, List.set_cons_succ, List.getElem?_cons_zero, List.getElem?_cons_succ, List.map_cons, List.map_nil, List.length_cons, List.length_nil, List.replicate_succ, List.replicate_zero, List.cons_append, List.nil_append, Nat.reduceSub, Nat.reduceAdd, Nat.reduceLeDiff, exists_eq_left', D.bl.injEq, D.int.injEq, D.str.injEq, D.ref.injEq, D.tup.injEq, true_and, and_true, if_true, if_false, Bool.false_eq_true, Bool.not_true, Bool.not_false, decide_true, decide_false, bindP, bindPs, isK, atI_0, atI_1, atI_2, atI_3, ixN_0, ixN_1, Nat.zero_add, LINE, Nat.zero_le, truD, wipeD, Option.some.injEq]
    refine ⟨b, a + b, _, rfl, sb.mono (by simp), ?_⟩
    rw [List.length_append]
    exact sa.add sb
  · obtain ⟨a, b, x7, rfl, rfl, sa, sb⟩ := i
    have hlen : ([] ++ rangeD 0 kr.toNat).length ≤ 180 := by simp [rangeD]; omega
    have sa : Sm 200 a := sa.mono (by omega)
    have sb : Sm 200 b := sb.mono (by omega)
    simp (dsimp := false) only [itemsD, ↓Kp_app, ↓w_seq, ↓w_sNil, ↓w_set, ↓w_ret, ↓w_retN, ↓w_sIf, ↓w_expr, ↓w_par, ↓w_par3, ↓w_asg, ↓w_aug, ↓w_sub, ↓w_for, ↓w_raise, ↓w_break, ↓w_cont, ↓w_op2, ↓w_op1, ↓w_cb, ↓w_c, ↓w_var, ↓w_nil, ↓w_cons, ↓w_tup, ↓w_lst, ↓w_new, ↓w_if, ↓w_test, ↓w_tru, ↓w_not, ↓w_and, ↓w_or, ↓w_andV, ↓w_orV, ↓w_notV, ↓w_chain, ↓w_call, ↓w_callK, ↓w_sl, ↓w_part0, ↓w_part1, ↓w_isi, ↓w_join, ↓w_mt, ↓w_lc, ↓w_lcN, ↓w_lcA, ↓w_it, ↓w_range1, ↓w_range2, ↓w_enum, ↓w_enumS, ↓w_zip,   OkX_ok, OkX_err, OkX_stuck, OkX_guard, o_addS, o_addT, o_addLL, o_addRL, o_addII, o_subI, o_mulI, o_mulS, o_fdivI, o_modI, o_powI, o_negI, o_ltI, o_leI, o_gtI, o_geI, o_ltS, o_leS, o_gtS, o_geS, o_eqI, o_eqS, o_neI, o_neS, o_isD, o_isnotD, o_inS, o_ixS, o_ixT, o_ixL, o_ixR, o_slS, o_slT, o_slL, o_slR, o_lenS, o_lenT, o_lenL, o_lenR, o_absI, o_intI, o_intB, o_tupT, o_tupL, o_tupR, o_maxI, o_minI,   List.set_cons_zero, List.set_cons_succ, List.getElem?_cons_zero, List.getElem?_cons_succ, List.map_cons, List.map_nil, List.length_cons, List.length_nil, List.replicate_succ, List.replicate_zero, List.cons_append, List.nil_append, Nat.reduceSub, Nat.reduceAdd, Nat.reduceLeDiff, exists_eq_left', D.bl.injEq, D.int.injEq, D.str.injEq, D.ref.injEq, D.tup.injEq, true_and, and_true, if_true, if_false, Bool.false_eq_true, Bool.not_true, Bool.not_false, decide_true, decide_false, bindP, bindPs, isK, atI_0, atI_1, atI_2, atI_3, ixN_0, ixN_1, Nat.zero_add, LINE, Nat.zero_le, truD, wipeD, Option.some.injEq]
    refine w_loopC (fun i : Int => D.int i) (fun l as h' => (∃ ss : List Int, as = ss.map .int ∧ (∀ s ∈ ss, s = 1 ∨ s = -1) ∧ ss.length = l.length) ∧ BoxD t h') (fun _ _ _ _ => by rfl) [0, 1] _ ⟨⟨[], rfl, fun _ m => (nomatch m), rfl⟩, x5⟩ (fun l z r as h' e i => ?_) (fun as h' i => ?_)
    · obtain ⟨⟨ss, rfl, i1, i2⟩, x6⟩ := i
      refine ⟨_, rfl, ?_⟩
      show OkX (Res.ok true h') _ _
      rw [OkX_ok, if_pos rfl]
      simp (dsimp := false) only [↓Kp_app, ↓w_seq, ↓w_sNil, ↓w_set, ↓w_ret, ↓w_retN, ↓w_sIf, ↓w_expr, ↓w_par, ↓w_par3, ↓w_asg, ↓w_aug, ↓w_sub, ↓w_for, ↓w_raise, ↓w_break, ↓w_cont, ↓w_op2, ↓w_op1, ↓w_cb, ↓w_c, ↓w_var, ↓w_nil, ↓w_cons, ↓w_tup, ↓w_lst, ↓w_new, ↓w_if, ↓w_test, ↓w_tru, ↓w_not, ↓w_and, ↓w_or, ↓w_andV, ↓w_orV, ↓w_notV, ↓w_chain, ↓w_call, ↓w_callK, ↓w_sl, ↓w_part0, ↓w_part1, ↓w_isi, ↓w_join, ↓w_mt, ↓w_lc, ↓w_lcN, ↓w_lcA, ↓w_it, ↓w_range1, ↓w_range2, ↓w_enum, ↓w_enumS, ↓w_zip,   OkX_ok, OkX_err, OkX_stuck, OkX_guard, o_addS, o_addT, o_addLL, o_addRL, o_addII, o_subI, o_mulI, o_mulS, o_fdivI, o_modI, o_powI, o_negI, o_ltI, o_leI, o_gtI, o_geI, o_ltS, o_leS, o_gtS, o_geS, o_eqI, o_eqS, o_neI, o_neS, o_isD, o_isnotD, o_inS, o_ixS, o_ixT, o_ixL, o_ixR, o_slS, o_slT, o_slL, o_slR, o_lenS, o_lenT, o_lenL, o_lenR, o_absI, o_intI, o_intB, o_tupT, o_tupL, o_tupR, o_maxI, o_minI,   List.set_cons_zero, List.set_cons_succ, List.getElem?_cons_zero, List.getElem?_cons_succ, List.map_cons, List.map_nil, List.length_cons, List.length_nil, List.replicate_succ, List.replicate_zero, List.cons_append, List.nil_append, Nat.reduceSub, Nat.reduceAdd, Nat.reduceLeDiff, exists_eq_left', D.bl.injEq, D.int.injEq, D.str.injEq, D.ref.injEq, D.tup.injEq, true_and, and_true, if_true, if_false, Bool.false_eq_true, Bool.not_true, Bool.not_false, decide_true, decide_false, bindP, bindPs, isK, atI_0, atI_1, atI_2, atI_3, ixN_0, ixN_1, Nat.zero_add, LINE, Nat.zero_le, truD, wipeD, Option.some.injEq]
      refine pick_okD x6 (by simp) (by simp) fun d h7 hd x7 => ?_
      try simp (dsimp := false) only [↓Kp_app, ↓w_seq, ↓w_sNil, ↓w_set, ↓w_ret, ↓w_retN, ↓w_sIf, ↓w_expr, ↓w_par, ↓w_par3, ↓w_asg, ↓w_aug, ↓w_sub, ↓w_for, ↓w_raise, ↓w_break, ↓w_cont, ↓w_op2, ↓w_op1, ↓w_cb, ↓w_c, ↓w_var, ↓w_nil, ↓w_cons, ↓w_tup, ↓w_lst, ↓w_new, ↓w_if, ↓w_test, ↓w_tru, ↓w_not, ↓w_and, ↓w_or, ↓w_andV, ↓w_orV, ↓w_notV, ↓w_chain, ↓w_call, ↓w_callK, ↓w_sl, ↓w_part0, ↓w_part1, ↓w_isi, ↓w_join, ↓w_mt, ↓w_lc, ↓w_lcN, ↓w_lcA, ↓w_it, ↓w_range1, ↓w_range2, ↓w_enum, ↓w_enumS, ↓w_zip,   OkX_ok, OkX_err, OkX_stuck, OkX_guard, o_addS, o_addT, o_addLL, o_addRL, o_addII, o_subI, o_mulI, o_mulS, o_fdivI, o_modI, o_powI, o_negI, o_ltI, o_leI, o_gtI, o_geI, o_ltS, o_leS, o_gtS, o_geS, o_eqI, o_eqS, o_neI, o_neS, o_isD, o_isnotD, o_inS, o_ixS, o_ixT, o_ixL, o_ixR, o_slS, o_slT, o_slL, o_slR, o_lenS, o_lenT, o_lenL, o_lenR, o_absI, o_intI, o_intB, o_tupT, o_tupL, o_tupR, o_maxI, o_minI,   List.set_cons_zero, List.set_cons_succ, List.getElem?_cons_zero, List.getElem?_cons_succ, List.map_cons, List.map_nil, List.length_cons, List.length_nil, List.replicate_succ, List.replicate_zero, List.cons_append, List.nil_append, Nat.reduceSub, Nat.reduceAdd, Nat.reduceLeDiff, exists_eq_left', D.bl.injEq, D.int.injEq, D.str.injEq, D.ref.injEq, D.tup.injEq, true_and, and_true, if_true, if_false, Bool.false_eq_true, Bool.not_true, Bool.not_false, decide_true, decide_false, bindP, bindPs, isK, atI_0, atI_1, atI_2, atI_3, ixN_0, ixN_1, Nat.zero_add, LINE, Nat.zero_le, truD, wipeD, Option.some.injEq]
      have ll := congrArg List.length e
      simp at ll
      refine ⟨Nat.lt_of_lt_of_le (show (ss.map _).length < 1000 by simp; omega) (show 1000 ≤ LINE by decide), ?_⟩
      simp only [List.mem_cons, List.not_mem_nil, or_false] at hd
      rcases hd with rfl | rfl
      · exact ⟨⟨ss ++ [1], by simp, fun s m => (List.mem_append.mp m).elim (i1 s) fun m => .inl (List.mem_singleton.mp m), by simp; omega⟩, x7⟩
      · exact ⟨⟨ss ++ [-1], by simp, fun s m => (List.mem_append.mp m).elim (i1 s) fun m => .inr (List.mem_singleton.mp m), by simp; omega⟩, x7⟩
    · obtain ⟨⟨ss, rfl, i1, i2⟩, x6⟩ := i
      obtain ⟨s1, s2, rfl⟩ : ∃ s1 s2, ss = [s1, s2] := by
        match ss, i2 with
        | [s1, s2], _ => exact ⟨s1, s2, rfl⟩
      have q1 := i1 s1 (by simp)
      have q2 := i1 s2 (by simp)
      have ss1 : Sm 1 s1 := by unfold Sm; rcases q1 with rfl | rfl <;> decide
      have ss2 : Sm 1 s2 := by unfold Sm; rcases q2 with rfl | rfl <;> decide
      simp (dsimp := false) only [atI_0, atI_1, ↓Kp_app, ↓w_seq, ↓w_sNil, ↓w_set, ↓w_ret, ↓w_retN, ↓w_sIf, ↓w_expr, ↓w_par, ↓w_par3, ↓w_asg, ↓w_aug, ↓w_sub, ↓w_for, ↓w_raise, ↓w_break, ↓w_cont, ↓w_op2, ↓w_op1, ↓w_cb, ↓w_c, ↓w_var, ↓w_nil, ↓w_cons, ↓w_tup, ↓w_lst, ↓w_new, ↓w_if, ↓w_test, ↓w_tru, ↓w_not, ↓w_and, ↓w_or, ↓w_andV, ↓w_orV, ↓w_notV, ↓w_chain, ↓w_call, ↓w_callK, ↓w_sl, ↓w_part0, ↓w_part1, ↓w_isi, ↓w_join, ↓w_mt, ↓w_lc, ↓w_lcN, ↓w_lcA, ↓w_it, ↓w_range1, ↓w_range2, ↓w_enum, ↓w_enumS, ↓w_zip,   OkX_ok, OkX_err, OkX_stuck, OkX_guard, o_addS, o_addT, o_addLL, o_addRL, o_addII, o_subI, o_mulI, o_mulS, o_fdivI, o_modI, o_powI, o_negI, o_ltI, o_leI, o_gtI, o_geI, o_ltS, o_leS, o_gtS, o_geS, o_eqI, o_eqS, o_neI, o_neS, o_isD, o_isnotD, o_inS, o_ixS, o_ixT, o_ixL, o_ixR, o_slS, o_slT, o_slL, o_slR, o_lenS, o_lenT, o_lenL, o_lenR, o_absI, o_intI, o_intB, o_tupT, o_tupL, o_tupR, o_maxI, o_minI,   List.set_cons_zero, List.set_cons_succ, List.getElem?_cons_zero, List.getElem?_cons_succ, List.map_cons, List.map_nil, List.length_cons, List.length_nil, List.replicate_succ, List.replicate_zero, List.cons_append, List.nil_append, Nat.reduceSub, Nat.reduceAdd, Nat.reduceLeDiff, exists_eq_left', D.bl.injEq, D.int.injEq, D.str.injEq, D.ref.injEq, D.tup.injEq, true_and, and_true, if_true, if_false, Bool.false_eq_true, Bool.not_true, Bool.not_false, decide_true, decide_false, bindP, bindPs, isK, atI_0, atI_1, atI_2, atI_3, ixN_0, ixN_1, Nat.zero_add, LINE, Nat.zero_le, truD, wipeD, Option.some.injEq]
      have hq : ∀ k : Int, 2 ≤ k → Sm 140 (high.fdiv k) := fun k hk => by
        rw [Int.fdiv_eq_ediv_of_nonneg _ (by omega)]
        have h1 : high / k ≤ high := Int.ediv_le_self _ (by omega)
        have h2 : 0 ≤ high / k := Int.ediv_nonneg (by omega) (by omega)
        unfold Sm; omega
      have sk : Sm 10 (1 + kt) := by unfold Sm; omega
      refine ⟨sa.ok ss1, sb.ok ss2, ⟨by decide, by decide⟩, sk.ok (hq 10 (by decide)), ⟨by decide, by decide⟩, sk.ok (hq 15 (by decide)), ?_⟩
      generalize (1 + kt) * high.fdiv 10 = u1
      generalize (1 + kt) * high.fdiv 15 = u2
      generalize a * s1 = u3
      generalize b * s2 = u4
      refine ⟨_, rfl, ?_⟩
      refine w_loopC (fun p : Int × Int => dP p) (fun l as h'' => (∀ d ∈ as, ∃ a b, d = dP (a, b) ∧ light a ∧ light b) ∧ as.length ≤ l.length ∧ h'' = h') (fun _ _ _ _ => by rfl) [(kx - high, ky - high), (ky - high, 0), (0, kx - high), (ky - high - 1, ky - high), (kx - high, kx - high), (kx - high, 0 - (kx - high)), (u3, u4), (u1, u2)] h' ⟨fun _ m => (nomatch m), Nat.le_refl _, rfl⟩ (fun l p r as h'' e i => ?_) (fun as h'' i => ?_)
      · obtain ⟨i1, i2, rfl⟩ := i
        refine ⟨_, rfl, ?_⟩
        simp (dsimp := false) only [↓Kp_app, ↓w_seq, ↓w_sNil, ↓w_set, ↓w_ret, ↓w_retN, ↓w_sIf, ↓w_expr, ↓w_par, ↓w_par3, ↓w_asg, ↓w_aug, ↓w_sub, ↓w_for, ↓w_raise, ↓w_break, ↓w_cont, ↓w_op2, ↓w_op1, ↓w_cb, ↓w_c, ↓w_var, ↓w_nil, ↓w_cons, ↓w_tup, ↓w_lst, ↓w_new, ↓w_if, ↓w_test, ↓w_tru, ↓w_not, ↓w_and, ↓w_or, ↓w_andV, ↓w_orV, ↓w_notV, ↓w_chain, ↓w_call, ↓w_callK, ↓w_sl, ↓w_part0, ↓w_part1, ↓w_isi, ↓w_join, ↓w_mt, ↓w_lc, ↓w_lcN, ↓w_lcA, ↓w_it, ↓w_range1, ↓w_range2, ↓w_enum, ↓w_enumS, ↓w_zip,   OkX_ok, OkX_err, OkX_stuck, OkX_guard, o_addS, o_addT, o_addLL, o_addRL, o_addII, o_subI, o_mulI, o_mulS, o_fdivI, o_modI, o_powI, o_negI, o_ltI, o_leI, o_gtI, o_geI, o_ltS, o_leS, o_gtS, o_geS, o_eqI, o_eqS, o_neI, o_neS, o_isD, o_isnotD, o_inS, o_ixS, o_ixT, o_ixL, o_ixR, o_slS, o_slT, o_slL, o_slR, o_lenS, o_lenT, o_lenL, o_lenR, o_absI, o_intI, o_intB, o_tupT, o_tupL, o_tupR, o_maxI, o_minI,   List.set_cons_zero, List.set_cons_succ, List.getElem?_cons_zero, List.getElem?_cons_succ, List.map_cons, List.map_nil, List.length_cons, List.length_nil, List.replicate_succ, List.replicate_zero, List.cons_append, List.nil_append, Nat.reduceSub, Nat.reduceAdd, Nat.reduceLeDiff, exists_eq_left', D.bl.injEq, D.int.injEq, D.str.injEq, D.ref.injEq, D.tup.injEq, true_and, and_true, if_true, if_false, Bool.false_eq_true, Bool.not_true, Bool.not_false, decide_true, decide_false, bindP, bindPs, isK, atI_0, atI_1, atI_2, atI_3, ixN_0, ixN_1, Nat.zero_add, LINE, Nat.zero_le, truD, wipeD, Option.some.injEq]
        refine ⟨_, rfl, ?_⟩
        refine absC (i := 10) (by simp) rfl [p.1, p.2] (by simp) ?_
        simp (dsimp := false) only [o_max2, ↓Kp_app, ↓w_seq, ↓w_sNil, ↓w_set, ↓w_ret, ↓w_retN, ↓w_sIf, ↓w_expr, ↓w_par, ↓w_par3, ↓w_asg, ↓w_aug, ↓w_sub, ↓w_for, ↓w_raise, ↓w_break, ↓w_cont, ↓w_op2, ↓w_op1, ↓w_cb, ↓w_c, ↓w_var, ↓w_nil, ↓w_cons, ↓w_tup, ↓w_lst, ↓w_new, ↓w_if, ↓w_test, ↓w_tru, ↓w_not, ↓w_and, ↓w_or, ↓w_andV, ↓w_orV, ↓w_notV, ↓w_chain, ↓w_call, ↓w_callK, ↓w_sl, ↓w_part0, ↓w_part1, ↓w_isi, ↓w_join, ↓w_mt, ↓w_lc, ↓w_lcN, ↓w_lcA, ↓w_it, ↓w_range1, ↓w_range2, ↓w_enum, ↓w_enumS, ↓w_zip,   OkX_ok, OkX_err, OkX_stuck, OkX_guard, o_addS, o_addT, o_addLL, o_addRL, o_addII, o_subI, o_mulI, o_mulS, o_fdivI, o_modI, o_powI, o_negI, o_ltI, o_leI, o_gtI, o_geI, o_ltS, o_leS, o_gtS, o_geS, o_eqI, o_eqS, o_neI, o_neS, o_isD, o_isnotD, o_inS, o_ixS, o_ixT, o_ixL, o_ixR, o_slS, o_slT, o_slL, o_slR, o_lenS, o_lenT, o_lenL, o_lenR, o_absI, o_intI, o_intB, o_tupT, o_tupL, o_tupR, o_maxI, o_minI,   List.set_cons_zero, List.set_cons_succ, List.getElem?_cons_zero, List.getElem?_cons_succ, List.map_cons, List.map_nil, List.length_cons, List.length_nil, List.replicate_succ, List.replicate_zero, List.cons_append, List.nil_append, Nat.reduceSub, Nat.reduceAdd, Nat.reduceLeDiff, exists_eq_left', D.bl.injEq, D.int.injEq, D.str.injEq, D.ref.injEq, D.tup.injEq, true_and, and_true, if_true, if_false, Bool.false_eq_true, Bool.not_true, Bool.not_false, decide_true, decide_false, bindP, bindPs, isK, atI_0, atI_1, atI_2, atI_3, ixN_0, ixN_1, Nat.zero_add, LINE, Nat.zero_le, truD, wipeD, Option.some.injEq]
        refine ⟨⟨by decide, by decide, by decide⟩, ?_⟩
        have ll := congrArg List.length e
        simp at ll
        by_cases z : max (p.1.natAbs : Int) (p.2.natAbs : Int) < 10 ^ Int.toNat 40
        · simp only [z, decide_true, if_true]
          have e40 : (10 : Int) ^ Int.toNat 40 = 10000000000000000000000000000000000000000 := by decide
          rw [e40] at z
          refine ⟨Nat.lt_of_le_of_lt i2 (Nat.lt_of_lt_of_le (show l.length < 1000 by omega) (show 1000 ≤ LINE by decide)), fun d m => ?_, by simp; omega⟩
          rcases List.mem_append.mp m with m | m
          · exact i1 d m
          · rw [List.mem_singleton.mp m]
            exact ⟨p.1, p.2, rfl, by unfold light; omega, by unfold light; omega⟩
        · simp only [z, decide_false, Bool.false_eq_true, if_false]
          exact ⟨i1, by simp; omega⟩
      · obtain ⟨i1, i2, rfl⟩ := i
        simp (dsimp := false) only [↓Kp_app, ↓w_seq, ↓w_sNil, ↓w_set, ↓w_ret, ↓w_retN, ↓w_sIf, ↓w_expr, ↓w_par, ↓w_par3, ↓w_asg, ↓w_aug, ↓w_sub, ↓w_for, ↓w_raise, ↓w_break, ↓w_cont, ↓w_op2, ↓w_op1, ↓w_cb, ↓w_c, ↓w_var, ↓w_nil, ↓w_cons, ↓w_tup, ↓w_lst, ↓w_new, ↓w_if, ↓w_test, ↓w_tru, ↓w_not, ↓w_and, ↓w_or, ↓w_andV, ↓w_orV, ↓w_notV, ↓w_chain, ↓w_call, ↓w_callK, ↓w_sl, ↓w_part0, ↓w_part1, ↓w_isi, ↓w_join, ↓w_mt, ↓w_lc, ↓w_lcN, ↓w_lcA, ↓w_it, ↓w_range1, ↓w_range2, ↓w_enum, ↓w_enumS, ↓w_zip,   OkX_ok, OkX_err, OkX_stuck, OkX_guard, o_addS, o_addT, o_addLL, o_addRL, o_addII, o_subI, o_mulI, o_mulS, o_fdivI, o_modI, o_powI, o_negI, o_ltI, o_leI, o_gtI, o_geI, o_ltS, o_leS, o_gtS, o_geS, o_eqI, o_eqS, o_neI, o_neS, o_isD, o_isnotD, o_inS, o_ixS, o_ixT, o_ixL, o_ixR, o_slS, o_slT, o_slL, o_slR, o_lenS, o_lenT, o_lenL, o_lenR, o_absI, o_intI, o_intB, o_tupT, o_tupL, o_tupR, o_maxI, o_minI,   List.set_cons_zero, List.set_cons_succ, List.getElem?_cons_zero, List.getElem?_cons_succ, List.map_cons, List.map_nil, List.length_cons, List.length_nil, List.replicate_succ, List.replicate_zero, List.cons_append, List.nil_append, Nat.reduceSub, Nat.reduceAdd, Nat.reduceLeDiff, exists_eq_left', D.bl.injEq, D.int.injEq, D.str.injEq, D.ref.injEq, D.tup.injEq, true_and, and_true, if_true, if_false, Bool.false_eq_true, Bool.not_true, Bool.not_false, decide_true, decide_false, bindP, bindPs, isK, atI_0, atI_1, atI_2, atI_3, ixN_0, ixN_1, Nat.zero_add, LINE, Nat.zero_le, truD, wipeD, Option.some.injEq]
        exact q _ _ i1 i2 x6
end
end Lw
end
section
set_option Elab.async false
set_option linter.all false
set_option maxRecDepth 100000
set_option maxHeartbeats 4000000
namespace Lw
open PySem PySem.Spec PyProof.Rows L2 LamX He MP
section
variable {h t : List MO} {P : D → List MO → Prop} {X : Ex → List MO → Prop}
theorem w_callC {m : MF} {n : Nat} {slots : List Nat} {a : MA} {cs : List D} {ρ : Rho} {h : List MO} {P : D → List MO → Prop} {X : Ex → List MO → Prop} (hc : capD ρ slots = some cs) (hb : belowDs 0 cs = true) {d : D} {ds : List D} (ha : a ρ h = .ok ds h) (hb2 : belowDs 0 ds = true) (e : m (.clo n cs :: ds) [] = .ok d []) (pl : plD d = true) (q : P d h) : OkX (xCallC m n slots a ρ h) P X := by
  unfold xCallC
  rw [ha]
  show OkX (match capD ρ slots with | some cs => _ | none => _) P X
  rw [hc]
  simp only [hb, hb2, Bool.and_self, if_true, e, pl]
  exact q
theorem all_heard_ok {f due : D} {vs : List D} (hv : ∀ v ∈ vs, belowDs 0 [v, f] = true ∧ m__law_heard [.clo 0 [v, f]] [] = .ok due []) (pd : plD due = true) (nd : niceD 1 due = true) (q : P (.bl true) h) : OkX (m__law_all_heard [f, .lst vs, due] h) P X := by
  unfold m__law_all_heard; rw [w_run]; unfold b__law_all_heard
  simp (dsimp := false) only [itemsD, ↓Kp_app, ↓w_seq, ↓w_sNil, ↓w_set, ↓w_ret, ↓w_retN, ↓w_sIf, ↓w_expr, ↓w_par, ↓w_par3, ↓w_asg, ↓w_aug, ↓w_sub, ↓w_for, ↓w_raise, ↓w_break, ↓w_cont, ↓w_op2, ↓w_op1, ↓w_cb, ↓w_c, ↓w_var, ↓w_nil, ↓w_cons, ↓w_tup, ↓w_lst, ↓w_new, ↓w_if, ↓w_test, ↓w_tru, ↓w_not, ↓w_and, ↓w_or, ↓w_andV, ↓w_orV, ↓w_notV, ↓w_chain, ↓w_call, ↓w_callK, ↓w_sl, ↓w_part0, ↓w_part1, ↓w_isi, ↓w_join, ↓w_mt, ↓w_lc, ↓w_lcN, ↓w_lcA, ↓w_it, ↓w_range1, ↓w_range2, ↓w_enum, ↓w_enumS, ↓w_zip,   OkX_ok, OkX_err, OkX_stuck, OkX_guard, o_addS, o_addT, o_addLL, o_addRL, o_addII, o_subI, o_mulI, o_mulS, o_fdivI, o_modI, o_powI, o_negI, o_ltI, o_leI, o_gtI, o_geI, o_ltS, o_leS, o_gtS, o_geS, o_eqI, o_eqS, o_neI, o_neS, o_isD, o_isnotD, o_inS, o_ixS, o_ixT, o_ixL, o_ixR, o_slS, o_slT, o_slL, o_slR, o_lenS, o_lenT, o_lenL, o_lenR, o_absI, o_intI, o_intB, o_tupT, o_tupL, o_tupR, o_maxI, o_minI,   List.set_cons_zero, List.set_cons_succ, List.getElem?_cons_zero, List.getElem?_cons_succ, List.map_cons, List.map_nil, List.length_cons, List.length_nil, List.replicate_succ, List.replicate_zero, List.cons_append, List.nil_append, Nat.reduceSub, Nat.reduceAdd, Nat.reduceLeDiff, exists_eq_left', D.bl.injEq, D.int.injEq, D.str.injEq, D.ref.injEq, D.tup.injEq, true_and, and_true, if_true, if_false, Bool.false_eq_true, Bool.not_true, Bool.not_false, decide_true, decide_false, bindP, bindPs, isK, atI_0, atI_1, atI_2, atI_3, ixN_0, ixN_1, Nat.zero_add, LINE, Nat.zero_le, truD, wipeD, Option.some.injEq]
  have := w_loopC (p := .nm 3) (ft := xTest (xOp2 oNe (xCallC m__law_heard 0 [3, 0] aNil) (xVar 2))) (fe := xVar 3) (it := ⟨vs, none⟩) (ρ0 := [some f, some (.lst vs), some due, none]) (id : D → D) (fun _ a h' => a = [] ∧ h' = h) (fun _ _ _ _ => rfl) vs h ⟨rfl, rfl⟩ (PA := fun a h' => a = [] ∧ h' = h) (X := X) (fun l v r a h' e i => ?_) (fun a h' i => i)
  · rw [List.map_id] at this
    refine this.mono (fun a h' e => ?_) fun _ _ z => z
    obtain ⟨rfl, rfl⟩ := e
    simp (dsimp := false) only [o_eqD, eqD_self_lst, ↓Kp_app, ↓w_seq, ↓w_sNil, ↓w_set, ↓w_ret, ↓w_retN, ↓w_sIf, ↓w_expr, ↓w_par, ↓w_par3, ↓w_asg, ↓w_aug, ↓w_sub, ↓w_for, ↓w_raise, ↓w_break, ↓w_cont, ↓w_op2, ↓w_op1, ↓w_cb, ↓w_c, ↓w_var, ↓w_nil, ↓w_cons, ↓w_tup, ↓w_lst, ↓w_new, ↓w_if, ↓w_test, ↓w_tru, ↓w_not, ↓w_and, ↓w_or, ↓w_andV, ↓w_orV, ↓w_notV, ↓w_chain, ↓w_call, ↓w_callK, ↓w_sl, ↓w_part0, ↓w_part1, ↓w_isi, ↓w_join, ↓w_mt, ↓w_lc, ↓w_lcN, ↓w_lcA, ↓w_it, ↓w_range1, ↓w_range2, ↓w_enum, ↓w_enumS, ↓w_zip,   OkX_ok, OkX_err, OkX_stuck, OkX_guard, o_addS, o_addT, o_addLL, o_addRL, o_addII, o_subI, o_mulI, o_mulS, o_fdivI, o_modI, o_powI, o_negI, o_ltI, o_leI, o_gtI, o_geI, o_ltS, o_leS, o_gtS, o_geS, o_eqI, o_eqS, o_neI, o_neS, o_isD, o_isnotD, o_inS, o_ixS, o_ixT, o_ixL, o_ixR, o_slS, o_slT, o_slL, o_slR, o_lenS, o_lenT, o_lenL, o_lenR, o_absI, o_intI, o_intB, o_tupT, o_tupL, o_tupR, o_maxI, o_minI,   List.set_cons_zero, List.set_cons_succ, List.getElem?_cons_zero, List.getElem?_cons_succ, List.map_cons, List.map_nil, List.length_cons, List.length_nil, List.replicate_succ, List.replicate_zero, List.cons_append, List.nil_append, Nat.reduceSub, Nat.reduceAdd, Nat.reduceLeDiff, exists_eq_left', D.bl.injEq, D.int.injEq, D.str.injEq, D.ref.injEq, D.tup.injEq, true_and, and_true, if_true, if_false, Bool.false_eq_true, Bool.not_true, Bool.not_false, decide_true, decide_false, bindP, bindPs, isK, atI_0, atI_1, atI_2, atI_3, ixN_0, ixN_1, Nat.zero_add, LINE, Nat.zero_le, truD, wipeD, Option.some.injEq]
    exact q
  · obtain ⟨rfl, rfl⟩ := i
    obtain ⟨b1, b2⟩ := hv v (by rw [e]; simp)
    refine ⟨_, rfl, ?_⟩
    simp (dsimp := false) only [↓Kp_app, ↓w_seq, ↓w_sNil, ↓w_set, ↓w_ret, ↓w_retN, ↓w_sIf, ↓w_expr, ↓w_par, ↓w_par3, ↓w_asg, ↓w_aug, ↓w_sub, ↓w_for, ↓w_raise, ↓w_break, ↓w_cont, ↓w_op2, ↓w_op1, ↓w_cb, ↓w_c, ↓w_var, ↓w_nil, ↓w_cons, ↓w_tup, ↓w_lst, ↓w_new, ↓w_if, ↓w_test, ↓w_tru, ↓w_not, ↓w_and, ↓w_or, ↓w_andV, ↓w_orV, ↓w_notV, ↓w_chain, ↓w_call, ↓w_callK, ↓w_sl, ↓w_part0, ↓w_part1, ↓w_isi, ↓w_join, ↓w_mt, ↓w_lc, ↓w_lcN, ↓w_lcA, ↓w_it, ↓w_range1, ↓w_range2, ↓w_enum, ↓w_enumS, ↓w_zip,   OkX_ok, OkX_err, OkX_stuck, OkX_guard, o_addS, o_addT, o_addLL, o_addRL, o_addII, o_subI, o_mulI, o_mulS, o_fdivI, o_modI, o_powI, o_negI, o_ltI, o_leI, o_gtI, o_geI, o_ltS, o_leS, o_gtS, o_geS, o_eqI, o_eqS, o_neI, o_neS, o_isD, o_isnotD, o_inS, o_ixS, o_ixT, o_ixL, o_ixR, o_slS, o_slT, o_slL, o_slR, o_lenS, o_lenT, o_lenL, o_lenR, o_absI, o_intI, o_intB, o_tupT, o_tupL, o_tupR, o_maxI, o_minI,   List.set_cons_zero, List.set_cons_succ, List.getElem?_cons_zero, List.getElem?_cons_succ, List.map_cons, List.map_nil, List.length_cons, List.length_nil, List.replicate_succ, List.replicate_zero, List.cons_append, List.nil_append, Nat.reduceSub, Nat.reduceAdd, Nat.reduceLeDiff, exists_eq_left', D.bl.injEq, D.int.injEq, D.str.injEq, D.ref.injEq, D.tup.injEq, true_and, and_true, if_true, if_false, Bool.false_eq_true, Bool.not_true, Bool.not_false, decide_true, decide_false, bindP, bindPs, isK, atI_0, atI_1, atI_2, atI_3, ixN_0, ixN_1, Nat.zero_add, LINE, Nat.zero_le, truD, wipeD, Option.some.injEq]
    refine w_callC (cs := [v, f]) (ds := []) rfl b1 rfl rfl b2 pd ?_
    simp (dsimp := false) only [o_neD, eqD_nice (k := 1) nd nd, ↓Kp_app, ↓w_seq, ↓w_sNil, ↓w_set, ↓w_ret, ↓w_retN, ↓w_sIf, ↓w_expr, ↓w_par, ↓w_par3, ↓w_asg, ↓w_aug, ↓w_sub, ↓w_for, ↓w_raise, ↓w_break, ↓w_cont, ↓w_op2, ↓w_op1, ↓w_cb, ↓w_c, ↓w_var, ↓w_nil, ↓w_cons, ↓w_tup, ↓w_lst, ↓w_new, ↓w_if, ↓w_test, ↓w_tru, ↓w_not, ↓w_and, ↓w_or, ↓w_andV, ↓w_orV, ↓w_notV, ↓w_chain, ↓w_call, ↓w_callK, ↓w_sl, ↓w_part0, ↓w_part1, ↓w_isi, ↓w_join, ↓w_mt, ↓w_lc, ↓w_lcN, ↓w_lcA, ↓w_it, ↓w_range1, ↓w_range2, ↓w_enum, ↓w_enumS, ↓w_zip,   OkX_ok, OkX_err, OkX_stuck, OkX_guard, o_addS, o_addT, o_addLL, o_addRL, o_addII, o_subI, o_mulI, o_mulS, o_fdivI, o_modI, o_powI, o_negI, o_ltI, o_leI, o_gtI, o_geI, o_ltS, o_leS, o_gtS, o_geS, o_eqI, o_eqS, o_neI, o_neS, o_isD, o_isnotD, o_inS, o_ixS, o_ixT, o_ixL, o_ixR, o_slS, o_slT, o_slL, o_slR, o_lenS, o_lenT, o_lenL, o_lenR, o_absI, o_intI, o_intB, o_tupT, o_tupL, o_tupR, o_maxI, o_minI,   List.set_cons_zero, List.set_cons_succ, List.getElem?_cons_zero, List.getElem?_cons_succ, List.map_cons, List.map_nil, List.length_cons, List.length_nil, List.replicate_succ, List.replicate_zero, List.cons_append, List.nil_append, Nat.reduceSub, Nat.reduceAdd, Nat.reduceLeDiff, exists_eq_left', D.bl.injEq, D.int.injEq, D.str.injEq, D.ref.injEq, D.tup.injEq, true_and, and_true, if_true, if_false, Bool.false_eq_true, Bool.not_true, Bool.not_false, decide_true, decide_false, bindP, bindPs, isK, atI_0, atI_1, atI_2, atI_3, ixN_0, ixN_1, Nat.zero_add, LINE, Nat.zero_le, truD, wipeD, Option.some.injEq]
theorem heard_q : ∀ v ∈ ([.non, .int 3, .str [49, 50], .tup [], .tup [.int 1], .tup [.int 1, .int 2, .int 3], .tup [.int 1, .non], .tup [.bl true, .int 1], .tup [.int 1, .bl false], .tup [.str [49], .int 1], .tup [.int (10 ^ Int.toNat 40), .int 1], .tup [.int 0, .int (0 - 10 ^ Int.toNat 40)], .tup [.tup [.int 1], .int 2]] : List D), belowDs 0 [v, .glo "quotients"] = true ∧ m__law_heard [.clo 0 [v, .glo "quotients"]] [] = .ok (.tup [.str [112, 97, 105, 114], .int (0 - 1)]) [] := by
  simp only [List.forall_mem_cons, List.forall_mem_nil, and_true]
  (repeat' apply And.intro) <;> first | rfl | exact fun x m => (nomatch m)
theorem heard_r : ∀ v ∈ ([.non, .int 3, .str [49, 50], .tup [], .tup [.int 1], .tup [.int 1, .int 2, .int 3], .tup [.int 1, .non], .tup [.bl true, .int 1], .tup [.int 1, .bl false], .tup [.str [49], .int 1], .tup [.int (10 ^ Int.toNat 40), .int 1], .tup [.int 0, .int (0 - 10 ^ Int.toNat 40)], .tup [.tup [.int 1], .int 2]] : List D), belowDs 0 [v, .glo "reduced"] = true ∧ m__law_heard [.clo 0 [v, .glo "reduced"]] [] = .ok (.tup [.str [112, 97, 105, 114], .int (0 - 1)]) [] := by
  simp only [List.forall_mem_cons, List.forall_mem_nil, and_true]
  (repeat' apply And.intro) <;> first | rfl | exact fun x m => (nomatch m)

def bInner : MS := (sSeq (sAsg (.tp [(.nm 4), (.nm 5), (.nm 6)]) (xCall m__law_euclid [] (aCons (xVar 3) aNil))) (sSeq (sIf (xNot (xTru (xCall (m__law_same 8) [] (aCons (xTup (aCons (xCall m_quotients [] (aCons (xCall m__law_seq [] (aCons (xVar 1) (aCons (xVar 3) aNil))) aNil)) (aCons (xCallK m_quotients ((List.range 1).map .kw) aNil (aCons (xVar 3) aNil)) aNil))) (aCons (xTup (aCons (xVar 4) (aCons (xVar 4) aNil))) aNil))))) (sSeq (sRet (xC (.bl false))) sNil) sNil) (sSeq (sIf (xNot (xTru (xCall (m__law_same 8) [] (aCons (xTup (aCons (xCall m_reduced [] (aCons (xCall m__law_seq [] (aCons (xVar 1) (aCons (xVar 3) aNil))) aNil)) (aCons (xCallK m_reduced ((List.range 1).map .kw) aNil (aCons (xVar 3) aNil)) aNil))) (aCons (xOp2 oMul (xTup (aCons (xTup (aCons (xVar 5) (aCons (xVar 6) aNil))) aNil)) (xC (.int 2))) aNil))))) (sSeq (sRet (xC (.bl false))) sNil) sNil) (sSeq (sIf (xOr (xTest (xOp2 oNe (xVar 5) (xCall m__law_shared [] (aCons (xOp2 oIx (xVar 3) (xC (.int 0))) (aCons (xOp2 oIx (xVar 3) (xC (.int 1))) aNil))))) (xOr (xTest (xOp2 oNe (xOp2 oSub (xOp2 oMul (xOp2 oIx (xVar 6) (xC (.int 0))) (xOp2 oIx (xVar 6) (xC (.int 3)))) (xOp2 oMul (xOp2 oIx (xVar 6) (xC (.int 1))) (xOp2 oIx (xVar 6) (xC (.int 2))))) (xC (.int 1)))) (xTest (xOp2 oGt (xCB oLen (aCons (xVar 4) aNil)) (xC (.int 200)))))) (sSeq (sRet (xC (.bl false))) sNil) sNil) (sSeq (sIf (xAnd (xTest (xOp2 oLt (xCB oMax (aCons (xLc (xIt (xVar 6)) (.nm 9) xYes (xCB oAbs (aCons (xVar 9) aNil)) [9]) aNil)) (xOp2 oPow (xC (.int 10)) (xC (.int 40))))) (xNot (xTru (xCall (m__law_same 8) [] (aCons (xCall m_led_pair [] (aCons (xVar 6) (aCons (xVar 3) aNil))) (aCons (xTup (aCons (xVar 5) (aCons (xC (.int 0)) aNil))) aNil)))))) (sSeq (sRet (xC (.bl false))) sNil) sNil) sNil)))))
def bRest : MS := (sSeq (sSet 7 (xOp2 oPow (xC (.int 10)) (xC (.int 40)))) (sSeq (sSet 8 (xLst (aCons (xC .non) (aCons (xC (.int 3)) (aCons (xC (.str [49, 50])) (aCons (xTup aNil) (aCons (xTup (aCons (xC (.int 1)) aNil)) (aCons (xTup (aCons (xC (.int 1)) (aCons (xC (.int 2)) (aCons (xC (.int 3)) aNil)))) (aCons (xTup (aCons (xC (.int 1)) (aCons (xC .non) aNil))) (aCons (xTup (aCons (xC (.bl true)) (aCons (xC (.int 1)) aNil))) (aCons (xTup (aCons (xC (.int 1)) (aCons (xC (.bl false)) aNil))) (aCons (xTup (aCons (xC (.str [49])) (aCons (xC (.int 1)) aNil))) (aCons (xTup (aCons (xVar 7) (aCons (xC (.int 1)) aNil))) (aCons (xTup (aCons (xC (.int 0)) (aCons (xOp2 oSub (xC (.int 0)) (xVar 7)) aNil))) (aCons (xTup (aCons (xTup (aCons (xC (.int 1)) aNil)) (aCons (xC (.int 2)) aNil))) aNil))))))))))))))) (sSeq (sIf (xOr (xNot (xTru (xCall m__law_all_heard [] (aCons (xC (.glo "quotients")) (aCons (xVar 8) (aCons (xTup (aCons (xC (.str [112, 97, 105, 114])) (aCons (xOp2 oSub (xC (.int 0)) (xC (.int 1))) aNil))) aNil)))))) (xNot (xTru (xCall m__law_all_heard [] (aCons (xC (.glo "reduced")) (aCons (xVar 8) (aCons (xTup (aCons (xC (.str [112, 97, 105, 114])) (aCons (xOp2 oSub (xC (.int 0)) (xC (.int 1))) aNil))) aNil))))))) (sSeq (sRet (xC (.bl false))) sNil) sNil) (sSeq (sIf (xOr (xTest (xOp2 oGt (xCB oLen (aCons (xCall m_quotients [] (aCons (xTup (aCons (xOp2 oSub (xVar 7) (xC (.int 2))) (aCons (xOp2 oSub (xVar 7) (xC (.int 1))) aNil))) aNil)) aNil)) (xC (.int 3)))) (xNot (xTru (xCall (m__law_same 8) [] (aCons (xCall m_reduced [] (aCons (xTup (aCons (xC (.int 0)) (aCons (xC (.int 0)) aNil))) aNil)) (aCons (xTup (aCons (xC (.int 0)) (aCons (xTup (aCons (xC (.int 1)) (aCons (xC (.int 0)) (aCons (xC (.int 0)) (aCons (xC (.int 1)) aNil))))) aNil))) aNil)))))) (sSeq (sRet (xC (.bl false))) sNil) sNil) (sSeq (sRet (xCall (m__law_same 8) [] (aCons (xTup (aCons (xCall m_quotients [] (aCons (xTup (aCons (xC (.int 7)) (aCons (xC (.int 3)) aNil))) aNil)) (aCons (xCall m_reduced [] (aCons (xTup (aCons (xC (.int 7)) (aCons (xC (.int 3)) aNil))) aNil)) (aCons (xCall m_quotients [] (aCons (xTup (aCons (xC (.int 4)) (aCons (xC (.int 5)) aNil))) aNil)) (aCons (xCall m_reduced [] (aCons (xTup (aCons (xOp2 oSub (xC (.int 0)) (xC (.int 6))) (aCons (xC (.int 0)) aNil))) aNil)) aNil))))) (aCons (xTup (aCons (xTup (aCons (xC (.int 2)) (aCons (xOp2 oSub (xC (.int 0)) (xC (.int 3))) aNil))) (aCons (xTup (aCons (xC (.int 1)) (aCons (xTup (aCons (xC (.int 1)) (aCons (xOp2 oSub (xC (.int 0)) (xC (.int 3))) (aCons (xOp2 oSub (xC (.int 0)) (xC (.int 2))) (aCons (xC (.int 7)) aNil))))) aNil))) (aCons (xTup (aCons (xC (.int 0)) (aCons (xOp2 oSub (xC (.int 0)) (xC (.int 1))) (aCons (xC (.int 4)) aNil)))) (aCons (xTup (aCons (xC (.int 6)) (aCons (xTup (aCons (xOp2 oSub (xC (.int 0)) (xC (.int 1))) (aCons (xC (.int 0)) (aCons (xC (.int 0)) (aCons (xOp2 oSub (xC (.int 0)) (xC (.int 1))) aNil))))) aNil))) aNil))))) aNil)))) sNil)))))
theorem led_one (p : Int × Int) : ledP p (1, 0, 0, 1) = p := by
  unfold ledP; refine Prod.ext ?_ ?_ <;> simp
theorem neg_led {p : Int × Int} {t : Tb} : ledP p (negT t) = (-(ledP p t).1, -(ledP p t).2) := by
  unfold ledP negT
  refine Prod.ext ?_ ?_ <;> simp only <;> grind
theorem tabE_led {x y : Int} (hx : light x) (hy : light y) : ledP (x, y) (tabE x y) = (((endE x y).natAbs : Int), 0) := by
  have l := tabs_led 199 (x, y) (1, 0, 0, 1) x y (led_one (x, y))
  rw [eu_eq hx hy] at l
  have l : ledP (x, y) (tabs (1, 0, 0, 1) (rowE x y)) = (endE x y, 0) := l
  unfold tabE
  split
  · rw [neg_led, l]
    refine Prod.ext ?_ ?_
    · show -(endE x y) = _
      omega
    · rfl
  · rw [l]
    refine Prod.ext ?_ rfl
    show endE x y = _
    omega
theorem det_neg {t : Tb} : detT (negT t) = detT t := by unfold detT negT; simp only; grind
theorem tabE_det {x y : Int} : detT (tabE x y) = 1 := by
  have : detT (tabs (1, 0, 0, 1) (rowE x y)) = 1 := by rw [tabs_det]; rfl
  unfold tabE
  split
  · rw [det_neg, this]
  · exact this
theorem endE_gcd {x y : Int} (hx : light x) (hy : light y) : (endE x y).natAbs = Nat.gcd x.natAbs y.natAbs := by
  have := @eu_gcd 199 x y
  rw [eu_eq hx hy] at this
  rw [← this]
  simp
theorem tabE_sm {x y : Int} (hx : light x) (hy : light y) : SmT 30000 (tabE x y) := by
  have := tab_sm hx hy
  unfold tabE
  split
  · exact ⟨this.a.neg, this.b.neg, this.c.neg, this.d.neg⟩
  · exact this
theorem eqD_int {h : List MO} {i j : Int} : eqD h (.int i) (.int j) = some (decide (i = j)) := by
  unfold eqD; rw [if_pos (by rfl)]; congr 1; simp
theorem o_mulT1 {d : D} : OkX (oMul (.tup [d]) (.int 2) h) P X = P (.tup [d, d]) h := id rfl
theorem inner_ok {ns : List Int} {a b : Int} {x2 x4 x5 x6 x7 x8 x9 : Option D} {N : Po} (ha : light a) (hb : light b) (x : BoxD [] h) (q : ∀ x4 x5 x6 x7 x8 x9 h', BoxD [] h' → N.nx [some (.lst (ns.map .int)), some (.ref 1), x2, some (dP (a, b)), x4, x5, x6, x7, x8, x9] h') :
    OkS (bInner [some (.lst (ns.map .int)), some (.ref 1), x2, some (dP (a, b)), x4, x5, x6, x7, x8, x9] h) N := by
  unfold bInner
  simp (dsimp := false) only [↓Kp_app, ↓w_seq, ↓w_sNil, ↓w_set, ↓w_ret, ↓w_retN, ↓w_sIf, ↓w_expr, ↓w_par, ↓w_par3, ↓w_asg, ↓w_aug, ↓w_sub, ↓w_for, ↓w_raise, ↓w_break, ↓w_cont, ↓w_op2, ↓w_op1, ↓w_cb, ↓w_c, ↓w_var, ↓w_nil, ↓w_cons, ↓w_tup, ↓w_lst, ↓w_new, ↓w_if, ↓w_test, ↓w_tru, ↓w_not, ↓w_and, ↓w_or, ↓w_andV, ↓w_orV, ↓w_notV, ↓w_chain, ↓w_call, ↓w_callK, ↓w_sl, ↓w_part0, ↓w_part1, ↓w_isi, ↓w_join, ↓w_mt, ↓w_lc, ↓w_lcN, ↓w_lcA, ↓w_it, ↓w_range1, ↓w_range2, ↓w_enum, ↓w_enumS, ↓w_zip,   OkX_ok, OkX_err, OkX_stuck, OkX_guard, o_addS, o_addT, o_addLL, o_addRL, o_addII, o_subI, o_mulI, o_mulS, o_fdivI, o_modI, o_powI, o_negI, o_ltI, o_leI, o_gtI, o_geI, o_ltS, o_leS, o_gtS, o_geS, o_eqI, o_eqS, o_neI, o_neS, o_isD, o_isnotD, o_inS, o_ixS, o_ixT, o_ixL, o_ixR, o_slS, o_slT, o_slL, o_slR, o_lenS, o_lenT, o_lenL, o_lenR, o_absI, o_intI, o_intB, o_tupT, o_tupL, o_tupR, o_maxI, o_minI,   List.set_cons_zero, List.set_cons_succ, List.getElem?_cons_zero, List.getElem?_cons_succ, List.map_cons, List.map_nil, List.length_cons, List.length_nil, List.replicate_succ, List.replicate_zero, List.cons_append, List.nil_append, Nat.reduceSub, Nat.reduceAdd, Nat.reduceLeDiff, exists_eq_left', D.bl.injEq, D.int.injEq, D.str.injEq, D.ref.injEq, D.tup.injEq, true_and, and_true, if_true, if_false, Bool.false_eq_true, Bool.not_true, Bool.not_false, decide_true, decide_false, bindP, bindPs, isK, atI_0, atI_1, atI_2, atI_3, ixN_0, ixN_1, Nat.zero_add, LINE, Nat.zero_le, truD, wipeD, Option.some.injEq]
  refine leuclid_ok ha hb ?_
  simp (dsimp := false) only [↓Kp_app, ↓w_seq, ↓w_sNil, ↓w_set, ↓w_ret, ↓w_retN, ↓w_sIf, ↓w_expr, ↓w_par, ↓w_par3, ↓w_asg, ↓w_aug, ↓w_sub, ↓w_for, ↓w_raise, ↓w_break, ↓w_cont, ↓w_op2, ↓w_op1, ↓w_cb, ↓w_c, ↓w_var, ↓w_nil, ↓w_cons, ↓w_tup, ↓w_lst, ↓w_new, ↓w_if, ↓w_test, ↓w_tru, ↓w_not, ↓w_and, ↓w_or, ↓w_andV, ↓w_orV, ↓w_notV, ↓w_chain, ↓w_call, ↓w_callK, ↓w_sl, ↓w_part0, ↓w_part1, ↓w_isi, ↓w_join, ↓w_mt, ↓w_lc, ↓w_lcN, ↓w_lcA, ↓w_it, ↓w_range1, ↓w_range2, ↓w_enum, ↓w_enumS, ↓w_zip,   OkX_ok, OkX_err, OkX_stuck, OkX_guard, o_addS, o_addT, o_addLL, o_addRL, o_addII, o_subI, o_mulI, o_mulS, o_fdivI, o_modI, o_powI, o_negI, o_ltI, o_leI, o_gtI, o_geI, o_ltS, o_leS, o_gtS, o_geS, o_eqI, o_eqS, o_neI, o_neS, o_isD, o_isnotD, o_inS, o_ixS, o_ixT, o_ixL, o_ixR, o_slS, o_slT, o_slL, o_slR, o_lenS, o_lenT, o_lenL, o_lenR, o_absI, o_intI, o_intB, o_tupT, o_tupL, o_tupR, o_maxI, o_minI,   List.set_cons_zero, List.set_cons_succ, List.getElem?_cons_zero, List.getElem?_cons_succ, List.map_cons, List.map_nil, List.length_cons, List.length_nil, List.replicate_succ, List.replicate_zero, List.cons_append, List.nil_append, Nat.reduceSub, Nat.reduceAdd, Nat.reduceLeDiff, exists_eq_left', D.bl.injEq, D.int.injEq, D.str.injEq, D.ref.injEq, D.tup.injEq, true_and, and_true, if_true, if_false, Bool.false_eq_true, Bool.not_true, Bool.not_false, decide_true, decide_false, bindP, bindPs, isK, atI_0, atI_1, atI_2, atI_3, ixN_0, ixN_1, Nat.zero_add, LINE, Nat.zero_le, truD, wipeD, Option.some.injEq]
  rw [seq_eqD]
  refine seq_okD x fun v h1 hv x1 => ?_
  simp (dsimp := false) only [↓Kp_app, ↓w_seq, ↓w_sNil, ↓w_set, ↓w_ret, ↓w_retN, ↓w_sIf, ↓w_expr, ↓w_par, ↓w_par3, ↓w_asg, ↓w_aug, ↓w_sub, ↓w_for, ↓w_raise, ↓w_break, ↓w_cont, ↓w_op2, ↓w_op1, ↓w_cb, ↓w_c, ↓w_var, ↓w_nil, ↓w_cons, ↓w_tup, ↓w_lst, ↓w_new, ↓w_if, ↓w_test, ↓w_tru, ↓w_not, ↓w_and, ↓w_or, ↓w_andV, ↓w_orV, ↓w_notV, ↓w_chain, ↓w_call, ↓w_callK, ↓w_sl, ↓w_part0, ↓w_part1, ↓w_isi, ↓w_join, ↓w_mt, ↓w_lc, ↓w_lcN, ↓w_lcA, ↓w_it, ↓w_range1, ↓w_range2, ↓w_enum, ↓w_enumS, ↓w_zip,   OkX_ok, OkX_err, OkX_stuck, OkX_guard, o_addS, o_addT, o_addLL, o_addRL, o_addII, o_subI, o_mulI, o_mulS, o_fdivI, o_modI, o_powI, o_negI, o_ltI, o_leI, o_gtI, o_geI, o_ltS, o_leS, o_gtS, o_geS, o_eqI, o_eqS, o_neI, o_neS, o_isD, o_isnotD, o_inS, o_ixS, o_ixT, o_ixL, o_ixR, o_slS, o_slT, o_slL, o_slR, o_lenS, o_lenT, o_lenL, o_lenR, o_absI, o_intI, o_intB, o_tupT, o_tupL, o_tupR, o_maxI, o_minI,   List.set_cons_zero, List.set_cons_succ, List.getElem?_cons_zero, List.getElem?_cons_succ, List.map_cons, List.map_nil, List.length_cons, List.length_nil, List.replicate_succ, List.replicate_zero, List.cons_append, List.nil_append, Nat.reduceSub, Nat.reduceAdd, Nat.reduceLeDiff, exists_eq_left', D.bl.injEq, D.int.injEq, D.str.injEq, D.ref.injEq, D.tup.injEq, true_and, and_true, if_true, if_false, Bool.false_eq_true, Bool.not_true, Bool.not_false, decide_true, decide_false, bindP, bindPs, isK, atI_0, atI_1, atI_2, atI_3, ixN_0, ixN_1, Nat.zero_add, LINE, Nat.zero_le, truD, wipeD, Option.some.injEq]
  refine quotients_ok hv ha hb ?_
  simp (dsimp := false) only [↓Kp_app, ↓w_seq, ↓w_sNil, ↓w_set, ↓w_ret, ↓w_retN, ↓w_sIf, ↓w_expr, ↓w_par, ↓w_par3, ↓w_asg, ↓w_aug, ↓w_sub, ↓w_for, ↓w_raise, ↓w_break, ↓w_cont, ↓w_op2, ↓w_op1, ↓w_cb, ↓w_c, ↓w_var, ↓w_nil, ↓w_cons, ↓w_tup, ↓w_lst, ↓w_new, ↓w_if, ↓w_test, ↓w_tru, ↓w_not, ↓w_and, ↓w_or, ↓w_andV, ↓w_orV, ↓w_notV, ↓w_chain, ↓w_call, ↓w_callK, ↓w_sl, ↓w_part0, ↓w_part1, ↓w_isi, ↓w_join, ↓w_mt, ↓w_lc, ↓w_lcN, ↓w_lcA, ↓w_it, ↓w_range1, ↓w_range2, ↓w_enum, ↓w_enumS, ↓w_zip,   OkX_ok, OkX_err, OkX_stuck, OkX_guard, o_addS, o_addT, o_addLL, o_addRL, o_addII, o_subI, o_mulI, o_mulS, o_fdivI, o_modI, o_powI, o_negI, o_ltI, o_leI, o_gtI, o_geI, o_ltS, o_leS, o_gtS, o_geS, o_eqI, o_eqS, o_neI, o_neS, o_isD, o_isnotD, o_inS, o_ixS, o_ixT, o_ixL, o_ixR, o_slS, o_slT, o_slL, o_slR, o_lenS, o_lenT, o_lenL, o_lenR, o_absI, o_intI, o_intB, o_tupT, o_tupL, o_tupR, o_maxI, o_minI,   List.set_cons_zero, List.set_cons_succ, List.getElem?_cons_zero, List.getElem?_cons_succ, List.map_cons, List.map_nil, List.length_cons, List.length_nil, List.replicate_succ, List.replicate_zero, List.cons_append, List.nil_append, Nat.reduceSub, Nat.reduceAdd, Nat.reduceLeDiff, exists_eq_left', D.bl.injEq, D.int.injEq, D.str.injEq, D.ref.injEq, D.tup.injEq, true_and, and_true, if_true, if_false, Bool.false_eq_true, Bool.not_true, Bool.not_false, decide_true, decide_false, bindP, bindPs, isK, atI_0, atI_1, atI_2, atI_3, ixN_0, ixN_1, Nat.zero_add, LINE, Nat.zero_le, truD, wipeD, Option.some.injEq]
  refine quotients_ok (.inl rfl) ha hb ?_
  simp (dsimp := false) only [↓Kp_app, ↓w_seq, ↓w_sNil, ↓w_set, ↓w_ret, ↓w_retN, ↓w_sIf, ↓w_expr, ↓w_par, ↓w_par3, ↓w_asg, ↓w_aug, ↓w_sub, ↓w_for, ↓w_raise, ↓w_break, ↓w_cont, ↓w_op2, ↓w_op1, ↓w_cb, ↓w_c, ↓w_var, ↓w_nil, ↓w_cons, ↓w_tup, ↓w_lst, ↓w_new, ↓w_if, ↓w_test, ↓w_tru, ↓w_not, ↓w_and, ↓w_or, ↓w_andV, ↓w_orV, ↓w_notV, ↓w_chain, ↓w_call, ↓w_callK, ↓w_sl, ↓w_part0, ↓w_part1, ↓w_isi, ↓w_join, ↓w_mt, ↓w_lc, ↓w_lcN, ↓w_lcA, ↓w_it, ↓w_range1, ↓w_range2, ↓w_enum, ↓w_enumS, ↓w_zip,   OkX_ok, OkX_err, OkX_stuck, OkX_guard, o_addS, o_addT, o_addLL, o_addRL, o_addII, o_subI, o_mulI, o_mulS, o_fdivI, o_modI, o_powI, o_negI, o_ltI, o_leI, o_gtI, o_geI, o_ltS, o_leS, o_gtS, o_geS, o_eqI, o_eqS, o_neI, o_neS, o_isD, o_isnotD, o_inS, o_ixS, o_ixT, o_ixL, o_ixR, o_slS, o_slT, o_slL, o_slR, o_lenS, o_lenT, o_lenL, o_lenR, o_absI, o_intI, o_intB, o_tupT, o_tupL, o_tupR, o_maxI, o_minI,   List.set_cons_zero, List.set_cons_succ, List.getElem?_cons_zero, List.getElem?_cons_succ, List.map_cons, List.map_nil, List.length_cons, List.length_nil, List.replicate_succ, List.replicate_zero, List.cons_append, List.nil_append, Nat.reduceSub, Nat.reduceAdd, Nat.reduceLeDiff, exists_eq_left', D.bl.injEq, D.int.injEq, D.str.injEq, D.ref.injEq, D.tup.injEq, true_and, and_true, if_true, if_false, Bool.false_eq_true, Bool.not_true, Bool.not_false, decide_true, decide_false, bindP, bindPs, isK, atI_0, atI_1, atI_2, atI_3, ixN_0, ixN_1, Nat.zero_add, LINE, Nat.zero_le, truD, wipeD, Option.some.injEq]
  with_reducible refine sameq ?_ ?_
  · have : (rowE a b).length ≤ 16777216 := Nat.le_trans rowE_len (by decide)
    simp [sameDD, this]
  simp (dsimp := false) only [tru_bl, ↓Kp_app, ↓w_seq, ↓w_sNil, ↓w_set, ↓w_ret, ↓w_retN, ↓w_sIf, ↓w_expr, ↓w_par, ↓w_par3, ↓w_asg, ↓w_aug, ↓w_sub, ↓w_for, ↓w_raise, ↓w_break, ↓w_cont, ↓w_op2, ↓w_op1, ↓w_cb, ↓w_c, ↓w_var, ↓w_nil, ↓w_cons, ↓w_tup, ↓w_lst, ↓w_new, ↓w_if, ↓w_test, ↓w_tru, ↓w_not, ↓w_and, ↓w_or, ↓w_andV, ↓w_orV, ↓w_notV, ↓w_chain, ↓w_call, ↓w_callK, ↓w_sl, ↓w_part0, ↓w_part1, ↓w_isi, ↓w_join, ↓w_mt, ↓w_lc, ↓w_lcN, ↓w_lcA, ↓w_it, ↓w_range1, ↓w_range2, ↓w_enum, ↓w_enumS, ↓w_zip,   OkX_ok, OkX_err, OkX_stuck, OkX_guard, o_addS, o_addT, o_addLL, o_addRL, o_addII, o_subI, o_mulI, o_mulS, o_fdivI, o_modI, o_powI, o_negI, o_ltI, o_leI, o_gtI, o_geI, o_ltS, o_leS, o_gtS, o_geS, o_eqI, o_eqS, o_neI, o_neS, o_isD, o_isnotD, o_inS, o_ixS, o_ixT, o_ixL, o_ixR, o_slS, o_slT, o_slL, o_slR, o_lenS, o_lenT, o_lenL, o_lenR, o_absI, o_intI, o_intB, o_tupT, o_tupL, o_tupR, o_maxI, o_minI,   List.set_cons_zero, List.set_cons_succ, List.getElem?_cons_zero, List.getElem?_cons_succ, List.map_cons, List.map_nil, List.length_cons, List.length_nil, List.replicate_succ, List.replicate_zero, List.cons_append, List.nil_append, Nat.reduceSub, Nat.reduceAdd, Nat.reduceLeDiff, exists_eq_left', D.bl.injEq, D.int.injEq, D.str.injEq, D.ref.injEq, D.tup.injEq, true_and, and_true, if_true, if_false, Bool.false_eq_true, Bool.not_true, Bool.not_false, decide_true, decide_false, bindP, bindPs, isK, atI_0, atI_1, atI_2, atI_3, ixN_0, ixN_1, Nat.zero_add, LINE, Nat.zero_le, truD, wipeD, Option.some.injEq]
  refine seq_okD x1 fun v h2 hv x2 => ?_
  simp (dsimp := false) only [↓Kp_app, ↓w_seq, ↓w_sNil, ↓w_set, ↓w_ret, ↓w_retN, ↓w_sIf, ↓w_expr, ↓w_par, ↓w_par3, ↓w_asg, ↓w_aug, ↓w_sub, ↓w_for, ↓w_raise, ↓w_break, ↓w_cont, ↓w_op2, ↓w_op1, ↓w_cb, ↓w_c, ↓w_var, ↓w_nil, ↓w_cons, ↓w_tup, ↓w_lst, ↓w_new, ↓w_if, ↓w_test, ↓w_tru, ↓w_not, ↓w_and, ↓w_or, ↓w_andV, ↓w_orV, ↓w_notV, ↓w_chain, ↓w_call, ↓w_callK, ↓w_sl, ↓w_part0, ↓w_part1, ↓w_isi, ↓w_join, ↓w_mt, ↓w_lc, ↓w_lcN, ↓w_lcA, ↓w_it, ↓w_range1, ↓w_range2, ↓w_enum, ↓w_enumS, ↓w_zip,   OkX_ok, OkX_err, OkX_stuck, OkX_guard, o_addS, o_addT, o_addLL, o_addRL, o_addII, o_subI, o_mulI, o_mulS, o_fdivI, o_modI, o_powI, o_negI, o_ltI, o_leI, o_gtI, o_geI, o_ltS, o_leS, o_gtS, o_geS, o_eqI, o_eqS, o_neI, o_neS, o_isD, o_isnotD, o_inS, o_ixS, o_ixT, o_ixL, o_ixR, o_slS, o_slT, o_slL, o_slR, o_lenS, o_lenT, o_lenL, o_lenR, o_absI, o_intI, o_intB, o_tupT, o_tupL, o_tupR, o_maxI, o_minI,   List.set_cons_zero, List.set_cons_succ, List.getElem?_cons_zero, List.getElem?_cons_succ, List.map_cons, List.map_nil, List.length_cons, List.length_nil, List.replicate_succ, List.replicate_zero, List.cons_append, List.nil_append, Nat.reduceSub, Nat.reduceAdd, Nat.reduceLeDiff, exists_eq_left', D.bl.injEq, D.int.injEq, D.str.injEq, D.ref.injEq, D.tup.injEq, true_and, and_true, if_true, if_false, Bool.false_eq_true, Bool.not_true, Bool.not_false, decide_true, decide_false, bindP, bindPs, isK, atI_0, atI_1, atI_2, atI_3, ixN_0, ixN_1, Nat.zero_add, LINE, Nat.zero_le, truD, wipeD, Option.some.injEq]
  refine reduced_ok hv ha hb ?_
  simp (dsimp := false) only [↓Kp_app, ↓w_seq, ↓w_sNil, ↓w_set, ↓w_ret, ↓w_retN, ↓w_sIf, ↓w_expr, ↓w_par, ↓w_par3, ↓w_asg, ↓w_aug, ↓w_sub, ↓w_for, ↓w_raise, ↓w_break, ↓w_cont, ↓w_op2, ↓w_op1, ↓w_cb, ↓w_c, ↓w_var, ↓w_nil, ↓w_cons, ↓w_tup, ↓w_lst, ↓w_new, ↓w_if, ↓w_test, ↓w_tru, ↓w_not, ↓w_and, ↓w_or, ↓w_andV, ↓w_orV, ↓w_notV, ↓w_chain, ↓w_call, ↓w_callK, ↓w_sl, ↓w_part0, ↓w_part1, ↓w_isi, ↓w_join, ↓w_mt, ↓w_lc, ↓w_lcN, ↓w_lcA, ↓w_it, ↓w_range1, ↓w_range2, ↓w_enum, ↓w_enumS, ↓w_zip,   OkX_ok, OkX_err, OkX_stuck, OkX_guard, o_addS, o_addT, o_addLL, o_addRL, o_addII, o_subI, o_mulI, o_mulS, o_fdivI, o_modI, o_powI, o_negI, o_ltI, o_leI, o_gtI, o_geI, o_ltS, o_leS, o_gtS, o_geS, o_eqI, o_eqS, o_neI, o_neS, o_isD, o_isnotD, o_inS, o_ixS, o_ixT, o_ixL, o_ixR, o_slS, o_slT, o_slL, o_slR, o_lenS, o_lenT, o_lenL, o_lenR, o_absI, o_intI, o_intB, o_tupT, o_tupL, o_tupR, o_maxI, o_minI,   List.set_cons_zero, List.set_cons_succ, List.getElem?_cons_zero, List.getElem?_cons_succ, List.map_cons, List.map_nil, List.length_cons, List.length_nil, List.replicate_succ, List.replicate_zero, List.cons_append, List.nil_append, Nat.reduceSub, Nat.reduceAdd, Nat.reduceLeDiff, exists_eq_left', D.bl.injEq, D.int.injEq, D.str.injEq, D.ref.injEq, D.tup.injEq, true_and, and_true, if_true, if_false, Bool.false_eq_true, Bool.not_true, Bool.not_false, decide_true, decide_false, bindP, bindPs, isK, atI_0, atI_1, atI_2, atI_3, ixN_0, ixN_1, Nat.zero_add, LINE, Nat.zero_le, truD, wipeD, Option.some.injEq]
  refine reduced_ok (.inl rfl) ha hb ?_
  simp (dsimp := false) only [↓Kp_app, ↓w_seq, ↓w_sNil, ↓w_set, ↓w_ret, ↓w_retN, ↓w_sIf, ↓w_expr, ↓w_par, ↓w_par3, ↓w_asg, ↓w_aug, ↓w_sub, ↓w_for, ↓w_raise, ↓w_break, ↓w_cont, ↓w_op2, ↓w_op1, ↓w_cb, ↓w_c, ↓w_var, ↓w_nil, ↓w_cons, ↓w_tup, ↓w_lst, ↓w_new, ↓w_if, ↓w_test, ↓w_tru, ↓w_not, ↓w_and, ↓w_or, ↓w_andV, ↓w_orV, ↓w_notV, ↓w_chain, ↓w_call, ↓w_callK, ↓w_sl, ↓w_part0, ↓w_part1, ↓w_isi, ↓w_join, ↓w_mt, ↓w_lc, ↓w_lcN, ↓w_lcA, ↓w_it, ↓w_range1, ↓w_range2, ↓w_enum, ↓w_enumS, ↓w_zip,   OkX_ok, OkX_err, OkX_stuck, OkX_guard, o_addS, o_addT, o_addLL, o_addRL, o_addII, o_subI, o_mulI, o_mulS, o_fdivI, o_modI, o_powI, o_negI, o_ltI, o_leI, o_gtI, o_geI, o_ltS, o_leS, o_gtS, o_geS, o_eqI, o_eqS, o_neI, o_neS, o_isD, o_isnotD, o_inS, o_ixS, o_ixT, o_ixL, o_ixR, o_slS, o_slT, o_slL, o_slR, o_lenS, o_lenT, o_lenL, o_lenR, o_absI, o_intI, o_intB, o_tupT, o_tupL, o_tupR, o_maxI, o_minI,   List.set_cons_zero, List.set_cons_succ, List.getElem?_cons_zero, List.getElem?_cons_succ, List.map_cons, List.map_nil, List.length_cons, List.length_nil, List.replicate_succ, List.replicate_zero, List.cons_append, List.nil_append, Nat.reduceSub, Nat.reduceAdd, Nat.reduceLeDiff, exists_eq_left', D.bl.injEq, D.int.injEq, D.str.injEq, D.ref.injEq, D.tup.injEq, true_and, and_true, if_true, if_false, Bool.false_eq_true, Bool.not_true, Bool.not_false, decide_true, decide_false, bindP, bindPs, isK, atI_0, atI_1, atI_2, atI_3, ixN_0, ixN_1, Nat.zero_add, LINE, Nat.zero_le, truD, wipeD, Option.some.injEq]
  rw [o_mulT1]
  simp (dsimp := false) only [↓Kp_app, ↓w_seq, ↓w_sNil, ↓w_set, ↓w_ret, ↓w_retN, ↓w_sIf, ↓w_expr, ↓w_par, ↓w_par3, ↓w_asg, ↓w_aug, ↓w_sub, ↓w_for, ↓w_raise, ↓w_break, ↓w_cont, ↓w_op2, ↓w_op1, ↓w_cb, ↓w_c, ↓w_var, ↓w_nil, ↓w_cons, ↓w_tup, ↓w_lst, ↓w_new, ↓w_if, ↓w_test, ↓w_tru, ↓w_not, ↓w_and, ↓w_or, ↓w_andV, ↓w_orV, ↓w_notV, ↓w_chain, ↓w_call, ↓w_callK, ↓w_sl, ↓w_part0, ↓w_part1, ↓w_isi, ↓w_join, ↓w_mt, ↓w_lc, ↓w_lcN, ↓w_lcA, ↓w_it, ↓w_range1, ↓w_range2, ↓w_enum, ↓w_enumS, ↓w_zip,   OkX_ok, OkX_err, OkX_stuck, OkX_guard, o_addS, o_addT, o_addLL, o_addRL, o_addII, o_subI, o_mulI, o_mulS, o_fdivI, o_modI, o_powI, o_negI, o_ltI, o_leI, o_gtI, o_geI, o_ltS, o_leS, o_gtS, o_geS, o_eqI, o_eqS, o_neI, o_neS, o_isD, o_isnotD, o_inS, o_ixS, o_ixT, o_ixL, o_ixR, o_slS, o_slT, o_slL, o_slR, o_lenS, o_lenT, o_lenL, o_lenR, o_absI, o_intI, o_intB, o_tupT, o_tupL, o_tupR, o_maxI, o_minI,   List.set_cons_zero, List.set_cons_succ, List.getElem?_cons_zero, List.getElem?_cons_succ, List.map_cons, List.map_nil, List.length_cons, List.length_nil, List.replicate_succ, List.replicate_zero, List.cons_append, List.nil_append, Nat.reduceSub, Nat.reduceAdd, Nat.reduceLeDiff, exists_eq_left', D.bl.injEq, D.int.injEq, D.str.injEq, D.ref.injEq, D.tup.injEq, true_and, and_true, if_true, if_false, Bool.false_eq_true, Bool.not_true, Bool.not_false, decide_true, decide_false, bindP, bindPs, isK, atI_0, atI_1, atI_2, atI_3, ixN_0, ixN_1, Nat.zero_add, LINE, Nat.zero_le, truD, wipeD, Option.some.injEq]
  with_reducible refine sameq ?_ ?_
  · rfl
  simp (dsimp := false) only [tru_bl, atI_0, atI_1, atI_2, atI_3, ↓Kp_app, ↓w_seq, ↓w_sNil, ↓w_set, ↓w_ret, ↓w_retN, ↓w_sIf, ↓w_expr, ↓w_par, ↓w_par3, ↓w_asg, ↓w_aug, ↓w_sub, ↓w_for, ↓w_raise, ↓w_break, ↓w_cont, ↓w_op2, ↓w_op1, ↓w_cb, ↓w_c, ↓w_var, ↓w_nil, ↓w_cons, ↓w_tup, ↓w_lst, ↓w_new, ↓w_if, ↓w_test, ↓w_tru, ↓w_not, ↓w_and, ↓w_or, ↓w_andV, ↓w_orV, ↓w_notV, ↓w_chain, ↓w_call, ↓w_callK, ↓w_sl, ↓w_part0, ↓w_part1, ↓w_isi, ↓w_join, ↓w_mt, ↓w_lc, ↓w_lcN, ↓w_lcA, ↓w_it, ↓w_range1, ↓w_range2, ↓w_enum, ↓w_enumS, ↓w_zip,   OkX_ok, OkX_err, OkX_stuck, OkX_guard, o_addS, o_addT, o_addLL, o_addRL, o_addII, o_subI, o_mulI, o_mulS, o_fdivI, o_modI, o_powI, o_negI, o_ltI, o_leI, o_gtI, o_geI, o_ltS, o_leS, o_gtS, o_geS, o_eqI, o_eqS, o_neI, o_neS, o_isD, o_isnotD, o_inS, o_ixS, o_ixT, o_ixL, o_ixR, o_slS, o_slT, o_slL, o_slR, o_lenS, o_lenT, o_lenL, o_lenR, o_absI, o_intI, o_intB, o_tupT, o_tupL, o_tupR, o_maxI, o_minI,   List.set_cons_zero, List.set_cons_succ, List.getElem?_cons_zero, List.getElem?_cons_succ, List.map_cons, List.map_nil, List.length_cons, List.length_nil, List.replicate_succ, List.replicate_zero, List.cons_append, List.nil_append, Nat.reduceSub, Nat.reduceAdd, Nat.reduceLeDiff, exists_eq_left', D.bl.injEq, D.int.injEq, D.str.injEq, D.ref.injEq, D.tup.injEq, true_and, and_true, if_true, if_false, Bool.false_eq_true, Bool.not_true, Bool.not_false, decide_true, decide_false, bindP, bindPs, isK, atI_0, atI_1, atI_2, atI_3, ixN_0, ixN_1, Nat.zero_add, LINE, Nat.zero_le, truD, wipeD, Option.some.injEq]
  refine shared_ok ha hb ?_
  have sm := tabE_sm ha hb
  have dt : (tabE a b).1 * (tabE a b).2.2.2 - (tabE a b).2.1 * (tabE a b).2.2.1 = 1 := tabE_det
  have eg : ((endE a b).natAbs : Int) = (Nat.gcd a.natAbs b.natAbs : Nat) := by rw [endE_gcd ha hb]
  have rl : ¬ (200 : Int) < ((rowE a b).length : Int) := by have := @rowE_len a b; omega
  simp (dsimp := false) only [eg, dt, List.length_map, ↓Kp_app, ↓w_seq, ↓w_sNil, ↓w_set, ↓w_ret, ↓w_retN, ↓w_sIf, ↓w_expr, ↓w_par, ↓w_par3, ↓w_asg, ↓w_aug, ↓w_sub, ↓w_for, ↓w_raise, ↓w_break, ↓w_cont, ↓w_op2, ↓w_op1, ↓w_cb, ↓w_c, ↓w_var, ↓w_nil, ↓w_cons, ↓w_tup, ↓w_lst, ↓w_new, ↓w_if, ↓w_test, ↓w_tru, ↓w_not, ↓w_and, ↓w_or, ↓w_andV, ↓w_orV, ↓w_notV, ↓w_chain, ↓w_call, ↓w_callK, ↓w_sl, ↓w_part0, ↓w_part1, ↓w_isi, ↓w_join, ↓w_mt, ↓w_lc, ↓w_lcN, ↓w_lcA, ↓w_it, ↓w_range1, ↓w_range2, ↓w_enum, ↓w_enumS, ↓w_zip,   OkX_ok, OkX_err, OkX_stuck, OkX_guard, o_addS, o_addT, o_addLL, o_addRL, o_addII, o_subI, o_mulI, o_mulS, o_fdivI, o_modI, o_powI, o_negI, o_ltI, o_leI, o_gtI, o_geI, o_ltS, o_leS, o_gtS, o_geS, o_eqI, o_eqS, o_neI, o_neS, o_isD, o_isnotD, o_inS, o_ixS, o_ixT, o_ixL, o_ixR, o_slS, o_slT, o_slL, o_slR, o_lenS, o_lenT, o_lenL, o_lenR, o_absI, o_intI, o_intB, o_tupT, o_tupL, o_tupR, o_maxI, o_minI,   List.set_cons_zero, List.set_cons_succ, List.getElem?_cons_zero, List.getElem?_cons_succ, List.map_cons, List.map_nil, List.length_cons, List.length_nil, List.replicate_succ, List.replicate_zero, List.cons_append, List.nil_append, Nat.reduceSub, Nat.reduceAdd, Nat.reduceLeDiff, exists_eq_left', D.bl.injEq, D.int.injEq, D.str.injEq, D.ref.injEq, D.tup.injEq, true_and, and_true, if_true, if_false, Bool.false_eq_true, Bool.not_true, Bool.not_false, decide_true, decide_false, bindP, bindPs, isK, atI_0, atI_1, atI_2, atI_3, ixN_0, ixN_1, Nat.zero_add, LINE, Nat.zero_le, truD, wipeD, Option.some.injEq]
  refine ⟨sm.a.ok sm.d, sm.b.ok sm.c, ?_⟩
  simp only [rl, decide_false, Bool.false_eq_true, if_false]
  refine ⟨_, rfl, ?_⟩
  refine absC (i := 9) (by simp) rfl [(tabE a b).1, (tabE a b).2.1, (tabE a b).2.2.1, (tabE a b).2.2.2] (by simp) ?_
  simp (dsimp := false) only [o_max4, ↓Kp_app, ↓w_seq, ↓w_sNil, ↓w_set, ↓w_ret, ↓w_retN, ↓w_sIf, ↓w_expr, ↓w_par, ↓w_par3, ↓w_asg, ↓w_aug, ↓w_sub, ↓w_for, ↓w_raise, ↓w_break, ↓w_cont, ↓w_op2, ↓w_op1, ↓w_cb, ↓w_c, ↓w_var, ↓w_nil, ↓w_cons, ↓w_tup, ↓w_lst, ↓w_new, ↓w_if, ↓w_test, ↓w_tru, ↓w_not, ↓w_and, ↓w_or, ↓w_andV, ↓w_orV, ↓w_notV, ↓w_chain, ↓w_call, ↓w_callK, ↓w_sl, ↓w_part0, ↓w_part1, ↓w_isi, ↓w_join, ↓w_mt, ↓w_lc, ↓w_lcN, ↓w_lcA, ↓w_it, ↓w_range1, ↓w_range2, ↓w_enum, ↓w_enumS, ↓w_zip,   OkX_ok, OkX_err, OkX_stuck, OkX_guard, o_addS, o_addT, o_addLL, o_addRL, o_addII, o_subI, o_mulI, o_mulS, o_fdivI, o_modI, o_powI, o_negI, o_ltI, o_leI, o_gtI, o_geI, o_ltS, o_leS, o_gtS, o_geS, o_eqI, o_eqS, o_neI, o_neS, o_isD, o_isnotD, o_inS, o_ixS, o_ixT, o_ixL, o_ixR, o_slS, o_slT, o_slL, o_slR, o_lenS, o_lenT, o_lenL, o_lenR, o_absI, o_intI, o_intB, o_tupT, o_tupL, o_tupR, o_maxI, o_minI,   List.set_cons_zero, List.set_cons_succ, List.getElem?_cons_zero, List.getElem?_cons_succ, List.map_cons, List.map_nil, List.length_cons, List.length_nil, List.replicate_succ, List.replicate_zero, List.cons_append, List.nil_append, Nat.reduceSub, Nat.reduceAdd, Nat.reduceLeDiff, exists_eq_left', D.bl.injEq, D.int.injEq, D.str.injEq, D.ref.injEq, D.tup.injEq, true_and, and_true, if_true, if_false, Bool.false_eq_true, Bool.not_true, Bool.not_false, decide_true, decide_false, bindP, bindPs, isK, atI_0, atI_1, atI_2, atI_3, ixN_0, ixN_1, Nat.zero_add, LINE, Nat.zero_le, truD, wipeD, Option.some.injEq]
  refine ⟨⟨by decide, by decide, by decide⟩, ?_⟩
  have e40 : (10 : Int) ^ Int.toNat 40 = 10000000000000000000000000000000000000000 := by decide
  by_cases z : max ((tabE a b).1.natAbs : Int) (max ((tabE a b).2.1.natAbs : Int) (max ((tabE a b).2.2.1.natAbs : Int) ((tabE a b).2.2.2.natAbs : Int))) < 10 ^ Int.toNat 40
  · simp only [z, decide_true, if_true]
    rw [e40] at z
    have lt : lightT (tabE a b) := ⟨by unfold light; omega, by unfold light; omega, by unfold light; omega, by unfold light; omega⟩
    refine ledpair_ok (.inl rfl) lt tabE_det (.inl rfl) ha hb ?_
    rw [tabE_led ha hb]
    simp (dsimp := false) only [↓Kp_app, ↓w_seq, ↓w_sNil, ↓w_set, ↓w_ret, ↓w_retN, ↓w_sIf, ↓w_expr, ↓w_par, ↓w_par3, ↓w_asg, ↓w_aug, ↓w_sub, ↓w_for, ↓w_raise, ↓w_break, ↓w_cont, ↓w_op2, ↓w_op1, ↓w_cb, ↓w_c, ↓w_var, ↓w_nil, ↓w_cons, ↓w_tup, ↓w_lst, ↓w_new, ↓w_if, ↓w_test, ↓w_tru, ↓w_not, ↓w_and, ↓w_or, ↓w_andV, ↓w_orV, ↓w_notV, ↓w_chain, ↓w_call, ↓w_callK, ↓w_sl, ↓w_part0, ↓w_part1, ↓w_isi, ↓w_join, ↓w_mt, ↓w_lc, ↓w_lcN, ↓w_lcA, ↓w_it, ↓w_range1, ↓w_range2, ↓w_enum, ↓w_enumS, ↓w_zip,   OkX_ok, OkX_err, OkX_stuck, OkX_guard, o_addS, o_addT, o_addLL, o_addRL, o_addII, o_subI, o_mulI, o_mulS, o_fdivI, o_modI, o_powI, o_negI, o_ltI, o_leI, o_gtI, o_geI, o_ltS, o_leS, o_gtS, o_geS, o_eqI, o_eqS, o_neI, o_neS, o_isD, o_isnotD, o_inS, o_ixS, o_ixT, o_ixL, o_ixR, o_slS, o_slT, o_slL, o_slR, o_lenS, o_lenT, o_lenL, o_lenR, o_absI, o_intI, o_intB, o_tupT, o_tupL, o_tupR, o_maxI, o_minI,   List.set_cons_zero, List.set_cons_succ, List.getElem?_cons_zero, List.getElem?_cons_succ, List.map_cons, List.map_nil, List.length_cons, List.length_nil, List.replicate_succ, List.replicate_zero, List.cons_append, List.nil_append, Nat.reduceSub, Nat.reduceAdd, Nat.reduceLeDiff, exists_eq_left', D.bl.injEq, D.int.injEq, D.str.injEq, D.ref.injEq, D.tup.injEq, true_and, and_true, if_true, if_false, Bool.false_eq_true, Bool.not_true, Bool.not_false, decide_true, decide_false, bindP, bindPs, isK, atI_0, atI_1, atI_2, atI_3, ixN_0, ixN_1, Nat.zero_add, LINE, Nat.zero_le, truD, wipeD, Option.some.injEq]
    with_reducible refine sameq ?_ ?_
    · rfl
    simp (dsimp := false) only [tru_bl, ↓Kp_app, ↓w_seq, ↓w_sNil, ↓w_set, ↓w_ret, ↓w_retN, ↓w_sIf, ↓w_expr, ↓w_par, ↓w_par3, ↓w_asg, ↓w_aug, ↓w_sub, ↓w_for, ↓w_raise, ↓w_break, ↓w_cont, ↓w_op2, ↓w_op1, ↓w_cb, ↓w_c, ↓w_var, ↓w_nil, ↓w_cons, ↓w_tup, ↓w_lst, ↓w_new, ↓w_if, ↓w_test, ↓w_tru, ↓w_not, ↓w_and, ↓w_or, ↓w_andV, ↓w_orV, ↓w_notV, ↓w_chain, ↓w_call, ↓w_callK, ↓w_sl, ↓w_part0, ↓w_part1, ↓w_isi, ↓w_join, ↓w_mt, ↓w_lc, ↓w_lcN, ↓w_lcA, ↓w_it, ↓w_range1, ↓w_range2, ↓w_enum, ↓w_enumS, ↓w_zip,   OkX_ok, OkX_err, OkX_stuck, OkX_guard, o_addS, o_addT, o_addLL, o_addRL, o_addII, o_subI, o_mulI, o_mulS, o_fdivI, o_modI, o_powI, o_negI, o_ltI, o_leI, o_gtI, o_geI, o_ltS, o_leS, o_gtS, o_geS, o_eqI, o_eqS, o_neI, o_neS, o_isD, o_isnotD, o_inS, o_ixS, o_ixT, o_ixL, o_ixR, o_slS, o_slT, o_slL, o_slR, o_lenS, o_lenT, o_lenL, o_lenR, o_absI, o_intI, o_intB, o_tupT, o_tupL, o_tupR, o_maxI, o_minI,   List.set_cons_zero, List.set_cons_succ, List.getElem?_cons_zero, List.getElem?_cons_succ, List.map_cons, List.map_nil, List.length_cons, List.length_nil, List.replicate_succ, List.replicate_zero, List.cons_append, List.nil_append, Nat.reduceSub, Nat.reduceAdd, Nat.reduceLeDiff, exists_eq_left', D.bl.injEq, D.int.injEq, D.str.injEq, D.ref.injEq, D.tup.injEq, true_and, and_true, if_true, if_false, Bool.false_eq_true, Bool.not_true, Bool.not_false, decide_true, decide_false, bindP, bindPs, isK, atI_0, atI_1, atI_2, atI_3, ixN_0, ixN_1, Nat.zero_add, LINE, Nat.zero_le, truD, wipeD, Option.some.injEq]
    exact q _ _ _ _ _ _ _ x2
  · simp only [z, decide_false, Bool.false_eq_true, if_false]
    exact q _ _ _ _ _ _ _ x2
theorem rest_ok {ns : List Int} {x2 x3 x4 x5 x6 x7 x8 x9 : Option D} {N : Po} (q : N.rt (.bl true) h) :
    OkS (bRest [some (.lst (ns.map .int)), some (.ref 1), x2, x3, x4, x5, x6, x7, x8, x9] h) N := by
  unfold bRest
  simp (dsimp := false) only [↓Kp_app, ↓w_seq, ↓w_sNil, ↓w_set, ↓w_ret, ↓w_retN, ↓w_sIf, ↓w_expr, ↓w_par, ↓w_par3, ↓w_asg, ↓w_aug, ↓w_sub, ↓w_for, ↓w_raise, ↓w_break, ↓w_cont, ↓w_op2, ↓w_op1, ↓w_cb, ↓w_c, ↓w_var, ↓w_nil, ↓w_cons, ↓w_tup, ↓w_lst, ↓w_new, ↓w_if, ↓w_test, ↓w_tru, ↓w_not, ↓w_and, ↓w_or, ↓w_andV, ↓w_orV, ↓w_notV, ↓w_chain, ↓w_call, ↓w_callK, ↓w_sl, ↓w_part0, ↓w_part1, ↓w_isi, ↓w_join, ↓w_mt, ↓w_lc, ↓w_lcN, ↓w_lcA, ↓w_it, ↓w_range1, ↓w_range2, ↓w_enum, ↓w_enumS, ↓w_zip,   OkX_ok, OkX_err, OkX_stuck, OkX_guard, o_addS, o_addT, o_addLL, o_addRL, o_addII, o_subI, o_mulI, o_mulS, o_fdivI, o_modI, o_powI, o_negI, o_ltI, o_leI, o_gtI, o_geI, o_ltS, o_leS, o_gtS, o_geS, o_eqI, o_eqS, o_neI, o_neS, o_isD, o_isnotD, o_inS, o_ixS, o_ixT, o_ixL, o_ixR, o_slS, o_slT, o_slL, o_slR, o_lenS, o_lenT, o_lenL, o_lenR, o_absI, o_intI, o_intB, o_tupT, o_tupL, o_tupR, o_maxI, o_minI,   List.set_cons_zero, List.set_cons_succ, List.getElem?_cons_zero, List.getElem?_cons_succ, List.map_cons, List.map_nil, List.length_cons, List.length_nil, List.replicate_succ, List.replicate_zero, List.cons_append, List.nil_append, Nat.reduceSub, Nat.reduceAdd, Nat.reduceLeDiff, exists_eq_left', D.bl.injEq, D.int.injEq, D.str.injEq, D.ref.injEq, D.tup.injEq, true_and, and_true, if_true, if_false, Bool.false_eq_true, Bool.not_true, Bool.not_false, decide_true, decide_false, bindP, bindPs, isK, atI_0, atI_1, atI_2, atI_3, ixN_0, ixN_1, Nat.zero_add, LINE, Nat.zero_le, truD, wipeD, Option.some.injEq]
  refine ⟨⟨by decide, by decide, by decide⟩, ?_⟩
  with_reducible refine all_heard_ok heard_q rfl rfl ?_
  simp (dsimp := false) only [tru_bl, ↓Kp_app, ↓w_seq, ↓w_sNil, ↓w_set, ↓w_ret, ↓w_retN, ↓w_sIf, ↓w_expr, ↓w_par, ↓w_par3, ↓w_asg, ↓w_aug, ↓w_sub, ↓w_for, ↓w_raise, ↓w_break, ↓w_cont, ↓w_op2, ↓w_op1, ↓w_cb, ↓w_c, ↓w_var, ↓w_nil, ↓w_cons, ↓w_tup, ↓w_lst, ↓w_new, ↓w_if, ↓w_test, ↓w_tru, ↓w_not, ↓w_and, ↓w_or, ↓w_andV, ↓w_orV, ↓w_notV, ↓w_chain, ↓w_call, ↓w_callK, ↓w_sl, ↓w_part0, ↓w_part1, ↓w_isi, ↓w_join, ↓w_mt, ↓w_lc, ↓w_lcN, ↓w_lcA, ↓w_it, ↓w_range1, ↓w_range2, ↓w_enum, ↓w_enumS, ↓w_zip,   OkX_ok, OkX_err, OkX_stuck, OkX_guard, o_addS, o_addT, o_addLL, o_addRL, o_addII, o_subI, o_mulI, o_mulS, o_fdivI, o_modI, o_powI, o_negI, o_ltI, o_leI, o_gtI, o_geI, o_ltS, o_leS, o_gtS, o_geS, o_eqI, o_eqS, o_neI, o_neS, o_isD, o_isnotD, o_inS, o_ixS, o_ixT, o_ixL, o_ixR, o_slS, o_slT, o_slL, o_slR, o_lenS, o_lenT, o_lenL, o_lenR, o_absI, o_intI, o_intB, o_tupT, o_tupL, o_tupR, o_maxI, o_minI,   List.set_cons_zero, List.set_cons_succ, List.getElem?_cons_zero, List.getElem?_cons_succ, List.map_cons, List.map_nil, List.length_cons, List.length_nil, List.replicate_succ, List.replicate_zero, List.cons_append, List.nil_append, Nat.reduceSub, Nat.reduceAdd, Nat.reduceLeDiff, exists_eq_left', D.bl.injEq, D.int.injEq, D.str.injEq, D.ref.injEq, D.tup.injEq, true_and, and_true, if_true, if_false, Bool.false_eq_true, Bool.not_true, Bool.not_false, decide_true, decide_false, bindP, bindPs, isK, atI_0, atI_1, atI_2, atI_3, ixN_0, ixN_1, Nat.zero_add, LINE, Nat.zero_le, truD, wipeD, Option.some.injEq]
  with_reducible refine all_heard_ok heard_r rfl rfl ?_
  simp (dsimp := false) only [tru_bl, ↓Kp_app, ↓w_seq, ↓w_sNil, ↓w_set, ↓w_ret, ↓w_retN, ↓w_sIf, ↓w_expr, ↓w_par, ↓w_par3, ↓w_asg, ↓w_aug, ↓w_sub, ↓w_for, ↓w_raise, ↓w_break, ↓w_cont, ↓w_op2, ↓w_op1, ↓w_cb, ↓w_c, ↓w_var, ↓w_nil, ↓w_cons, ↓w_tup, ↓w_lst, ↓w_new, ↓w_if, ↓w_test, ↓w_tru, ↓w_not, ↓w_and, ↓w_or, ↓w_andV, ↓w_orV, ↓w_notV, ↓w_chain, ↓w_call, ↓w_callK, ↓w_sl, ↓w_part0, ↓w_part1, ↓w_isi, ↓w_join, ↓w_mt, ↓w_lc, ↓w_lcN, ↓w_lcA, ↓w_it, ↓w_range1, ↓w_range2, ↓w_enum, ↓w_enumS, ↓w_zip,   OkX_ok, OkX_err, OkX_stuck, OkX_guard, o_addS, o_addT, o_addLL, o_addRL, o_addII, o_subI, o_mulI, o_mulS, o_fdivI, o_modI, o_powI, o_negI, o_ltI, o_leI, o_gtI, o_geI, o_ltS, o_leS, o_gtS, o_geS, o_eqI, o_eqS, o_neI, o_neS, o_isD, o_isnotD, o_inS, o_ixS, o_ixT, o_ixL, o_ixR, o_slS, o_slT, o_slL, o_slR, o_lenS, o_lenT, o_lenL, o_lenR, o_absI, o_intI, o_intB, o_tupT, o_tupL, o_tupR, o_maxI, o_minI,   List.set_cons_zero, List.set_cons_succ, List.getElem?_cons_zero, List.getElem?_cons_succ, List.map_cons, List.map_nil, List.length_cons, List.length_nil, List.replicate_succ, List.replicate_zero, List.cons_append, List.nil_append, Nat.reduceSub, Nat.reduceAdd, Nat.reduceLeDiff, exists_eq_left', D.bl.injEq, D.int.injEq, D.str.injEq, D.ref.injEq, D.tup.injEq, true_and, and_true, if_true, if_false, Bool.false_eq_true, Bool.not_true, Bool.not_false, decide_true, decide_false, bindP, bindPs, isK, atI_0, atI_1, atI_2, atI_3, ixN_0, ixN_1, Nat.zero_add, LINE, Nat.zero_le, truD, wipeD, Option.some.injEq]
  have e40 : (10 : Int) ^ Int.toNat 40 = 10000000000000000000000000000000000000000 := by decide
  have l1 : light ((10 : Int) ^ Int.toNat 40 - 2) := by rw [e40]; unfold light; decide
  have l2 : light ((10 : Int) ^ Int.toNat 40 - 1) := by rw [e40]; unfold light; decide
  have r1 : (rowE ((10 : Int) ^ Int.toNat 40 - 2) ((10 : Int) ^ Int.toNat 40 - 1)).length = 3 := by unfold rowE; decide +kernel
  refine quotients_ok (.inl rfl) l1 l2 ?_
  simp (dsimp := false) only [List.length_map, r1, ↓Kp_app, ↓w_seq, ↓w_sNil, ↓w_set, ↓w_ret, ↓w_retN, ↓w_sIf, ↓w_expr, ↓w_par, ↓w_par3, ↓w_asg, ↓w_aug, ↓w_sub, ↓w_for, ↓w_raise, ↓w_break, ↓w_cont, ↓w_op2, ↓w_op1, ↓w_cb, ↓w_c, ↓w_var, ↓w_nil, ↓w_cons, ↓w_tup, ↓w_lst, ↓w_new, ↓w_if, ↓w_test, ↓w_tru, ↓w_not, ↓w_and, ↓w_or, ↓w_andV, ↓w_orV, ↓w_notV, ↓w_chain, ↓w_call, ↓w_callK, ↓w_sl, ↓w_part0, ↓w_part1, ↓w_isi, ↓w_join, ↓w_mt, ↓w_lc, ↓w_lcN, ↓w_lcA, ↓w_it, ↓w_range1, ↓w_range2, ↓w_enum, ↓w_enumS, ↓w_zip,   OkX_ok, OkX_err, OkX_stuck, OkX_guard, o_addS, o_addT, o_addLL, o_addRL, o_addII, o_subI, o_mulI, o_mulS, o_fdivI, o_modI, o_powI, o_negI, o_ltI, o_leI, o_gtI, o_geI, o_ltS, o_leS, o_gtS, o_geS, o_eqI, o_eqS, o_neI, o_neS, o_isD, o_isnotD, o_inS, o_ixS, o_ixT, o_ixL, o_ixR, o_slS, o_slT, o_slL, o_slR, o_lenS, o_lenT, o_lenL, o_lenR, o_absI, o_intI, o_intB, o_tupT, o_tupL, o_tupR, o_maxI, o_minI,   List.set_cons_zero, List.set_cons_succ, List.getElem?_cons_zero, List.getElem?_cons_succ, List.map_cons, List.map_nil, List.length_cons, List.length_nil, List.replicate_succ, List.replicate_zero, List.cons_append, List.nil_append, Nat.reduceSub, Nat.reduceAdd, Nat.reduceLeDiff, exists_eq_left', D.bl.injEq, D.int.injEq, D.str.injEq, D.ref.injEq, D.tup.injEq, true_and, and_true, if_true, if_false, Bool.false_eq_true, Bool.not_true, Bool.not_false, decide_true, decide_false, bindP, bindPs, isK, atI_0, atI_1, atI_2, atI_3, ixN_0, ixN_1, Nat.zero_add, LINE, Nat.zero_le, truD, wipeD, Option.some.injEq]
  simp only [Int.reduceLT, Int.cast_ofNat_Int, decide_false, Bool.false_eq_true, if_false]
  have z0 : light 0 := by unfold light; decide
  have q0 : ((endE 0 0).natAbs : Int) = 0 := by unfold endE; decide +kernel
  have t0 : tabE 0 0 = (1, 0, 0, 1) := by unfold tabE endE rowE; decide +kernel
  refine reduced_ok (.inl rfl) z0 z0 ?_
  rw [q0, t0]
  simp (dsimp := false) only [↓Kp_app, ↓w_seq, ↓w_sNil, ↓w_set, ↓w_ret, ↓w_retN, ↓w_sIf, ↓w_expr, ↓w_par, ↓w_par3, ↓w_asg, ↓w_aug, ↓w_sub, ↓w_for, ↓w_raise, ↓w_break, ↓w_cont, ↓w_op2, ↓w_op1, ↓w_cb, ↓w_c, ↓w_var, ↓w_nil, ↓w_cons, ↓w_tup, ↓w_lst, ↓w_new, ↓w_if, ↓w_test, ↓w_tru, ↓w_not, ↓w_and, ↓w_or, ↓w_andV, ↓w_orV, ↓w_notV, ↓w_chain, ↓w_call, ↓w_callK, ↓w_sl, ↓w_part0, ↓w_part1, ↓w_isi, ↓w_join, ↓w_mt, ↓w_lc, ↓w_lcN, ↓w_lcA, ↓w_it, ↓w_range1, ↓w_range2, ↓w_enum, ↓w_enumS, ↓w_zip,   OkX_ok, OkX_err, OkX_stuck, OkX_guard, o_addS, o_addT, o_addLL, o_addRL, o_addII, o_subI, o_mulI, o_mulS, o_fdivI, o_modI, o_powI, o_negI, o_ltI, o_leI, o_gtI, o_geI, o_ltS, o_leS, o_gtS, o_geS, o_eqI, o_eqS, o_neI, o_neS, o_isD, o_isnotD, o_inS, o_ixS, o_ixT, o_ixL, o_ixR, o_slS, o_slT, o_slL, o_slR, o_lenS, o_lenT, o_lenL, o_lenR, o_absI, o_intI, o_intB, o_tupT, o_tupL, o_tupR, o_maxI, o_minI,   List.set_cons_zero, List.set_cons_succ, List.getElem?_cons_zero, List.getElem?_cons_succ, List.map_cons, List.map_nil, List.length_cons, List.length_nil, List.replicate_succ, List.replicate_zero, List.cons_append, List.nil_append, Nat.reduceSub, Nat.reduceAdd, Nat.reduceLeDiff, exists_eq_left', D.bl.injEq, D.int.injEq, D.str.injEq, D.ref.injEq, D.tup.injEq, true_and, and_true, if_true, if_false, Bool.false_eq_true, Bool.not_true, Bool.not_false, decide_true, decide_false, bindP, bindPs, isK, atI_0, atI_1, atI_2, atI_3, ixN_0, ixN_1, Nat.zero_add, LINE, Nat.zero_le, truD, wipeD, Option.some.injEq]
  with_reducible refine sameq ?_ ?_
  · rfl
  simp (dsimp := false) only [tru_bl, ↓Kp_app, ↓w_seq, ↓w_sNil, ↓w_set, ↓w_ret, ↓w_retN, ↓w_sIf, ↓w_expr, ↓w_par, ↓w_par3, ↓w_asg, ↓w_aug, ↓w_sub, ↓w_for, ↓w_raise, ↓w_break, ↓w_cont, ↓w_op2, ↓w_op1, ↓w_cb, ↓w_c, ↓w_var, ↓w_nil, ↓w_cons, ↓w_tup, ↓w_lst, ↓w_new, ↓w_if, ↓w_test, ↓w_tru, ↓w_not, ↓w_and, ↓w_or, ↓w_andV, ↓w_orV, ↓w_notV, ↓w_chain, ↓w_call, ↓w_callK, ↓w_sl, ↓w_part0, ↓w_part1, ↓w_isi, ↓w_join, ↓w_mt, ↓w_lc, ↓w_lcN, ↓w_lcA, ↓w_it, ↓w_range1, ↓w_range2, ↓w_enum, ↓w_enumS, ↓w_zip,   OkX_ok, OkX_err, OkX_stuck, OkX_guard, o_addS, o_addT, o_addLL, o_addRL, o_addII, o_subI, o_mulI, o_mulS, o_fdivI, o_modI, o_powI, o_negI, o_ltI, o_leI, o_gtI, o_geI, o_ltS, o_leS, o_gtS, o_geS, o_eqI, o_eqS, o_neI, o_neS, o_isD, o_isnotD, o_inS, o_ixS, o_ixT, o_ixL, o_ixR, o_slS, o_slT, o_slL, o_slR, o_lenS, o_lenT, o_lenL, o_lenR, o_absI, o_intI, o_intB, o_tupT, o_tupL, o_tupR, o_maxI, o_minI,   List.set_cons_zero, List.set_cons_succ, List.getElem?_cons_zero, List.getElem?_cons_succ, List.map_cons, List.map_nil, List.length_cons, List.length_nil, List.replicate_succ, List.replicate_zero, List.cons_append, List.nil_append, Nat.reduceSub, Nat.reduceAdd, Nat.reduceLeDiff, exists_eq_left', D.bl.injEq, D.int.injEq, D.str.injEq, D.ref.injEq, D.tup.injEq, true_and, and_true, if_true, if_false, Bool.false_eq_true, Bool.not_true, Bool.not_false, decide_true, decide_false, bindP, bindPs, isK, atI_0, atI_1, atI_2, atI_3, ixN_0, ixN_1, Nat.zero_add, LINE, Nat.zero_le, truD, wipeD, Option.some.injEq]
  have a1 : light 7 := by unfold light; decide
  have a2 : light 3 := by unfold light; decide
  have a3 : light 4 := by unfold light; decide
  have a4 : light 5 := by unfold light; decide
  have a5 : light (0 - 6) := by unfold light; decide
  have w1 : rowE 7 3 = [2, 0 - 3] := by unfold rowE; decide +kernel
  have w2 : ((endE 7 3).natAbs : Int) = 1 := by unfold endE; decide +kernel
  have w3 : tabE 7 3 = (1, 0 - 3, 0 - 2, 7) := by unfold tabE endE rowE; decide +kernel
  have w4 : rowE 4 5 = [0, 0 - 1, 4] := by unfold rowE; decide +kernel
  have w5 : ((endE (0 - 6) 0).natAbs : Int) = 6 := by unfold endE; decide +kernel
  have w6 : tabE (0 - 6) 0 = (0 - 1, 0, 0, 0 - 1) := by unfold tabE endE rowE; decide +kernel
  refine quotients_ok (.inl rfl) a1 a2 ?_
  rw [w1]
  simp (dsimp := false) only [↓Kp_app, ↓w_seq, ↓w_sNil, ↓w_set, ↓w_ret, ↓w_retN, ↓w_sIf, ↓w_expr, ↓w_par, ↓w_par3, ↓w_asg, ↓w_aug, ↓w_sub, ↓w_for, ↓w_raise, ↓w_break, ↓w_cont, ↓w_op2, ↓w_op1, ↓w_cb, ↓w_c, ↓w_var, ↓w_nil, ↓w_cons, ↓w_tup, ↓w_lst, ↓w_new, ↓w_if, ↓w_test, ↓w_tru, ↓w_not, ↓w_and, ↓w_or, ↓w_andV, ↓w_orV, ↓w_notV, ↓w_chain, ↓w_call, ↓w_callK, ↓w_sl, ↓w_part0, ↓w_part1, ↓w_isi, ↓w_join, ↓w_mt, ↓w_lc, ↓w_lcN, ↓w_lcA, ↓w_it, ↓w_range1, ↓w_range2, ↓w_enum, ↓w_enumS, ↓w_zip,   OkX_ok, OkX_err, OkX_stuck, OkX_guard, o_addS, o_addT, o_addLL, o_addRL, o_addII, o_subI, o_mulI, o_mulS, o_fdivI, o_modI, o_powI, o_negI, o_ltI, o_leI, o_gtI, o_geI, o_ltS, o_leS, o_gtS, o_geS, o_eqI, o_eqS, o_neI, o_neS, o_isD, o_isnotD, o_inS, o_ixS, o_ixT, o_ixL, o_ixR, o_slS, o_slT, o_slL, o_slR, o_lenS, o_lenT, o_lenL, o_lenR, o_absI, o_intI, o_intB, o_tupT, o_tupL, o_tupR, o_maxI, o_minI,   List.set_cons_zero, List.set_cons_succ, List.getElem?_cons_zero, List.getElem?_cons_succ, List.map_cons, List.map_nil, List.length_cons, List.length_nil, List.replicate_succ, List.replicate_zero, List.cons_append, List.nil_append, Nat.reduceSub, Nat.reduceAdd, Nat.reduceLeDiff, exists_eq_left', D.bl.injEq, D.int.injEq, D.str.injEq, D.ref.injEq, D.tup.injEq, true_and, and_true, if_true, if_false, Bool.false_eq_true, Bool.not_true, Bool.not_false, decide_true, decide_false, bindP, bindPs, isK, atI_0, atI_1, atI_2, atI_3, ixN_0, ixN_1, Nat.zero_add, LINE, Nat.zero_le, truD, wipeD, Option.some.injEq]
  refine reduced_ok (.inl rfl) a1 a2 ?_
  rw [w2, w3]
  simp (dsimp := false) only [↓Kp_app, ↓w_seq, ↓w_sNil, ↓w_set, ↓w_ret, ↓w_retN, ↓w_sIf, ↓w_expr, ↓w_par, ↓w_par3, ↓w_asg, ↓w_aug, ↓w_sub, ↓w_for, ↓w_raise, ↓w_break, ↓w_cont, ↓w_op2, ↓w_op1, ↓w_cb, ↓w_c, ↓w_var, ↓w_nil, ↓w_cons, ↓w_tup, ↓w_lst, ↓w_new, ↓w_if, ↓w_test, ↓w_tru, ↓w_not, ↓w_and, ↓w_or, ↓w_andV, ↓w_orV, ↓w_notV, ↓w_chain, ↓w_call, ↓w_callK, ↓w_sl, ↓w_part0, ↓w_part1, ↓w_isi, ↓w_join, ↓w_mt, ↓w_lc, ↓w_lcN, ↓w_lcA, ↓w_it, ↓w_range1, ↓w_range2, ↓w_enum, ↓w_enumS, ↓w_zip,   OkX_ok, OkX_err, OkX_stuck, OkX_guard, o_addS, o_addT, o_addLL, o_addRL, o_addII, o_subI, o_mulI, o_mulS, o_fdivI, o_modI, o_powI, o_negI, o_ltI, o_leI, o_gtI, o_geI, o_ltS, o_leS, o_gtS, o_geS, o_eqI, o_eqS, o_neI, o_neS, o_isD, o_isnotD, o_inS, o_ixS, o_ixT, o_ixL, o_ixR, o_slS, o_slT, o_slL, o_slR, o_lenS, o_lenT, o_lenL, o_lenR, o_absI, o_intI, o_intB, o_tupT, o_tupL, o_tupR, o_maxI, o_minI,   List.set_cons_zero, List.set_cons_succ, List.getElem?_cons_zero, List.getElem?_cons_succ, List.map_cons, List.map_nil, List.length_cons, List.length_nil, List.replicate_succ, List.replicate_zero, List.cons_append, List.nil_append, Nat.reduceSub, Nat.reduceAdd, Nat.reduceLeDiff, exists_eq_left', D.bl.injEq, D.int.injEq, D.str.injEq, D.ref.injEq, D.tup.injEq, true_and, and_true, if_true, if_false, Bool.false_eq_true, Bool.not_true, Bool.not_false, decide_true, decide_false, bindP, bindPs, isK, atI_0, atI_1, atI_2, atI_3, ixN_0, ixN_1, Nat.zero_add, LINE, Nat.zero_le, truD, wipeD, Option.some.injEq]
  refine quotients_ok (.inl rfl) a3 a4 ?_
  rw [w4]
  simp (dsimp := false) only [↓Kp_app, ↓w_seq, ↓w_sNil, ↓w_set, ↓w_ret, ↓w_retN, ↓w_sIf, ↓w_expr, ↓w_par, ↓w_par3, ↓w_asg, ↓w_aug, ↓w_sub, ↓w_for, ↓w_raise, ↓w_break, ↓w_cont, ↓w_op2, ↓w_op1, ↓w_cb, ↓w_c, ↓w_var, ↓w_nil, ↓w_cons, ↓w_tup, ↓w_lst, ↓w_new, ↓w_if, ↓w_test, ↓w_tru, ↓w_not, ↓w_and, ↓w_or, ↓w_andV, ↓w_orV, ↓w_notV, ↓w_chain, ↓w_call, ↓w_callK, ↓w_sl, ↓w_part0, ↓w_part1, ↓w_isi, ↓w_join, ↓w_mt, ↓w_lc, ↓w_lcN, ↓w_lcA, ↓w_it, ↓w_range1, ↓w_range2, ↓w_enum, ↓w_enumS, ↓w_zip,   OkX_ok, OkX_err, OkX_stuck, OkX_guard, o_addS, o_addT, o_addLL, o_addRL, o_addII, o_subI, o_mulI, o_mulS, o_fdivI, o_modI, o_powI, o_negI, o_ltI, o_leI, o_gtI, o_geI, o_ltS, o_leS, o_gtS, o_geS, o_eqI, o_eqS, o_neI, o_neS, o_isD, o_isnotD, o_inS, o_ixS, o_ixT, o_ixL, o_ixR, o_slS, o_slT, o_slL, o_slR, o_lenS, o_lenT, o_lenL, o_lenR, o_absI, o_intI, o_intB, o_tupT, o_tupL, o_tupR, o_maxI, o_minI,   List.set_cons_zero, List.set_cons_succ, List.getElem?_cons_zero, List.getElem?_cons_succ, List.map_cons, List.map_nil, List.length_cons, List.length_nil, List.replicate_succ, List.replicate_zero, List.cons_append, List.nil_append, Nat.reduceSub, Nat.reduceAdd, Nat.reduceLeDiff, exists_eq_left', D.bl.injEq, D.int.injEq, D.str.injEq, D.ref.injEq, D.tup.injEq, true_and, and_true, if_true, if_false, Bool.false_eq_true, Bool.not_true, Bool.not_false, decide_true, decide_false, bindP, bindPs, isK, atI_0, atI_1, atI_2, atI_3, ixN_0, ixN_1, Nat.zero_add, LINE, Nat.zero_le, truD, wipeD, Option.some.injEq]
  refine reduced_ok (.inl rfl) a5 z0 ?_
  rw [w5, w6]
  simp (dsimp := false) only [↓Kp_app, ↓w_seq, ↓w_sNil, ↓w_set, ↓w_ret, ↓w_retN, ↓w_sIf, ↓w_expr, ↓w_par, ↓w_par3, ↓w_asg, ↓w_aug, ↓w_sub, ↓w_for, ↓w_raise, ↓w_break, ↓w_cont, ↓w_op2, ↓w_op1, ↓w_cb, ↓w_c, ↓w_var, ↓w_nil, ↓w_cons, ↓w_tup, ↓w_lst, ↓w_new, ↓w_if, ↓w_test, ↓w_tru, ↓w_not, ↓w_and, ↓w_or, ↓w_andV, ↓w_orV, ↓w_notV, ↓w_chain, ↓w_call, ↓w_callK, ↓w_sl, ↓w_part0, ↓w_part1, ↓w_isi, ↓w_join, ↓w_mt, ↓w_lc, ↓w_lcN, ↓w_lcA, ↓w_it, ↓w_range1, ↓w_range2, ↓w_enum, ↓w_enumS, ↓w_zip,   OkX_ok, OkX_err, OkX_stuck, OkX_guard, o_addS, o_addT, o_addLL, o_addRL, o_addII, o_subI, o_mulI, o_mulS, o_fdivI, o_modI, o_powI, o_negI, o_ltI, o_leI, o_gtI, o_geI, o_ltS, o_leS, o_gtS, o_geS, o_eqI, o_eqS, o_neI, o_neS, o_isD, o_isnotD, o_inS, o_ixS, o_ixT, o_ixL, o_ixR, o_slS, o_slT, o_slL, o_slR, o_lenS, o_lenT, o_lenL, o_lenR, o_absI, o_intI, o_intB, o_tupT, o_tupL, o_tupR, o_maxI, o_minI,   List.set_cons_zero, List.set_cons_succ, List.getElem?_cons_zero, List.getElem?_cons_succ, List.map_cons, List.map_nil, List.length_cons, List.length_nil, List.replicate_succ, List.replicate_zero, List.cons_append, List.nil_append, Nat.reduceSub, Nat.reduceAdd, Nat.reduceLeDiff, exists_eq_left', D.bl.injEq, D.int.injEq, D.str.injEq, D.ref.injEq, D.tup.injEq, true_and, and_true, if_true, if_false, Bool.false_eq_true, Bool.not_true, Bool.not_false, decide_true, decide_false, bindP, bindPs, isK, atI_0, atI_1, atI_2, atI_3, ixN_0, ixN_1, Nat.zero_add, LINE, Nat.zero_le, truD, wipeD, Option.some.injEq]
  with_reducible refine sameq ?_ ?_
  · rfl
  simp (dsimp := false) only [↓Kp_app, ↓w_seq, ↓w_sNil, ↓w_set, ↓w_ret, ↓w_retN, ↓w_sIf, ↓w_expr, ↓w_par, ↓w_par3, ↓w_asg, ↓w_aug, ↓w_sub, ↓w_for, ↓w_raise, ↓w_break, ↓w_cont, ↓w_op2, ↓w_op1, ↓w_cb, ↓w_c, ↓w_var, ↓w_nil, ↓w_cons, ↓w_tup, ↓w_lst, ↓w_new, ↓w_if, ↓w_test, ↓w_tru, ↓w_not, ↓w_and, ↓w_or, ↓w_andV, ↓w_orV, ↓w_notV, ↓w_chain, ↓w_call, ↓w_callK, ↓w_sl, ↓w_part0, ↓w_part1, ↓w_isi, ↓w_join, ↓w_mt, ↓w_lc, ↓w_lcN, ↓w_lcA, ↓w_it, ↓w_range1, ↓w_range2, ↓w_enum, ↓w_enumS, ↓w_zip,   OkX_ok, OkX_err, OkX_stuck, OkX_guard, o_addS, o_addT, o_addLL, o_addRL, o_addII, o_subI, o_mulI, o_mulS, o_fdivI, o_modI, o_powI, o_negI, o_ltI, o_leI, o_gtI, o_geI, o_ltS, o_leS, o_gtS, o_geS, o_eqI, o_eqS, o_neI, o_neS, o_isD, o_isnotD, o_inS, o_ixS, o_ixT, o_ixL, o_ixR, o_slS, o_slT, o_slL, o_slR, o_lenS, o_lenT, o_lenL, o_lenR, o_absI, o_intI, o_intB, o_tupT, o_tupL, o_tupR, o_maxI, o_minI,   List.set_cons_zero, List.set_cons_succ, List.getElem?_cons_zero, List.getElem?_cons_succ, List.map_cons, List.map_nil, List.length_cons, List.length_nil, List.replicate_succ, List.replicate_zero, List.cons_append, List.nil_append, Nat.reduceSub, Nat.reduceAdd, Nat.reduceLeDiff, exists_eq_left', D.bl.injEq, D.int.injEq, D.str.injEq, D.ref.injEq, D.tup.injEq, true_and, and_true, if_true, if_false, Bool.false_eq_true, Bool.not_true, Bool.not_false, decide_true, decide_false, bindP, bindPs, isK, atI_0, atI_1, atI_2, atI_3, ixN_0, ixN_1, Nat.zero_add, LINE, Nat.zero_le, truD, wipeD, Option.some.injEq]
  exact q
theorem law_eq : b_law = (sSeq (sSet 1 (xCall m__law_box [] (aCons (xVar 0) (aCons (xC (.int 8)) aNil)))) (sSeq (sFor (xRange1 (aCons (xC (.int 6)) aNil)) (.nm 2) (sSeq (sFor (xIt (xCall m__law_pairs [] (aCons (xVar 1) aNil))) (.nm 3) bInner) sNil)) bRest)) := rfl
theorem plain : Plain := by
  intro ns hl hz
  have key : OkX (m_law [.lst (ns.map D.int)] []) (fun d _ => d = .bl true) fun _ _ => False := by
    unfold m_law; rw [w_run, law_eq]
    simp (dsimp := false) only [↓Kp_app, ↓w_seq, ↓w_sNil, ↓w_set, ↓w_ret, ↓w_retN, ↓w_sIf, ↓w_expr, ↓w_par, ↓w_par3, ↓w_asg, ↓w_aug, ↓w_sub, ↓w_for, ↓w_raise, ↓w_break, ↓w_cont, ↓w_op2, ↓w_op1, ↓w_cb, ↓w_c, ↓w_var, ↓w_nil, ↓w_cons, ↓w_tup, ↓w_lst, ↓w_new, ↓w_if, ↓w_test, ↓w_tru, ↓w_not, ↓w_and, ↓w_or, ↓w_andV, ↓w_orV, ↓w_notV, ↓w_chain, ↓w_call, ↓w_callK, ↓w_sl, ↓w_part0, ↓w_part1, ↓w_isi, ↓w_join, ↓w_mt, ↓w_lc, ↓w_lcN, ↓w_lcA, ↓w_it, ↓w_range1, ↓w_range2, ↓w_enum, ↓w_enumS, ↓w_zip,   OkX_ok, OkX_err, OkX_stuck, OkX_guard, o_addS, o_addT, o_addLL, o_addRL, o_addII, o_subI, o_mulI, o_mulS, o_fdivI, o_modI, o_powI, o_negI, o_ltI, o_leI, o_gtI, o_geI, o_ltS, o_leS, o_gtS, o_geS, o_eqI, o_eqS, o_neI, o_neS, o_isD, o_isnotD, o_inS, o_ixS, o_ixT, o_ixL, o_ixR, o_slS, o_slT, o_slL, o_slR, o_lenS, o_lenT, o_lenL, o_lenR, o_absI, o_intI, o_intB, o_tupT, o_tupL, o_tupR, o_maxI, o_minI,   List.set_cons_zero, List.set_cons_succ, List.getElem?_cons_zero, List.getElem?_cons_succ, List.map_cons, List.map_nil, List.length_cons, List.length_nil, List.replicate_succ, List.replicate_zero, List.cons_append, List.nil_append, Nat.reduceSub, Nat.reduceAdd, Nat.reduceLeDiff, exists_eq_left', D.bl.injEq, D.int.injEq, D.str.injEq, D.ref.injEq, D.tup.injEq, true_and, and_true, if_true, if_false, Bool.false_eq_true, Bool.not_true, Bool.not_false, decide_true, decide_false, bindP, bindPs, isK, atI_0, atI_1, atI_2, atI_3, ixN_0, ixN_1, Nat.zero_add, LINE, Nat.zero_le, truD, wipeD, Option.some.injEq]
    rw [box_eqD]
    refine box_okD (by decide) (by decide) hz fun h0 x0 => ?_
    simp (dsimp := false) only [↓Kp_app, ↓w_seq, ↓w_sNil, ↓w_set, ↓w_ret, ↓w_retN, ↓w_sIf, ↓w_expr, ↓w_par, ↓w_par3, ↓w_asg, ↓w_aug, ↓w_sub, ↓w_for, ↓w_raise, ↓w_break, ↓w_cont, ↓w_op2, ↓w_op1, ↓w_cb, ↓w_c, ↓w_var, ↓w_nil, ↓w_cons, ↓w_tup, ↓w_lst, ↓w_new, ↓w_if, ↓w_test, ↓w_tru, ↓w_not, ↓w_and, ↓w_or, ↓w_andV, ↓w_orV, ↓w_notV, ↓w_chain, ↓w_call, ↓w_callK, ↓w_sl, ↓w_part0, ↓w_part1, ↓w_isi, ↓w_join, ↓w_mt, ↓w_lc, ↓w_lcN, ↓w_lcA, ↓w_it, ↓w_range1, ↓w_range2, ↓w_enum, ↓w_enumS, ↓w_zip,   OkX_ok, OkX_err, OkX_stuck, OkX_guard, o_addS, o_addT, o_addLL, o_addRL, o_addII, o_subI, o_mulI, o_mulS, o_fdivI, o_modI, o_powI, o_negI, o_ltI, o_leI, o_gtI, o_geI, o_ltS, o_leS, o_gtS, o_geS, o_eqI, o_eqS, o_neI, o_neS, o_isD, o_isnotD, o_inS, o_ixS, o_ixT, o_ixL, o_ixR, o_slS, o_slT, o_slL, o_slR, o_lenS, o_lenT, o_lenL, o_lenR, o_absI, o_intI, o_intB, o_tupT, o_tupL, o_tupR, o_maxI, o_minI,   List.set_cons_zero, List.set_cons_succ, List.getElem?_cons_zero, List.getElem?_cons_succ, List.map_cons, List.map_nil, List.length_cons, List.length_nil, List.replicate_succ, List.replicate_zero, List.cons_append, List.nil_append, Nat.reduceSub, Nat.reduceAdd, Nat.reduceLeDiff, exists_eq_left', D.bl.injEq, D.int.injEq, D.str.injEq, D.ref.injEq, D.tup.injEq, true_and, and_true, if_true, if_false, Bool.false_eq_true, Bool.not_true, Bool.not_false, decide_true, decide_false, bindP, bindPs, isK, atI_0, atI_1, atI_2, atI_3, ixN_0, ixN_1, Nat.zero_add, LINE, Nat.zero_le, truD, wipeD, Option.some.injEq]
    refine ⟨by decide, ?_⟩
    refine w_loopF (fun _ ρ h' => ∃ x2 x3 x4 x5 x6 x7 x8 x9, ρ = [some (.lst (ns.map .int)), some (.ref 1), x2, x3, x4, x5, x6, x7, x8, x9] ∧ BoxD [] h') (fun _ _ _ _ => rfl) [] _ _ _ ⟨none, none, none, none, none, none, none, none, rfl, x0⟩ (fun l d r ρ h' e i => ?_) (fun ρ h' i => ?_)
    · obtain ⟨x2, x3, x4, x5, x6, x7, x8, x9, rfl, x1⟩ := i
      refine ⟨_, rfl, ?_⟩
      simp (dsimp := false) only [↓Kp_app, ↓w_seq, ↓w_sNil, ↓w_set, ↓w_ret, ↓w_retN, ↓w_sIf, ↓w_expr, ↓w_par, ↓w_par3, ↓w_asg, ↓w_aug, ↓w_sub, ↓w_for, ↓w_raise, ↓w_break, ↓w_cont, ↓w_op2, ↓w_op1, ↓w_cb, ↓w_c, ↓w_var, ↓w_nil, ↓w_cons, ↓w_tup, ↓w_lst, ↓w_new, ↓w_if, ↓w_test, ↓w_tru, ↓w_not, ↓w_and, ↓w_or, ↓w_andV, ↓w_orV, ↓w_notV, ↓w_chain, ↓w_call, ↓w_callK, ↓w_sl, ↓w_part0, ↓w_part1, ↓w_isi, ↓w_join, ↓w_mt, ↓w_lc, ↓w_lcN, ↓w_lcA, ↓w_it, ↓w_range1, ↓w_range2, ↓w_enum, ↓w_enumS, ↓w_zip,   OkX_ok, OkX_err, OkX_stuck, OkX_guard, o_addS, o_addT, o_addLL, o_addRL, o_addII, o_subI, o_mulI, o_mulS, o_fdivI, o_modI, o_powI, o_negI, o_ltI, o_leI, o_gtI, o_geI, o_ltS, o_leS, o_gtS, o_geS, o_eqI, o_eqS, o_neI, o_neS, o_isD, o_isnotD, o_inS, o_ixS, o_ixT, o_ixL, o_ixR, o_slS, o_slT, o_slL, o_slR, o_lenS, o_lenT, o_lenL, o_lenR, o_absI, o_intI, o_intB, o_tupT, o_tupL, o_tupR, o_maxI, o_minI,   List.set_cons_zero, List.set_cons_succ, List.getElem?_cons_zero, List.getElem?_cons_succ, List.map_cons, List.map_nil, List.length_cons, List.length_nil, List.replicate_succ, List.replicate_zero, List.cons_append, List.nil_append, Nat.reduceSub, Nat.reduceAdd, Nat.reduceLeDiff, exists_eq_left', D.bl.injEq, D.int.injEq, D.str.injEq, D.ref.injEq, D.tup.injEq, true_and, and_true, if_true, if_false, Bool.false_eq_true, Bool.not_true, Bool.not_false, decide_true, decide_false, bindP, bindPs, isK, atI_0, atI_1, atI_2, atI_3, ixN_0, ixN_1, Nat.zero_add, LINE, Nat.zero_le, truD, wipeD, Option.some.injEq]
      refine pairs_ok x1 fun ds h1 hds _ x1 => ?_
      simp (dsimp := false) only [↓Kp_app, ↓w_seq, ↓w_sNil, ↓w_set, ↓w_ret, ↓w_retN, ↓w_sIf, ↓w_expr, ↓w_par, ↓w_par3, ↓w_asg, ↓w_aug, ↓w_sub, ↓w_for, ↓w_raise, ↓w_break, ↓w_cont, ↓w_op2, ↓w_op1, ↓w_cb, ↓w_c, ↓w_var, ↓w_nil, ↓w_cons, ↓w_tup, ↓w_lst, ↓w_new, ↓w_if, ↓w_test, ↓w_tru, ↓w_not, ↓w_and, ↓w_or, ↓w_andV, ↓w_orV, ↓w_notV, ↓w_chain, ↓w_call, ↓w_callK, ↓w_sl, ↓w_part0, ↓w_part1, ↓w_isi, ↓w_join, ↓w_mt, ↓w_lc, ↓w_lcN, ↓w_lcA, ↓w_it, ↓w_range1, ↓w_range2, ↓w_enum, ↓w_enumS, ↓w_zip,   OkX_ok, OkX_err, OkX_stuck, OkX_guard, o_addS, o_addT, o_addLL, o_addRL, o_addII, o_subI, o_mulI, o_mulS, o_fdivI, o_modI, o_powI, o_negI, o_ltI, o_leI, o_gtI, o_geI, o_ltS, o_leS, o_gtS, o_geS, o_eqI, o_eqS, o_neI, o_neS, o_isD, o_isnotD, o_inS, o_ixS, o_ixT, o_ixL, o_ixR, o_slS, o_slT, o_slL, o_slR, o_lenS, o_lenT, o_lenL, o_lenR, o_absI, o_intI, o_intB, o_tupT, o_tupL, o_tupR, o_maxI, o_minI,   List.set_cons_zero, List.set_cons_succ, List.getElem?_cons_zero, List.getElem?_cons_succ, List.map_cons, List.map_nil, List.length_cons, List.length_nil, List.replicate_succ, List.replicate_zero, List.cons_append, List.nil_append, Nat.reduceSub, Nat.reduceAdd, Nat.reduceLeDiff, exists_eq_left', D.bl.injEq, D.int.injEq, D.str.injEq, D.ref.injEq, D.tup.injEq, true_and, and_true, if_true, if_false, Bool.false_eq_true, Bool.not_true, Bool.not_false, decide_true, decide_false, bindP, bindPs, isK, atI_0, atI_1, atI_2, atI_3, ixN_0, ixN_1, Nat.zero_add, LINE, Nat.zero_le, truD, wipeD, Option.some.injEq]
      refine ⟨_, rfl, ?_⟩
      refine w_loopF (fun _ ρ h' => ∃ x3 x4 x5 x6 x7 x8 x9, ρ = [some (.lst (ns.map .int)), some (.ref 1), some d, x3, x4, x5, x6, x7, x8, x9] ∧ BoxD [] h') (fun _ _ _ _ => rfl) [] _ _ _ ⟨_, _, _, _, _, _, _, rfl, x1⟩ (fun l2 d2 r2 ρ h' e i => ?_) (fun ρ h' i => ?_)
      · obtain ⟨x3, x4, x5, x6, x7, x8, x9, rfl, x1⟩ := i
        obtain ⟨a, b, rfl, la, lb⟩ := hds d2 (by have e' : ds = l2 ++ d2 :: r2 := e; rw [e']; simp)
        refine ⟨_, rfl, ?_⟩
        refine inner_ok la lb x1 fun x4 x5 x6 x7 x8 x9 h' x1 => ?_
        exact ⟨_, _, _, _, _, _, _, rfl, x1⟩
      · obtain ⟨x3, x4, x5, x6, x7, x8, x9, rfl, x1⟩ := i
        simp (dsimp := false) only [↓Kp_app, ↓w_seq, ↓w_sNil, ↓w_set, ↓w_ret, ↓w_retN, ↓w_sIf, ↓w_expr, ↓w_par, ↓w_par3, ↓w_asg, ↓w_aug, ↓w_sub, ↓w_for, ↓w_raise, ↓w_break, ↓w_cont, ↓w_op2, ↓w_op1, ↓w_cb, ↓w_c, ↓w_var, ↓w_nil, ↓w_cons, ↓w_tup, ↓w_lst, ↓w_new, ↓w_if, ↓w_test, ↓w_tru, ↓w_not, ↓w_and, ↓w_or, ↓w_andV, ↓w_orV, ↓w_notV, ↓w_chain, ↓w_call, ↓w_callK, ↓w_sl, ↓w_part0, ↓w_part1, ↓w_isi, ↓w_join, ↓w_mt, ↓w_lc, ↓w_lcN, ↓w_lcA, ↓w_it, ↓w_range1, ↓w_range2, ↓w_enum, ↓w_enumS, ↓w_zip,   OkX_ok, OkX_err, OkX_stuck, OkX_guard, o_addS, o_addT, o_addLL, o_addRL, o_addII, o_subI, o_mulI, o_mulS, o_fdivI, o_modI, o_powI, o_negI, o_ltI, o_leI, o_gtI, o_geI, o_ltS, o_leS, o_gtS, o_geS, o_eqI, o_eqS, o_neI, o_neS, o_isD, o_isnotD, o_inS, o_ixS, o_ixT, o_ixL, o_ixR, o_slS, o_slT, o_slL, o_slR, o_lenS, o_lenT, o_lenL, o_lenR, o_absI, o_intI, o_intB, o_tupT, o_tupL, o_tupR, o_maxI, o_minI,   List.set_cons_zero, List.set_cons_succ, List.getElem?_cons_zero, List.getElem?_cons_succ, List.map_cons, List.map_nil, List.length_cons, List.length_nil, List.replicate_succ, List.replicate_zero, List.cons_append, List.nil_append, Nat.reduceSub, Nat.reduceAdd, Nat.reduceLeDiff, exists_eq_left', D.bl.injEq, D.int.injEq, D.str.injEq, D.ref.injEq, D.tup.injEq, true_and, and_true, if_true, if_false, Bool.false_eq_true, Bool.not_true, Bool.not_false, decide_true, decide_false, bindP, bindPs, isK, atI_0, atI_1, atI_2, atI_3, ixN_0, ixN_1, Nat.zero_add, LINE, Nat.zero_le, truD, wipeD, Option.some.injEq]
        exact ⟨_, _, _, _, _, _, _, _, rfl, x1⟩
    · obtain ⟨x2, x3, x4, x5, x6, x7, x8, x9, rfl, x1⟩ := i
      simp (dsimp := false) only [↓Kp_app, ↓w_seq, ↓w_sNil, ↓w_set, ↓w_ret, ↓w_retN, ↓w_sIf, ↓w_expr, ↓w_par, ↓w_par3, ↓w_asg, ↓w_aug, ↓w_sub, ↓w_for, ↓w_raise, ↓w_break, ↓w_cont, ↓w_op2, ↓w_op1, ↓w_cb, ↓w_c, ↓w_var, ↓w_nil, ↓w_cons, ↓w_tup, ↓w_lst, ↓w_new, ↓w_if, ↓w_test, ↓w_tru, ↓w_not, ↓w_and, ↓w_or, ↓w_andV, ↓w_orV, ↓w_notV, ↓w_chain, ↓w_call, ↓w_callK, ↓w_sl, ↓w_part0, ↓w_part1, ↓w_isi, ↓w_join, ↓w_mt, ↓w_lc, ↓w_lcN, ↓w_lcA, ↓w_it, ↓w_range1, ↓w_range2, ↓w_enum, ↓w_enumS, ↓w_zip,   OkX_ok, OkX_err, OkX_stuck, OkX_guard, o_addS, o_addT, o_addLL, o_addRL, o_addII, o_subI, o_mulI, o_mulS, o_fdivI, o_modI, o_powI, o_negI, o_ltI, o_leI, o_gtI, o_geI, o_ltS, o_leS, o_gtS, o_geS, o_eqI, o_eqS, o_neI, o_neS, o_isD, o_isnotD, o_inS, o_ixS, o_ixT, o_ixL, o_ixR, o_slS, o_slT, o_slL, o_slR, o_lenS, o_lenT, o_lenL, o_lenR, o_absI, o_intI, o_intB, o_tupT, o_tupL, o_tupR, o_maxI, o_minI,   List.set_cons_zero, List.set_cons_succ, List.getElem?_cons_zero, List.getElem?_cons_succ, List.map_cons, List.map_nil, List.length_cons, List.length_nil, List.replicate_succ, List.replicate_zero, List.cons_append, List.nil_append, Nat.reduceSub, Nat.reduceAdd, Nat.reduceLeDiff, exists_eq_left', D.bl.injEq, D.int.injEq, D.str.injEq, D.ref.injEq, D.tup.injEq, true_and, and_true, if_true, if_false, Bool.false_eq_true, Bool.not_true, Bool.not_false, decide_true, decide_false, bindP, bindPs, isK, atI_0, atI_1, atI_2, atI_3, ixN_0, ixN_1, Nat.zero_add, LINE, Nat.zero_le, truD, wipeD, Option.some.injEq]
      refine rest_ok ?_
      rfl
  obtain ⟨d, h, e, rfl⟩ := key.ex
  exact ⟨h, e⟩
end
end Lw
end
set_option maxRecDepth 100000 in
set_option maxHeartbeats 8000000 in
theorem PySem.Challenge.cw_twoled_k08_whole_euclid_and_the_greatest_holds : PySem.Challenge.rw_twoled_k08_whole_euclid_and_the_greatest.Holds := by
  exact Lw.holds Lw.plain
