import PyProof.Rows.All
import Wide.All
import OpenK.AllK
import Wide.FinOn
import HandS.ForMost
import HandS.Exc
import HandS.TryMany
import HandS.Lambda
import HandS.Defaults
import HandS.IsInst
import HandS.ExcField
import HandS.ExcSuper
import HandS.WideBits
import HandS.TupAny
import HandS.TupMul
import HandS.Wide
import HandS.Style
import PyProof.StrOps2
import HandS.Zip
import HandS.Iter
import HandS.ExcInit
import KE.KExcLine
import HandS.More
import PyProof.Draws
import PyProof.EnumMake
import HandS.EndTab
import HandS.HeadWalk
import HandS.HeadHook4
import HandS.Head0
import HandS.Head1
import HandS.Head2
import HandS.HeadEnd
import PySem.Challenge.RW_twoled_k01_whole_texts_cut_into_groups
set_option Elab.async false
section
set_option Elab.async false
set_option linter.all false
set_option maxRecDepth 100000
/-! M1: data, the mini heap, what a value stands for, growth, results. -/
namespace MP
open PySem PySem.Spec PyProof.Rows L2

abbrev S (l : List Nat) : Str := ⟨l.toArray⟩
/-- a text's signs -/
def tx (s : String) : List Nat := s.toList.map Char.toNat

/-- a Python value, as the mirror has it -/
inductive D where
  | non | bl (b : Bool) | int (i : Int) | str (l : List Nat)
  | tup (ds : List D) | lst (ds : List D) | ref (i : Nat) | glo (x : Str) | clo (n : Nat) (cs : List D)
instance : Inhabited D := ⟨.non⟩

mutual
def D.beq : D → D → Bool
  | .non, .non => true
  | .bl a, .bl b => a == b
  | .int a, .int b => a == b
  | .str a, .str b => a == b
  | .tup a, .tup b => D.beqs a b
  | .lst a, .lst b => D.beqs a b
  | .ref a, .ref b => a == b
  | .glo a, .glo b => a == b
  | .clo n a, .clo m b => n == m && D.beqs a b
  | _, _ => false
def D.beqs : List D → List D → Bool
  | [], [] => true
  | x :: xs, y :: ys => D.beq x y && D.beqs xs ys
  | _, _ => false
end
mutual
theorem D.beq_ok : ∀ (a b : D), D.beq a b = true ↔ a = b
  | .non, b => by cases b <;> simp [D.beq]
  | .bl a, b => by cases b <;> simp [D.beq]
  | .int a, b => by cases b <;> simp [D.beq]
  | .str a, b => by cases b <;> simp [D.beq]
  | .tup a, b => by cases b <;> simp [D.beq, D.beqs_ok a]
  | .lst a, b => by cases b <;> simp [D.beq, D.beqs_ok a]
  | .ref a, b => by cases b <;> simp [D.beq]
  | .glo a, b => by cases b <;> simp [D.beq]
  | .clo n a, b => by cases b <;> simp [D.beq, D.beqs_ok a]
theorem D.beqs_ok : ∀ (a b : List D), D.beqs a b = true ↔ a = b
  | [], b => by cases b <;> simp [D.beqs]
  | x :: xs, b => by cases b <;> simp [D.beqs, D.beq_ok x, D.beqs_ok xs]
end
instance : DecidableEq D := fun a b => decidable_of_iff _ (D.beq_ok a b)

/-- what stands in the mini heap -/
inductive MO where
  | lst (ds : List D) | dead
  deriving DecidableEq
instance : Inhabited MO := ⟨.dead⟩

/-- a lambda of the text -/
structure LamI where
  qual : Str
  params : Arguments
  body : Expr
  scope : Scope
  caps : List Str

/-- growth but for lists that stand by themselves -/
structure Ext0 (H : Hp) (μ : List Addr) (H' : Hp) (μ' : List Addr) : Prop where
  pre : μ <+: μ'
  keep0 : ∀ a u, H a = some u → a ∉ μ → (∀ ps, u ≠ .tbl ps) → (∀ xs, u ≠ .lst xs) → H' a = some u
  keepT : ∀ a ps, H a = some (.tbl ps) → a ∉ μ → ∃ ps', H' a = some (.tbl ps')
  new : ∀ a, a ∈ μ' → a ∈ μ ∨ H a = none ∨ ∃ xs, H a = some (.lst xs)
/-- growth: what is tracked and is not of the mini heap stays -/
structure Ext (H : Hp) (μ : List Addr) (H' : Hp) (μ' : List Addr) : Prop where
  pre : μ <+: μ'
  keep : ∀ a u, H a = some u → a ∉ μ → (∀ ps, u ≠ .tbl ps) → H' a = some u
  keepT : ∀ a ps, H a = some (.tbl ps) → a ∉ μ → ∃ ps', H' a = some (.tbl ps')
  new : ∀ a, a ∈ μ' → a ∈ μ ∨ H a = none
theorem Ext.to0 {H H' : Hp} {μ μ' : List Addr} (e : Ext H μ H' μ') : Ext0 H μ H' μ' := ⟨e.pre, fun a u h n t _ => e.keep a u h n t, e.keepT, fun a m => (e.new a m).imp id .inl⟩
/-- what stays fixed -/
structure G where
  K : PySem.W.Frag
  mg : Str → Option Value
  lam : Nat → Option LamI
  T : List (Addr × Str)
  J : Hp → List Addr → Prop
  Jm : ∀ {H H' : Hp} {μ μ' : List Addr}, J H μ → Ext0 H μ H' μ' → J H' μ'
  Jd : ∀ {H : Hp} {μ μ' : List Addr}, J H μ → (∀ a ∈ μ', a ∈ μ) → J H μ'

def TupM (Γ : G) (H : Hp) (μ : List Addr) (a : Addr) (vs : List V) : Prop :=
  (a ∉ μ ∧ Rd H a (.tup vs)) ∨ ∃ (o : Obj) (its : Array Value) (n : Nat), Γ.K.lookup a = some o ∧ o.cls = .type "tuple" ∧ o.data = .seq its n ∧ its.size ≤ sizeLine ∧ Vals vs its.toList
/-- a list that never changes: frozen, or of the module -/
def LstM (Γ : G) (H : Hp) (μ : List Addr) (a : Addr) (vs : List V) : Prop :=
  (a ∉ μ ∧ ∃ o, H a = some (.frz o (.lst vs))) ∨ ∃ (its : Array Value) (n : Nat), Γ.K.lookup a = some { cls := .type "list", data := .seq its n } ∧ its.size ≤ sizeLine ∧ Vals vs its.toList
/-- a list that can be added -/
def LsP (K : PySem.W.Frag) (H : Hp) (a : Addr) (vs : List V) : Prop :=
  Rd H a (.lst vs) ∨ ∃ (its : Array Value) (n : Nat), K.lookup a = some { cls := .type "list", data := .seq its n } ∧ its.size ≤ sizeLine ∧ Vals vs its.toList
theorem LsP.sq {K : PySem.W.Frag} {H : Hp} {a : Addr} {vs : List V} (x : LsP K H a vs) : SqL K H a vs := by
  rcases x with r | ⟨its, n, r1, r2, r3⟩
  · exact .inl r
  · exact .inr ⟨_, its, n, r1, rfl, rfl, rfl, r2, r3⟩
/-- the cells put away -/
def hideC (H : Hp) (cells : List Addr) : Hp := fun b => if b ∈ cells then none else H b
/-- the object of a lambda, its code, its cells with their values -/
structure CloM (Γ : G) (H : Hp) (μ : List Addr) (f : Addr) (n : Nat) (cells : List Addr) (vs : List V) : Prop where
  obj : ∃ (I : LamI) (clos : List (Str × Addr)) (pm ctv : Value) (c' : Addr), Γ.lam n = some I ∧ clos.map (·.1) = I.caps ∧ clos.map (·.2) = cells ∧
    H f = some (.frz (PySem.W.kla_obj "<lambda>" I.qual I.params I.body I.scope clos pm c' ctv) (.own 0)) ∧ H c' = some (LamX.CodeO c' I.qual) ∧ c' ∉ cells ∧ c' ∉ μ
  fm : f ∉ μ ∧ f ∉ cells
  nd : cells.Nodup
  cm : ∀ c ∈ cells, c ∉ μ
  len : cells.length = vs.length
  val : ∀ (j : Nat) (c : Addr) (v : V), cells[j]? = some c → vs[j]? = some v → ∃ (oc : Obj) (u : Value), H c = some (.frz oc (.own 0)) ∧ oc.data = .cell (some u) ∧ RelV v u

mutual
/-- v stands for d -/
def Den (Γ : G) (μ : List Addr) : Hp → V → D → Prop
  | _, v, .non => v = .non
  | _, v, .bl b => v = .bl b
  | _, v, .int i => v = .int i
  | _, v, .str l => v = .str (S l)
  | H, v, .tup ds => ∃ a vs, v = .ref a ∧ TupM Γ H μ a vs ∧ Dens Γ μ H vs ds
  | H, v, .lst ds => ∃ a vs, v = .ref a ∧ LstM Γ H μ a vs ∧ Dens Γ μ H vs ds
  | _, v, .ref i => ∃ a, v = .ref a ∧ μ[i]? = some a
  | _, v, .glo x => ∃ a, v = .ref a ∧ Γ.mg x = some (.ref a) ∧ PySem.W.keepIn Γ.K (.ref a) = true
  | H, v, .clo n cs => ∃ f cells vs, v = .ref f ∧ CloM Γ H μ f n cells vs ∧ Dens Γ μ (hideC H cells) vs cs
def Dens (Γ : G) (μ : List Addr) : Hp → List V → List D → Prop
  | _, vs, [] => vs = []
  | H, vs, d :: ds => ∃ v r, vs = v :: r ∧ Den Γ μ H v d ∧ Dens Γ μ H r ds
end

theorem Ext.refl (H : Hp) (μ : List Addr) : Ext H μ H μ := ⟨List.prefix_refl _, fun _ _ h _ _ => h, fun _ ps h _ => ⟨ps, h⟩, fun _ h => .inl h⟩
theorem Ext.out {H H' : Hp} {μ μ' : List Addr} (e : Ext H μ H' μ') {a : Addr} {u : HO} (h : H a = some u) (n : a ∉ μ) : a ∉ μ' := fun z => by
  rcases e.new a z with q | q
  · exact n q
  · rw [h] at q; cases q
theorem Ext.there {H H' : Hp} {μ μ' : List Addr} (e : Ext H μ H' μ') {a : Addr} {u : HO} (h : H a = some u) (n : a ∉ μ) : ∃ u', H' a = some u' := by
  by_cases z : ∃ ps, u = .tbl ps
  · obtain ⟨ps, rfl⟩ := z
    obtain ⟨ps', q⟩ := e.keepT a ps h n
    exact ⟨_, q⟩
  · exact ⟨u, e.keep a u h n fun ps q => z ⟨ps, q⟩⟩
theorem Ext.trans {H H1 H2 : Hp} {μ μ1 μ2 : List Addr} (a : Ext H μ H1 μ1) (b : Ext H1 μ1 H2 μ2) : Ext H μ H2 μ2 where
  pre := a.pre.trans b.pre
  keep := fun c u h n t => b.keep c u (a.keep c u h n t) (a.out h n) t
  keepT := fun c ps h n => by
    obtain ⟨ps', q⟩ := a.keepT c ps h n
    exact b.keepT c ps' q (a.out h n)
  new := fun c h => by
    rcases b.new c h with q | q
    · exact a.new c q
    · by_cases hc : c ∈ μ
      · exact .inl hc
      · refine .inr ?_
        cases e : H c with
        | none => rfl
        | some u =>
          obtain ⟨u', e'⟩ := a.there e hc
          rw [q] at e'; cases e'
theorem Ext0.out {H H' : Hp} {μ μ' : List Addr} (e : Ext0 H μ H' μ') {a : Addr} {u : HO} (h : H a = some u) (n : a ∉ μ) (l : ∀ xs, u ≠ .lst xs) : a ∉ μ' := fun z => by
  rcases e.new a z with q | q | ⟨xs, q⟩
  · exact n q
  · rw [h] at q; cases q
  · rw [h] at q; cases q; exact l xs rfl
theorem Ext0.hide {H H' : Hp} {μ μ' : List Addr} (e : Ext0 H μ H' μ') (cells : List Addr) : Ext0 (hideC H cells) μ (hideC H' cells) μ' where
  pre := e.pre
  keep0 := fun a u h n t l => by
    unfold hideC at h ⊢
    by_cases z : a ∈ cells
    · rw [if_pos z] at h; cases h
    · rw [if_neg z] at h ⊢
      exact e.keep0 a u h n t l
  keepT := fun a ps h n => by
    unfold hideC at h ⊢
    by_cases z : a ∈ cells
    · rw [if_pos z] at h; cases h
    · rw [if_neg z] at h ⊢
      exact e.keepT a ps h n
  new := fun a h => by
    unfold hideC
    by_cases z : a ∈ cells
    · rw [if_pos z]; exact .inr (.inl rfl)
    · rw [if_neg z]; exact e.new a h
theorem TupM.mono0 {Γ : G} {H H' : Hp} {μ μ' : List Addr} {a : Addr} {vs : List V} (x : TupM Γ H μ a vs) (e : Ext0 H μ H' μ') : TupM Γ H' μ' a vs := by
  rcases x with ⟨n, r | ⟨o, r⟩⟩ | r
  · exact .inl ⟨e.out r n (fun _ z => nomatch z), .inl (e.keep0 _ _ r n (fun _ z => nomatch z) fun _ z => nomatch z)⟩
  · exact .inl ⟨e.out r n (fun _ z => nomatch z), .inr ⟨o, e.keep0 _ _ r n (fun _ z => nomatch z) fun _ z => nomatch z⟩⟩
  · exact .inr r
theorem LstM.mono0 {Γ : G} {H H' : Hp} {μ μ' : List Addr} {a : Addr} {vs : List V} (x : LstM Γ H μ a vs) (e : Ext0 H μ H' μ') : LstM Γ H' μ' a vs := by
  rcases x with ⟨n, o, r⟩ | r
  · exact .inl ⟨e.out r n (fun _ z => nomatch z), o, e.keep0 _ _ r n (fun _ z => nomatch z) fun _ z => nomatch z⟩
  · exact .inr r
theorem TupM.sq {Γ : G} {H : Hp} {μ : List Addr} {a : Addr} {vs : List V} (x : TupM Γ H μ a vs) : SqT Γ.K H a vs := by
  rcases x with ⟨_, r⟩ | r
  · exact .inl r
  · exact .inr r
theorem LstM.ls {Γ : G} {H : Hp} {μ : List Addr} {a : Addr} {vs : List V} (x : LstM Γ H μ a vs) : LsP Γ.K H a vs := by
  rcases x with ⟨_, o, r⟩ | r
  · exact .inl (.inr ⟨o, r⟩)
  · exact .inr r
theorem LstM.sq {Γ : G} {H : Hp} {μ : List Addr} {a : Addr} {vs : List V} (x : LstM Γ H μ a vs) : SqL Γ.K H a vs := x.ls.sq
theorem codeO_lst (c : Addr) (q : Str) (xs : List V) : LamX.CodeO c q ≠ .lst xs := fun z => by
  unfold LamX.CodeO at z
  cases z
theorem codeO_tbl (c : Addr) (q : Str) (ps : Array Value) : LamX.CodeO c q ≠ .tbl ps := LamX.codeO_ne ps
theorem CloM.mono0 {Γ : G} {H H' : Hp} {μ μ' : List Addr} {f n : Nat} {cells : List Addr} {vs : List V} (x : CloM Γ H μ f n cells vs) (e : Ext0 H μ H' μ') : CloM Γ H' μ' f n cells vs where
  obj := by
    obtain ⟨I, clos, pm, ctv, c', h1, h2, h3, h4, h5, h6, h7⟩ := x.obj
    exact ⟨I, clos, pm, ctv, c', h1, h2, h3, e.keep0 _ _ h4 x.fm.1 (fun ps z => nomatch z) (fun ps z => nomatch z), e.keep0 _ _ h5 h7 (codeO_tbl _ _) (codeO_lst _ _), h6, e.out h5 h7 (codeO_lst _ _)⟩
  fm := by
    obtain ⟨I, clos, pm, ctv, c', h1, h2, h3, h4, h5, h6⟩ := x.obj
    exact ⟨e.out h4 x.fm.1 (fun _ z => nomatch z), x.fm.2⟩
  nd := x.nd
  cm := fun c h => by
    obtain ⟨j, hj, ej⟩ := List.mem_iff_getElem.mp h
    have h1 : cells[j]? = some c := by rw [List.getElem?_eq_getElem hj, ej]
    have hv : j < vs.length := by rw [← x.len]; exact hj
    obtain ⟨oc, u, q, _⟩ := x.val j c vs[j] h1 (List.getElem?_eq_getElem hv)
    exact e.out q (x.cm c h) fun _ z => nomatch z
  len := x.len
  val := fun j c v h1 h2 => by
    obtain ⟨oc, u, q, r⟩ := x.val j c v h1 h2
    exact ⟨oc, u, e.keep0 _ _ q (x.cm c (List.mem_of_getElem? h1)) (fun ps z => nomatch z) (fun ps z => nomatch z), r⟩

mutual
theorem Den.mono0 {Γ : G} {μ μ' : List Addr} : ∀ {d : D} {H H' : Hp} {v : V}, Den Γ μ H v d → Ext0 H μ H' μ' → Den Γ μ' H' v d
  | .non, _, _, _, h, _ => h
  | .bl _, _, _, _, h, _ => h
  | .int _, _, _, _, h, _ => h
  | .str _, _, _, _, h, _ => h
  | .tup ds, _, _, _, h, e => by
    obtain ⟨a, vs, e1, q, r⟩ := h
    exact ⟨a, vs, e1, q.mono0 e, Dens.mono0 r e⟩
  | .lst ds, _, _, _, h, e => by
    obtain ⟨a, vs, e1, q, r⟩ := h
    exact ⟨a, vs, e1, q.mono0 e, Dens.mono0 r e⟩
  | .ref i, _, _, _, h, e => by
    obtain ⟨a, e1, q⟩ := h
    obtain ⟨t, rfl⟩ := e.pre
    refine ⟨a, e1, ?_⟩
    rw [List.getElem?_append_left (List.getElem?_eq_some_iff.mp q).1]
    exact q
  | .glo _, _, _, _, h, _ => h
  | .clo n cs, _, _, _, h, e => by
    obtain ⟨f, cells, vs, e1, q, r⟩ := h
    exact ⟨f, cells, vs, e1, q.mono0 e, Dens.mono0 r (e.hide cells)⟩
theorem Dens.mono0 {Γ : G} {μ μ' : List Addr} : ∀ {ds : List D} {H H' : Hp} {vs : List V}, Dens Γ μ H vs ds → Ext0 H μ H' μ' → Dens Γ μ' H' vs ds
  | [], _, _, _, h, _ => h
  | d :: ds, _, _, _, h, e => by
    obtain ⟨v, r, e1, q, t⟩ := h
    exact ⟨v, r, e1, Den.mono0 q e, Dens.mono0 t e⟩
end
theorem Den.mono {Γ : G} {μ μ' : List Addr} {d : D} {H H' : Hp} {v : V} (h : Den Γ μ H v d) (e : Ext H μ H' μ') : Den Γ μ' H' v d := h.mono0 e.to0
theorem Dens.mono {Γ : G} {μ μ' : List Addr} {d : List D} {H H' : Hp} {v : List V} (h : Dens Γ μ H v d) (e : Ext H μ H' μ') : Dens Γ μ' H' v d := h.mono0 e.to0
theorem Dens.length {Γ : G} {μ : List Addr} {H : Hp} : ∀ {ds : List D} {vs : List V}, Dens Γ μ H vs ds → vs.length = ds.length
  | [], _, h => by rw [show _ = [] from h]; rfl
  | d :: ds, _, h => by
    obtain ⟨v, r, rfl, _, t⟩ := h
    rw [List.length_cons, List.length_cons, Dens.length t]
theorem Dens.get {Γ : G} {μ : List Addr} {H : Hp} : ∀ {ds : List D} {vs : List V} {i : Nat} {d : D}, Dens Γ μ H vs ds → ds[i]? = some d → ∃ v, vs[i]? = some v ∧ Den Γ μ H v d
  | [], _, _, _, _, h => by simp at h
  | x :: ds, _, 0, d, h, e => by
    obtain ⟨v, r, rfl, q, t⟩ := h
    simp at e; subst e
    exact ⟨v, rfl, q⟩
  | x :: ds, _, i + 1, d, h, e => by
    obtain ⟨v, r, rfl, q, t⟩ := h
    obtain ⟨w, a, b⟩ := Dens.get (i := i) t (by simpa using e)
    exact ⟨w, by simpa using a, b⟩
theorem Dens.getV {Γ : G} {μ : List Addr} {H : Hp} {ds : List D} {vs : List V} {i : Nat} {v : V} (h : Dens Γ μ H vs ds) (e : vs[i]? = some v) : ∃ d, ds[i]? = some d ∧ Den Γ μ H v d := by
  have hi : i < ds.length := by rw [← h.length]; exact (List.getElem?_eq_some_iff.mp e).1
  obtain ⟨w, a, b⟩ := h.get (List.getElem?_eq_getElem hi)
  rw [e] at a; cases a
  exact ⟨_, List.getElem?_eq_getElem hi, b⟩
theorem Dens.append {Γ : G} {μ : List Addr} {H : Hp} : ∀ {ds es : List D} {vs us : List V}, Dens Γ μ H vs ds → Dens Γ μ H us es → Dens Γ μ H (vs ++ us) (ds ++ es)
  | [], _, _, _, h, k => by rw [show _ = [] from h]; exact k
  | d :: ds, _, _, _, h, k => by
    obtain ⟨v, r, rfl, q, t⟩ := h
    exact ⟨v, _, rfl, q, Dens.append t k⟩
theorem Dens.one {Γ : G} {μ : List Addr} {H : Hp} {v : V} {d : D} (h : Den Γ μ H v d) : Dens Γ μ H [v] [d] := ⟨v, [], rfl, h, rfl⟩
theorem Dens.take {Γ : G} {μ : List Addr} {H : Hp} : ∀ {ds : List D} {vs : List V} (n : Nat), Dens Γ μ H vs ds → Dens Γ μ H (vs.take n) (ds.take n)
  | _, _, 0, _ => rfl
  | [], _, n + 1, h => by rw [show _ = [] from h]; rfl
  | d :: ds, _, n + 1, h => by
    obtain ⟨v, r, rfl, q, t⟩ := h
    exact ⟨v, r.take n, rfl, q, Dens.take n t⟩
theorem Dens.drop {Γ : G} {μ : List Addr} {H : Hp} : ∀ {ds : List D} {vs : List V} (n : Nat), Dens Γ μ H vs ds → Dens Γ μ H (vs.drop n) (ds.drop n)
  | _, _, 0, h => h
  | [], _, n + 1, h => by rw [show _ = [] from h]; rfl
  | d :: ds, _, n + 1, h => by
    obtain ⟨v, r, rfl, q, t⟩ := h
    exact Dens.drop n t
theorem Dens.set {Γ : G} {μ : List Addr} {H : Hp} {v : V} {d : D} (k : Den Γ μ H v d) : ∀ {ds : List D} {vs : List V} (n : Nat), Dens Γ μ H vs ds → Dens Γ μ H (vs.set n v) (ds.set n d)
  | [], _, n, h => by rw [show _ = [] from h]; rfl
  | x :: ds, _, 0, h => by
    obtain ⟨w, r, rfl, q, t⟩ := h
    exact ⟨v, r, rfl, k, t⟩
  | x :: ds, _, n + 1, h => by
    obtain ⟨w, r, rfl, q, t⟩ := h
    exact ⟨w, r.set n v, rfl, q, Dens.set k n t⟩

/-- the slots -/
def EnvOk (Γ : G) (μ : List Addr) (H : Hp) : L2.St → List (Option D) → Prop
  | [], [] => True
  | s :: σ, r :: ρ => (match r with | none => True | some d => ∃ v, s = some v ∧ Den Γ μ H v d) ∧ EnvOk Γ μ H σ ρ
  | _, _ => False
theorem EnvOk.mono {Γ : G} {μ μ' : List Addr} {H H' : Hp} (e : Ext H μ H' μ') : ∀ {σ : L2.St} {ρ : List (Option D)}, EnvOk Γ μ H σ ρ → EnvOk Γ μ' H' σ ρ
  | [], [], _ => trivial
  | s :: σ, r :: ρ, h => by
    obtain ⟨h1, h2⟩ := h
    refine ⟨?_, EnvOk.mono e h2⟩
    cases r with
    | none => trivial
    | some d =>
      obtain ⟨v, e1, q⟩ := h1
      exact ⟨v, e1, q.mono e⟩
theorem EnvOk.get {Γ : G} {μ : List Addr} {H : Hp} : ∀ {σ : L2.St} {ρ : List (Option D)} {i : Nat} {d : D}, EnvOk Γ μ H σ ρ → ρ[i]? = some (some d) → ∃ v, σ[i]? = some (some v) ∧ Den Γ μ H v d
  | [], [], _, _, _, e => by simp at e
  | s :: σ, r :: ρ, 0, d, h, e => by
    obtain ⟨h1, h2⟩ := h
    simp at e; subst e
    obtain ⟨v, e1, q⟩ := h1
    exact ⟨v, by simp [e1], q⟩
  | s :: σ, r :: ρ, i + 1, d, h, e => by
    obtain ⟨h1, h2⟩ := h
    obtain ⟨v, a, b⟩ := EnvOk.get (i := i) h2 (by simpa using e)
    exact ⟨v, by simpa using a, b⟩
theorem EnvOk.set {Γ : G} {μ : List Addr} {H : Hp} {v : V} {d : D} (k : Den Γ μ H v d) : ∀ {σ : L2.St} {ρ : List (Option D)} (i : Nat), EnvOk Γ μ H σ ρ → EnvOk Γ μ H (σ.set i (some v)) (ρ.set i (some d))
  | [], [], i, _ => trivial
  | s :: σ, r :: ρ, 0, h => ⟨⟨v, rfl, k⟩, h.2⟩
  | s :: σ, r :: ρ, i + 1, h => ⟨h.1, EnvOk.set k i h.2⟩
theorem EnvOk.wipe {Γ : G} {μ : List Addr} {H : Hp} {x : Option V} : ∀ {σ : L2.St} {ρ : List (Option D)} (i : Nat), EnvOk Γ μ H σ ρ → EnvOk Γ μ H (σ.set i x) (ρ.set i none)
  | [], [], i, _ => trivial
  | s :: σ, r :: ρ, 0, h => ⟨trivial, h.2⟩
  | s :: σ, r :: ρ, i + 1, h => ⟨h.1, EnvOk.wipe i h.2⟩
theorem EnvOk.len {Γ : G} {μ : List Addr} {H : Hp} : ∀ {σ : L2.St} {ρ : List (Option D)}, EnvOk Γ μ H σ ρ → σ.length = ρ.length
  | [], [], _ => rfl
  | s :: σ, r :: ρ, h => by rw [List.length_cons, List.length_cons, EnvOk.len h.2]

/-- an object of the mini heap -/
def MOk (Γ : G) (H : Hp) (μ : List Addr) (a : Addr) : MO → Prop
  | .lst ds => ∃ vs, H a = some (.lst vs) ∧ Dens Γ μ H vs ds
  | .dead => ∃ vs, H a = some (.lst vs)
theorem MOk.there {Γ : G} {H : Hp} {μ : List Addr} {a : Addr} {o : MO} (x : MOk Γ H μ a o) : ∃ vs, H a = some (.lst vs) := by
  cases o with
  | lst ds => obtain ⟨vs, e, _⟩ := x; exact ⟨vs, e⟩
  | dead => exact x
structure Rel (Γ : G) (H : Hp) (μ : List Addr) (h : List MO) : Prop where
  len : μ.length = h.length
  nd : μ.Nodup
  ob : ∀ (i : Nat) (a : Addr) (o : MO), μ[i]? = some a → h[i]? = some o → MOk Γ H μ a o
  tabs : LamX.Tabs Γ.T H
  j : Γ.J H μ
theorem Rel.mem {Γ : G} {H : Hp} {μ : List Addr} {h : List MO} (r : Rel Γ H μ h) {a : Addr} (m : a ∈ μ) : ∃ vs, H a = some (.lst vs) := by
  obtain ⟨i, hi, e⟩ := List.mem_iff_getElem.mp m
  have h1 : μ[i]? = some a := by rw [List.getElem?_eq_getElem hi, e]
  have hj : i < h.length := by rw [← r.len]; exact hi
  exact (r.ob i a _ h1 (List.getElem?_eq_getElem hj)).there
theorem Rel.no {Γ : G} {H : Hp} {μ : List Addr} {h : List MO} (r : Rel Γ H μ h) {a : Addr} {u : HO} (e : H a = some u) (n : ∀ vs, u ≠ .lst vs) : a ∉ μ := fun m => by
  obtain ⟨vs, q⟩ := r.mem m
  rw [e] at q; cases q
  exact n vs rfl
theorem Rel.fresh {Γ : G} {H : Hp} {μ : List Addr} {h : List MO} (r : Rel Γ H μ h) {a : Addr} (e : H a = none) : a ∉ μ := fun m => by
  obtain ⟨vs, q⟩ := r.mem m
  rw [e] at q; cases q
/-- a new thing is laid beside -/
theorem Ext.laid {H : Hp} {μ : List Addr} {p : Addr} {u : HO} (e : H p = none) : Ext H μ (upd H p u) μ where
  pre := List.prefix_refl _
  keep := fun a v h _ _ => by rw [upd_ne (ne_of_none h e)]; exact h
  keepT := fun a ps h _ => ⟨ps, by rw [upd_ne (ne_of_none h e)]; exact h⟩
  new := fun _ h => .inl h
theorem Rel.grow {Γ : G} {H H' : Hp} {μ : List Addr} {h : List MO} (r : Rel Γ H μ h) (e : Ext H μ H' μ) (k : ∀ a ∈ μ, H' a = H a) (t : LamX.Tabs Γ.T H') : Rel Γ H' μ h where
  len := r.len
  nd := r.nd
  ob := fun i a o h1 h2 => by
    have x := r.ob i a o h1 h2
    have m : a ∈ μ := List.mem_of_getElem? h1
    cases o with
    | lst ds => obtain ⟨vs, q, z⟩ := x; exact ⟨vs, by rw [k a m]; exact q, z.mono e⟩
    | dead => obtain ⟨vs, q⟩ := x; exact ⟨vs, by rw [k a m]; exact q⟩
  tabs := t
  j := Γ.Jm r.j e.to0
theorem Rel.laid {Γ : G} {H : Hp} {μ : List Addr} {h : List MO} (r : Rel Γ H μ h) {p : Addr} {u : HO} (e : H p = none) : Rel Γ (upd H p u) μ h :=
  r.grow (Ext.laid e) (fun a m => by
    obtain ⟨vs, q⟩ := r.mem m
    exact upd_ne (ne_of_none q e)) (r.tabs.ext fun b o q => by rw [upd_ne (ne_of_none q e)]; exact q)

/-! ### results -/
/-- an exception: its class's name, its fields -/
structure Ex where
  cls : Str
  fs : List (Str × D)
inductive Res (α : Type) where
  | ok (a : α) (h : List MO) | err (e : Ex) (h : List MO) | stuck
def Res.bind {α β : Type} (r : Res α) (k : α → List MO → Res β) : Res β := match r with
  | .ok a h => k a h
  | .err e h => .err e h
  | .stuck => .stuck
theorem Res.bind_assoc {α β γ : Type} (r : Res α) (f : α → List MO → Res β) (g : β → List MO → Res γ) : (r.bind f).bind g = r.bind fun a h => (f a h).bind g := by
  cases r <;> rfl
abbrev Rho := List (Option D)
abbrev ME := Rho → List MO → Res D
abbrev MA := Rho → List MO → Res (List D)
abbrev MT := Rho → List MO → Res Bool
/-- the class and the dict of an exception -/
def ExOk (Γ : G) (H : Hp) (μ : List Addr) (cls : Value) (d : Option Addr) (e : Ex) : Prop :=
  ∃ (C dx : Addr) (vs : List V), cls = .ref C ∧ d = some dx ∧ Γ.mg e.cls = some (.ref C) ∧ H dx = some (.xd ((e.fs.map (·.1)).zip vs)) ∧ Dens Γ μ H vs (e.fs.map (·.2))
/-- where a run from H, μ may lead: every end that the mirror's end stands for is wanted -/
def Good (Γ : G) (W : WX) (σ : L2.St) (H : Hp) (μ : List Addr) {α β : Type} (den : Hp → List Addr → β → α → Prop) (Q : β → Hp → Prop) : Res α → Prop
  | .ok a h => ∀ v H' μ', Ext H μ H' μ' → Rel Γ H' μ' h → den H' μ' v a → Q v H'
  | .err e h => ∀ cls d H' μ', Ext H μ H' μ' → Rel Γ H' μ' h → ExOk Γ H' μ' cls d e → W cls d σ H'
  | .stuck => False
theorem Good.bind {Γ : G} {W : WX} {σ : L2.St} {H : Hp} {μ : List Addr} {α β α' β' : Type} {den : Hp → List Addr → β → α → Prop} {den' : Hp → List Addr → β' → α' → Prop} {Q : β' → Hp → Prop} {Q1 : β → Hp → Prop} {r : Res α} {k : α → List MO → Res α'}
    (g : Good Γ W σ H μ den' Q (r.bind k)) (next : ∀ a h v H' μ', r = .ok a h → Ext H μ H' μ' → Rel Γ H' μ' h → den H' μ' v a → Good Γ W σ H' μ' den' Q (k a h) → Q1 v H') : Good Γ W σ H μ den Q1 r := by
  cases r with
  | ok a h =>
    intro v H' μ' e x d
    refine next a h v H' μ' rfl e x d ?_
    have g' : Good Γ W σ H μ den' Q (k a h) := g
    revert g'
    cases k a h with
    | ok b h2 => exact fun g' w H2 μ2 e2 x2 d2 => g' w H2 μ2 (e.trans e2) x2 d2
    | err ex h2 => exact fun g' c dd H2 μ2 e2 x2 d2 => g' c dd H2 μ2 (e.trans e2) x2 d2
    | stuck => exact fun g' => g'
  | err e h => exact g
  | stuck => exact g
abbrev denE (Γ : G) : Hp → List Addr → V → D → Prop := fun H μ v d => Den Γ μ H v d
abbrev denA (Γ : G) : Hp → List Addr → List V → List D → Prop := fun H μ v d => Dens Γ μ H v d
abbrev denT : Hp → List Addr → Bool → Bool → Prop := fun _ _ b c => b = c
/-- the readings that come of the mirror -/
def tE (Γ : G) (W : WX) (f : ME) : TE := fun σ H Q => ∃ ρ h μ, EnvOk Γ μ H σ ρ ∧ Rel Γ H μ h ∧ Good Γ W σ H μ (denE Γ) Q (f ρ h)
def tA (Γ : G) (W : WX) (f : MA) : TA := fun σ H Q => ∃ ρ h μ, EnvOk Γ μ H σ ρ ∧ Rel Γ H μ h ∧ Good Γ W σ H μ (denA Γ) Q (f ρ h)
def tT (Γ : G) (W : WX) (f : MT) : TT := fun σ H Q => ∃ ρ h μ, EnvOk Γ μ H σ ρ ∧ Rel Γ H μ h ∧ Good Γ W σ H μ denT Q (f ρ h)
/-- the expression e does what f does -/
structure FE (X : Cx) (Γ : G) (W : WX) (e : Expr) (f : ME) : Prop where
  ok : PE X e (tE Γ W f)
structure FT (X : Cx) (Γ : G) (W : WX) (e : Expr) (f : MT) : Prop where
  ok : PT X e (tT Γ W f)
structure FA (X : Cx) (Γ : G) (W : WX) (es : List Expr) (f : MA) : Prop where
  ok : PA X es (tA Γ W f)
end MP
namespace L2
open PySem PySem.Spec PyProof.Rows
theorem PE.imp {X : Cx} {e : Expr} {t t' : TE} (h : PE X e t) (i : ∀ σ H Q, t' σ H Q → t σ H Q) : PE X e t' := ⟨fun pins s σ H Q I q => h.run pins s σ H Q I (i _ _ _ q)⟩
theorem PT.imp {X : Cx} {e : Expr} {t t' : TT} (h : PT X e t) (i : ∀ σ H Q, t' σ H Q → t σ H Q) : PT X e t' := ⟨fun pins s σ H Q I q => h.run pins s σ H Q I (i _ _ _ q)⟩
theorem PA.imp {X : Cx} {e : List Expr} {t t' : TA} (h : PA X e t) (i : ∀ σ H Q, t' σ H Q → t σ H Q) : PA X e t' := ⟨fun pos pins s σ H Q I q => h.run pos pins s σ H Q I (i _ _ _ q)⟩
theorem PW.imp {X : Cx} {e : Expr} {t t' : TT} (h : PW X e t) (i : ∀ σ H Q, t' σ H Q → t σ H Q) : PW X e t' := ⟨fun w pins s σ H Q I q => h.run w pins s σ H Q I (i _ _ _ q)⟩
theorem PS.imp {X : Cx} {e : Stmt} {t t' : TS} (h : PS X e t) (i : ∀ D σ H, t' D σ H → t D σ H) : PS X e t' := ⟨fun pins s σ H D I q => h.run pins s σ H D I (i _ _ _ q)⟩
theorem PSs.imp {X : Cx} {e : List Stmt} {t t' : TS} (h : PSs X e t) (i : ∀ D σ H, t' D σ H → t D σ H) : PSs X e t' := ⟨fun pins s σ H D I q => h.run pins s σ H D I (i _ _ _ q)⟩
/-- a list is known from now on -/
theorem Inv.frz {X : Cx} {pins : List (Addr × Obj)} {σ : L2.St} {H : Hp} {s : Shared} {p : Addr} {xs : List V} (I : Inv X pins σ H s) (e : H p = some (.lst xs)) : ∃ o, Inv X pins σ (upd H p (.frz o (.lst xs))) s := by
  have x := I.hok p _ e
  obtain ⟨z, its, n, r, g⟩ := x
  refine ⟨{ cls := Value.type "list", data := Data.seq its.toArray n }, ?_⟩
  have hok : HOk X.prog X.w (upd H p (.frz { cls := Value.type "list", data := Data.seq its.toArray n } (.lst xs))) s.heap := fun b u q => by
    by_cases hb : b = p
    · subst hb
      rw [upd_same] at q; cases q
      exact ⟨g, z, its, n, r, g⟩
    · rw [upd_ne hb] at q
      exact (I.hok b u q).stay (fun c v _ k => k) (fun c k => by rw [upd_ne (ne_of k e (by intro z; cases z))]; exact k) fun c ys k => by rw [upd_ne (ne_of k e (by intro z; cases z))]; exact k
  have nn : ∀ {b}, H b = none → (upd H p (.frz { cls := Value.type "list", data := Data.seq its.toArray n } (.lst xs)) : Hp) b = none := fun {b} q => by rw [upd_ne (fun z => by rw [z, e] at q; cases q)]; exact q
  exact {
    ok := I.ok
    os := I.os
    bare := I.bare
    base := {
      keep := I.base.keep
      slot := I.base.slot
      free := fun b o q n hx => nn (I.base.free b o q n hx)
      there := I.base.there
      tups := fun b ys q => by
        have k := I.base.tups b ys q
        rw [upd_ne (ne_of k e (by intro z; cases z))]; exact k
      frzs := fun b o u q => by
        have k := I.base.frzs b o u q
        rw [upd_ne (ne_of k e (by intro z; cases z))]; exact k
      tbls := fun b ps q => by
        obtain ⟨more, k⟩ := I.base.tbls b ps q
        exact ⟨more, by rw [upd_ne (ne_of k e (by intro z; cases z))]; exact k⟩ }
    loc := I.loc
    cell := I.cell
    free := nn I.free
    freeC := fun x c q => nn (I.freeC x c q)
    pin := fun q m => by
      obtain ⟨a, b, c⟩ := I.pin q m
      exact ⟨a, nn b, c⟩
    hok := hok
    len := I.len }
/-- the value that is wanted may be wanted as a list that is known -/
def fz (Q : VK) : VK := fun v H => Q v H ∨ ∃ p xs, v = .ref p ∧ H p = some (.lst xs) ∧ ∀ o, Q v (upd H p (.frz o (.lst xs)))
theorem PE.fz {X : Cx} {e : Expr} {t : TE} (h : PE X e t) : PE X e fun σ H Q => t σ H (L2.fz Q) := ⟨fun pins s σ H Q I q => wpAny_mono (h.run pins s σ H _ I q) (fun u s' ⟨v, H', I', r, q⟩ => by
  rcases q with q | ⟨p, xs, rfl, e, q⟩
  · exact ⟨v, H', I', r, q⟩
  · obtain ⟨o, I2⟩ := I'.frz e
    exact ⟨_, _, I2, r, q o⟩) fun _ _ x => x⟩
end L2
end
section
set_option Elab.async false
set_option linter.all false
set_option maxRecDepth 100000
set_option maxHeartbeats 1000000
/-! M2: expressions. -/
namespace MP
open PySem PySem.Spec PyProof.Rows L2

structure CxG (X : Cx) (Γ : G) : Prop where
  k : X.K = Γ.K
  m : X.mg = Γ.mg

/-! ### names, constants -/
def xVar (i : Nat) : ME := fun ρ h => match ρ[i]? with
  | some (some d) => .ok d h
  | _ => .stuck
def xC (d : D) : ME := fun _ h => .ok d h
section
variable {X : Cx} {Γ : G} {W : WX}
theorem fe_var {i : Nat} {x : Str} {pos : Pos} (hN : X.N[i]? = some x) (hv : Vis X.env.scope x) (hd : (x == ("__debug__" : Str)) = false := by decide) (hcd : (x == ("__classdict__" : Str)) = false := by decide) : FE X Γ W (.Name x pos) (xVar i) := by
  refine ⟨(pe_var hN hv hd hcd).imp fun σ H Q q => ?_⟩
  obtain ⟨ρ, h, μ, he, hr, q⟩ := q
  unfold xVar at q
  split at q
  · rename_i d e
    obtain ⟨v, a, b⟩ := he.get e
    exact ⟨v, a, q v H μ (Ext.refl _ _) hr b⟩
  · exact False.elim q
/-- a constant whose value is v -/
theorem fe_const {e : Expr} {v : V} {d : D} (hp : PE X e (tC v)) (hd : ∀ H μ, Den Γ μ H v d) : FE X Γ W e (xC d) := by
  refine ⟨hp.imp fun σ H Q q => ?_⟩
  obtain ⟨ρ, h, μ, he, hr, q⟩ := q
  exact q v H μ (Ext.refl _ _) hr (hd H μ)
theorem fe_int {i j pos} : FE X Γ W (.Constant (.int i) j pos) (xC (.int i)) := fe_const pe_int fun _ _ => rfl
theorem fe_bl {b j pos} : FE X Γ W (.Constant (.bool b) j pos) (xC (.bl b)) := fe_const pe_bl fun _ _ => rfl
theorem fe_non {j pos} : FE X Γ W (.Constant .none j pos) (xC .non) := fe_const pe_non fun _ _ => rfl
theorem fe_str {x : Str} {l : List Nat} {j pos} (e : x = S l := by decide +kernel) : FE X Γ W (.Constant (.str x) j pos) (xC (.str l)) := by
  subst e
  exact fe_const pe_str fun _ _ => rfl
/-- a module's constant -/
theorem fe_glob {x : Str} {v : V} {d : D} {u : Value} {pos : Pos} (hg : Gl X x) (hm : X.mg x = some u) (r : RelV v u) (hd : ∀ H μ, Den Γ μ H v d) (hdb : (x == ("__debug__" : Str)) = false := by decide) : FE X Γ W (.Name x pos) (xC d) :=
  fe_const (pe_glob hg hm r hdb) hd
/-- a def of the module, as a value -/
theorem fe_fn {x : Str} {pos : Pos} {a : Addr} (hX : CxG X Γ) (hg : Gl X x) (hm : X.mg x = some (.ref a)) (hk : PySem.W.keepIn X.K (.ref a) = true) (hdb : (x == ("__debug__" : Str)) = false := by decide) : FE X Γ W (.Name x pos) (xC (.glo x)) :=
  fe_const (pe_glob (v := .ref a) hg hm rfl hdb) fun _ _ => ⟨a, rfl, by rw [← hX.m]; exact hm, by rw [← hX.k]; exact hk⟩

/-! ### two in a row -/
def xOp2 (g : D → D → List MO → Res D) (fa fb : ME) : ME := fun ρ h => (fa ρ h).bind fun x h1 => (fb ρ h1).bind fun y h2 => g x y h2
def Op2 (Γ : G) (r : R2) (g : D → D → List MO → Res D) : Prop := ∀ (W : WX) (σ : L2.St) (H : Hp) (μ : List Addr) (h : List MO) (x y : V) (a b : D) (Q : VK), Rel Γ H μ h → Den Γ μ H x a → Den Γ μ H y b → Good Γ W σ H μ (denE Γ) Q (g a b h) → r x y H Q
theorem op2_run {g : D → D → List MO → Res D} {fa fb : ME} {r : R2} (hg : Op2 Γ r g) {σ : L2.St} {H : Hp} {Q : VK} (q : tE Γ W (xOp2 g fa fb) σ H Q) : tOp r (tE Γ W fa) (tE Γ W fb) σ H Q := by
  obtain ⟨ρ, h, μ, he, hr, q⟩ := q
  refine ⟨ρ, h, μ, he, hr, Good.bind q fun a h1 x H1 μ1 _ e1 r1 d1 q1 => ?_⟩
  refine ⟨ρ, h1, μ1, he.mono e1, r1, Good.bind q1 fun b h2 y H2 μ2 _ e2 r2 d2 q2 => ?_⟩
  exact hg W σ H2 μ2 h2 x y a b Q r2 (d1.mono e2) d2 q2
theorem fe_bin {op : Operator} {a b : Expr} {fa fb : ME} {pos : Pos} {r : R2} {g : D → D → List MO → Res D} (ho : OpR X (binaryOp op) r) (hg : Op2 Γ r g) (ha : FE X Γ W a fa) (hb : FE X Γ W b fb) : FE X Γ W (.BinOp a op b pos) (xOp2 g fa fb) :=
  ⟨(pe_op ho ha.ok hb.ok).imp fun _ _ _ q => op2_run hg q⟩
/-- as above, where a new list may come -/
theorem fe_binz {op : Operator} {a b : Expr} {fa fb : ME} {pos : Pos} {r : R2} {g : D → D → List MO → Res D} (ho : OpR X (binaryOp op) r) (hg : Op2 Γ (fun x y H Q => r x y H (fz Q)) g) (ha : FE X Γ W a fa) (hb : FE X Γ W b fb) : FE X Γ W (.BinOp a op b pos) (xOp2 g fa fb) :=
  ⟨(pe_op ho ha.ok hb.ok).fz.imp fun _ _ _ q => op2_run hg q⟩
theorem fe_cmp {op : CmpOp} {a b : Expr} {fa fb : ME} {pos : Pos} {r : R2} {g : D → D → List MO → Res D} (ho : OpR X (compareOp op) r) (hg : Op2 Γ r g) (ha : FE X Γ W a fa) (hb : FE X Γ W b fb) (hm : behindInMarks op b = false) : FE X Γ W (.Compare a [op] [b] pos) (xOp2 g fa fb) :=
  ⟨(pe_cmpR ho ha.ok hb.ok hm).imp fun _ _ _ q => op2_run hg q⟩
theorem fe_ix {a b : Expr} {fa fb : ME} {pos : Pos} {r : R2} {g : D → D → List MO → Res D} (ho : IxR X r) (hg : Op2 Γ r g) (ha : FE X Γ W a fa) (hb : FE X Γ W b fb) (hs : PlainIx b) : FE X Γ W (.Subscript a b pos) (xOp2 g fa fb) :=
  ⟨(pe_ix ho ha.ok hb.ok hs).imp fun _ _ _ q => op2_run hg q⟩
def xOp1 (g : D → List MO → Res D) (fa : ME) : ME := fun ρ h => (fa ρ h).bind fun x h1 => g x h1
def Op1 (Γ : G) (r : V → Hp → VK → Prop) (g : D → List MO → Res D) : Prop := ∀ (W : WX) (σ : L2.St) (H : Hp) (μ : List Addr) (h : List MO) (x : V) (a : D) (Q : VK), Rel Γ H μ h → Den Γ μ H x a → Good Γ W σ H μ (denE Γ) Q (g a h) → r x H Q
theorem fe_un {op : UnaryOp} {a : Expr} {fa : ME} {pos : Pos} {r : V → Hp → VK → Prop} {g : D → List MO → Res D} (ho : UnR X (unaryOp op) r) (hg : Op1 Γ r g) (ha : FE X Γ W a fa) : FE X Γ W (.UnaryOp op a pos) (xOp1 g fa) := by
  refine ⟨(pe_un ho ha.ok).imp fun σ H Q q => ?_⟩
  obtain ⟨ρ, h, μ, he, hr, q⟩ := q
  refine ⟨ρ, h, μ, he, hr, Good.bind q fun a h1 x H1 μ1 _ e1 r1 d1 q1 => ?_⟩
  exact hg W σ H1 μ1 h1 x a Q r1 d1 q1
end

/-! ### what a value is -/
theorem Den.int_of {Γ : G} {μ : List Addr} {H : Hp} {v : V} {i : Int} (h : Den Γ μ H v (.int i)) : v = .int i := h
section
variable {Γ : G} {W : WX} {σ : L2.St} {H : Hp} {μ : List Addr} {h : List MO} {Q : VK}
theorem good_pure {v : V} {d : D} (g : Good Γ W σ H μ (denE Γ) Q (.ok d h)) (r : Rel Γ H μ h) (k : Den Γ μ H v d) : Q v H := g v H μ (Ext.refl _ _) r k
theorem good_tup {vs : List V} {ds : List D} (g : Good Γ W σ H μ (denE Γ) Q (.ok (.tup ds) h)) (r : Rel Γ H μ h) (k : Dens Γ μ H vs ds) (p : Addr) (hp : H p = none) : Q (.ref p) (upd H p (.tup vs)) :=
  g _ _ μ (Ext.laid hp) (r.laid hp) ⟨p, vs, rfl, .inl ⟨r.fresh hp, .inl upd_same⟩, k.mono (Ext.laid hp)⟩
theorem good_lst {vs : List V} {ds : List D} (g : Good Γ W σ H μ (denE Γ) Q (.ok (.lst ds) h)) (r : Rel Γ H μ h) (k : Dens Γ μ H vs ds) (p : Addr) (hp : H p = none) : fz Q (.ref p) (upd H p (.lst vs)) :=
  .inr ⟨p, vs, rfl, upd_same, fun o => by
    rw [upd_upd]
    exact g _ _ μ (Ext.laid hp) (r.laid hp) ⟨p, vs, rfl, .inl ⟨r.fresh hp, o, upd_same⟩, k.mono (Ext.laid hp)⟩⟩
/-- a new list of the mini heap -/
theorem ext_new {p : Addr} {u : HO} (hp : H p = none) : Ext H μ (upd H p u) (μ ++ [p]) where
  pre := List.prefix_append _ _
  keep := (Ext.laid hp).keep
  keepT := (Ext.laid hp).keepT
  new := fun a m => by
    rcases List.mem_append.mp m with m | m
    · exact .inl m
    · rw [List.mem_singleton.mp m]; exact .inr hp
theorem rel_new {vs : List V} {ds : List D} (r : Rel Γ H μ h) (k : Dens Γ μ H vs ds) {p : Addr} (hp : H p = none) : Rel Γ (upd H p (.lst vs)) (μ ++ [p]) (h ++ [.lst ds]) where
  len := by rw [List.length_append, List.length_append, r.len]; rfl
  nd := List.nodup_append.mpr ⟨r.nd, by simp, fun a m b m2 z => by
    rw [List.mem_singleton.mp m2] at z
    rw [z] at m
    exact r.fresh hp m⟩
  ob := fun i a o h1 h2 => by
    by_cases hi : i < μ.length
    · rw [List.getElem?_append_left hi] at h1
      rw [List.getElem?_append_left (by rw [← r.len]; exact hi)] at h2
      have x := r.ob i a o h1 h2
      have e : Ext H μ (upd H p (.lst vs)) (μ ++ [p]) := ext_new hp
      cases o with
      | lst es => obtain ⟨us, q, z⟩ := x; exact ⟨us, by rw [upd_ne (ne_of_none q hp)]; exact q, z.mono e⟩
      | dead => obtain ⟨us, q⟩ := x; exact ⟨us, by rw [upd_ne (ne_of_none q hp)]; exact q⟩
    · have hi2 : i = μ.length := by
        have := (List.getElem?_eq_some_iff.mp h1).1
        rw [List.length_append] at this
        simp at this
        omega
      subst hi2
      rw [List.getElem?_append_right (Nat.le_refl _), Nat.sub_self] at h1
      rw [r.len, List.getElem?_append_right (Nat.le_refl _), Nat.sub_self] at h2
      cases h1; cases h2
      exact ⟨vs, upd_same, k.mono (ext_new hp)⟩
  tabs := r.tabs.ext fun b o q => by rw [upd_ne (ne_of_none q hp)]; exact q
  j := Γ.Jm r.j (ext_new hp).to0
theorem good_new {vs : List V} {ds : List D} (g : Good Γ W σ H μ (denE Γ) Q (.ok (.ref h.length) (h ++ [.lst ds]))) (r : Rel Γ H μ h) (k : Dens Γ μ H vs ds) (p : Addr) (hp : H p = none) : Q (.ref p) (upd H p (.lst vs)) :=
  g _ _ (μ ++ [p]) (ext_new hp) (rel_new r k hp) ⟨p, rfl, by rw [← r.len, List.getElem?_append_right (Nat.le_refl _), Nat.sub_self]; rfl⟩
/-- a list beside the mini heap is written, or known from now on -/
theorem Ext0.off {p : Addr} {xs : List V} {u : HO} (e : H p = some (.lst xs)) (n : p ∉ μ) : Ext0 H μ (upd H p u) μ where
  pre := List.prefix_refl _
  keep0 := fun a v h _ _ l => by rw [upd_ne (ne_of h e (l _))]; exact h
  keepT := fun a ps h _ => ⟨ps, by rw [upd_ne (ne_of h e (by intro z; cases z))]; exact h⟩
  new := fun a m => .inl m
theorem Rel.off {p : Addr} {xs : List V} {u : HO} (r : Rel Γ H μ h) (e : H p = some (.lst xs)) (n : p ∉ μ) : Rel Γ (upd H p u) μ h where
  len := r.len
  nd := r.nd
  ob := fun i a o h1 h2 => by
    have x := r.ob i a o h1 h2
    have ne : a ≠ p := fun z => n (z ▸ List.mem_of_getElem? h1)
    cases o with
    | lst es => obtain ⟨us, q, z⟩ := x; exact ⟨us, by rw [upd_ne ne]; exact q, z.mono0 (Ext0.off e n)⟩
    | dead => obtain ⟨us, q⟩ := x; exact ⟨us, by rw [upd_ne ne]; exact q⟩
  tabs := fun q hq => by
    obtain ⟨ps, h1, h2, h3⟩ := r.tabs q hq
    have nn : ∀ b o, H b = some o → (∀ vs, o ≠ .lst vs) → b ≠ p := fun b o q t => ne_of q e (t _)
    refine ⟨ps, by rw [upd_ne (nn _ _ h1 fun vs z => nomatch z)]; exact h1, h2, fun pos cv hc => ?_⟩
    obtain ⟨c, e1, e2⟩ := h3 pos cv hc
    exact ⟨c, e1, by rw [upd_ne (nn _ _ e2 fun vs z => nomatch z)]; exact e2⟩
  j := Γ.Jm r.j (Ext0.off e n)
/-- a list of the mini heap is written -/
theorem ext_write {p : Addr} {u : HO} (m : p ∈ μ) : Ext H μ (upd H p u) μ where
  pre := List.prefix_refl _
  keep := fun a v e n _ => by rw [upd_ne (fun z => n (by rw [z]; exact m))]; exact e
  keepT := fun a ps e n => ⟨ps, by rw [upd_ne (fun z => n (by rw [z]; exact m))]; exact e⟩
  new := fun a m => .inl m
theorem rel_write {vs : List V} {ds : List D} {i : Nat} {p : Addr} (r : Rel Γ H μ h) (hi : μ[i]? = some p) (k : Dens Γ μ H vs ds) : Rel Γ (upd H p (.lst vs)) μ (h.set i (.lst ds)) where
  len := by rw [List.length_set]; exact r.len
  nd := r.nd
  ob := fun j a o h1 h2 => by
    have e : Ext H μ (upd H p (.lst vs)) μ := ext_write (List.mem_of_getElem? hi)
    by_cases hj : j = i
    · subst hj
      rw [hi] at h1; cases h1
      rw [List.getElem?_set_self (by rw [← r.len]; exact (List.getElem?_eq_some_iff.mp hi).1)] at h2
      cases h2
      exact ⟨vs, upd_same, k.mono e⟩
    · rw [List.getElem?_set_ne (Ne.symm hj)] at h2
      have ne : a ≠ p := fun z => by
        subst z
        obtain ⟨b1, e1⟩ := List.getElem?_eq_some_iff.mp h1
        obtain ⟨b2, e2⟩ := List.getElem?_eq_some_iff.mp hi
        exact hj ((List.getElem_inj r.nd).mp (e1.trans e2.symm))
      have x := r.ob j a o h1 h2
      cases o with
      | lst es => obtain ⟨us, q, z⟩ := x; exact ⟨us, by rw [upd_ne ne]; exact q, z.mono e⟩
      | dead => obtain ⟨us, q⟩ := x; exact ⟨us, by rw [upd_ne ne]; exact q⟩
  tabs := fun q hq => by
    obtain ⟨ps, h1, h2, h3⟩ := r.tabs q hq
    have n : ∀ b o, H b = some o → (∀ vs, o ≠ .lst vs) → b ≠ p := fun b o e z t => r.no e z (t ▸ List.mem_of_getElem? hi)
    refine ⟨ps, by rw [upd_ne (n _ _ h1 fun vs z => nomatch z)]; exact h1, h2, fun pos cv hc => ?_⟩
    obtain ⟨c, e1, e2⟩ := h3 pos cv hc
    exact ⟨c, e1, by rw [upd_ne (n _ _ e2 fun vs z => nomatch z)]; exact e2⟩
  j := Γ.Jm r.j (ext_write (List.mem_of_getElem? hi)).to0
end

/-! ### the lists -/
def hl (h : List MO) (i : Nat) : Option (List D) := match h[i]? with
  | some (.lst ds) => some ds
  | _ => none
theorem hl_iff {h : List MO} {i : Nat} {ds : List D} : hl h i = some ds ↔ h[i]? = some (.lst ds) := by
  unfold hl
  cases h[i]? with
  | none => simp
  | some o => cases o <;> simp
def getL (h : List MO) : D → Option (List D)
  | .lst ds => some ds
  | .ref i => hl h i
  | _ => none
theorem getL_ls {Γ : G} {H : Hp} {μ : List Addr} {h : List MO} (r : Rel Γ H μ h) : ∀ {d : D} {v : V} {ds : List D}, Den Γ μ H v d → getL h d = some ds → ∃ a vs, v = .ref a ∧ LsP Γ.K H a vs ∧ Dens Γ μ H vs ds
  | .lst es, v, ds, k, e => by
    cases e
    obtain ⟨a, vs, rfl, q, t⟩ := k
    exact ⟨a, vs, rfl, q.ls, t⟩
  | .ref i, v, ds, k, e => by
    obtain ⟨a, rfl, q⟩ := k
    obtain ⟨vs, q1, q2⟩ := r.ob i a _ q (hl_iff.mp e)
    exact ⟨a, vs, rfl, .inl (.inl q1), q2⟩
  | .non, _, _, _, e => nomatch e
  | .bl _, _, _, _, e => nomatch e
  | .int _, _, _, _, e => nomatch e
  | .str _, _, _, _, e => nomatch e
  | .tup _, _, _, _, e => nomatch e
  | .glo _, _, _, _, e => nomatch e
  | .clo _ _, _, _, _, e => nomatch e
theorem getL_ok {Γ : G} {H : Hp} {μ : List Addr} {h : List MO} (r : Rel Γ H μ h) {d : D} {v : V} {ds : List D} (k : Den Γ μ H v d) (e : getL h d = some ds) : ∃ a vs, v = .ref a ∧ SqL Γ.K H a vs ∧ Dens Γ μ H vs ds := by
  obtain ⟨a, vs, rfl, q, t⟩ := getL_ls r k e
  exact ⟨a, vs, rfl, q.sq, t⟩
end MP
end
section
set_option Elab.async false
set_option linter.all false
set_option maxRecDepth 100000
set_option maxHeartbeats 1000000
/-! M3: operators. -/
namespace MP
open PySem PySem.Spec PyProof.Rows L2

abbrev LINE : Nat := 16777216
theorem line_eq : sizeLine = LINE := sizeLine_eq
theorem S_app (a b : List Nat) : S a ++ S b = S (a ++ b) := by
  show (⟨a.toArray ++ b.toArray⟩ : Str) = ⟨(a ++ b).toArray⟩
  rw [List.append_toArray]
theorem S_len (a : List Nat) : (S a).length = a.length := by simp [Str.length]
theorem S_inj {a b : List Nat} (h : S a = S b) : a = b := by
  have := congrArg (fun x : Str => x.cps.toList) h
  simpa using this
theorem S_eq (a b : List Nat) : (S a = S b) = (a = b) := propext ⟨S_inj, fun h => by rw [h]⟩

/-! ### + -/
def oAdd : D → D → List MO → Res D
  | .int i, .int j, h => .ok (.int (i + j)) h
  | .str a, .str b, h => if a.length + b.length ≤ LINE then .ok (.str (a ++ b)) h else .stuck
  | .tup a, .tup b, h => if a.length + b.length ≤ LINE then .ok (.tup (a ++ b)) h else .stuck
  | x, y, h => match getL h x, getL h y with
    | some a, some b => if a.length + b.length ≤ LINE then .ok (.lst (a ++ b)) h else .stuck
    | _, _ => .stuck
def rCatP (K : PySem.W.Frag) : R2 := fun x y H Q => ∃ l b xs zs, x = .ref l ∧ y = .ref b ∧ LsP K H l xs ∧ LsP K H b zs ∧ xs.length + zs.length ≤ sizeLine ∧ ∀ p, H p = none → Q (.ref p) (upd H p (.lst (xs ++ zs)))
theorem LsP.at {X : Cx} {pins : List (Addr × Obj)} {σ : L2.St} {H : Hp} {s : Shared} {a : Addr} {xs : List V} (I : Inv X pins σ H s) (h : LsP X.K H a xs) : ∃ (its : List Value) (n : Nat), Vals xs its ∧ s.heap.get? a = some { cls := .type "list", data := .seq its.toArray n } := by
  rcases h with h | ⟨its, n, hk, hz, r⟩
  · obtain ⟨z, its, n, r, e⟩ := h.ok I.hok
    exact ⟨its, n, r, e⟩
  · exact ⟨its.toList, n, r, by have := I.kIn a _ hk; simpa using this⟩
theorem op_catP {X : Cx} : OpR X (binaryOp .Add) (rCatP X.K) := by
  intro pins s σ H x y v u Q I rx ry h
  obtain ⟨l, b, xs, zs, rfl, rfl, hH, hB, hz, q⟩ := h
  cases rx
  cases ry
  obtain ⟨its, n, r, e⟩ := LsP.at I hH
  obtain ⟨its2, n2, r2, e2⟩ := LsP.at I hB
  have hl := r.length
  have hl2 := r2.length
  refine PySem.P.add_list e e2 ?_ (by rw [List.size_toArray, List.size_toArray]; omega)
  have ea : its.toArray ++ its2.toArray = (its ++ its2).toArray := by simp
  rw [ea]
  exact ⟨.ref _, _, I.lnew (t' := s.toks) (r.append r2) (by rw [List.length_append]; omega), rfl, q _ I.fresh⟩
def rAddAll (K : PySem.W.Frag) : R2 := fun x y H Q => rI0 (fun i j => .int (i + j)) x y H Q ∨ (∃ i j, x = .str i ∧ y = .str j ∧ i.length + j.length ≤ sizeLine ∧ Q (.str (i ++ j)) H) ∨ rCatA K x y H Q ∨ rCatP K x y H Q
theorem op_addAll {X : Cx} {Γ : G} (hX : CxG X Γ) : OpR X (binaryOp .Add) (rAddAll Γ.K) := by
  rw [← hX.k]
  exact op_add.or (op_add_str.or (op_catA.or op_catP))
section
variable {Γ : G} {W : WX} {σ : L2.St} {H : Hp} {μ : List Addr} {h : List MO} {Q : VK} {x y : V}
theorem add_lists {a b : List D} {d e : D} (r : Rel Γ H μ h) (da : Den Γ μ H x d) (db : Den Γ μ H y e) (ea : getL h d = some a) (eb : getL h e = some b) (hl : a.length + b.length ≤ LINE) (q : Good Γ W σ H μ (denE Γ) Q (.ok (.lst (a ++ b)) h)) : rAddAll Γ.K x y H (fz Q) := by
  obtain ⟨p, vs, rfl, hp, dv⟩ := getL_ls r da ea
  obtain ⟨p2, us, rfl, hp2, du⟩ := getL_ls r db eb
  refine .inr (.inr (.inr ⟨p, p2, vs, us, rfl, rfl, hp, hp2, ?_, good_lst q r (dv.append du)⟩))
  rw [line_eq, dv.length, du.length]
  exact hl
theorem o_add : Op2 Γ (fun x y H Q => rAddAll Γ.K x y H (fz Q)) oAdd := by
  intro W σ H μ h x y a b Q r da db q
  have lists : ∀ {a b : D}, Den Γ μ H x a → Den Γ μ H y b → Good Γ W σ H μ (denE Γ) Q (match getL h a, getL h b with
    | some a, some b => if a.length + b.length ≤ LINE then .ok (.lst (a ++ b)) h else .stuck
    | _, _ => .stuck) → rAddAll Γ.K x y H (fz Q) := fun {a b} da db q => by
    split at q
    · rename_i u v e1 e2
      split at q
      · rename_i hl
        exact add_lists r da db e1 e2 hl q
      · exact False.elim q
    · exact False.elim q
  unfold oAdd at q
  split at q
  · cases da; cases db
    exact .inl ⟨_, _, rfl, rfl, .inl (good_pure q r rfl)⟩
  · split at q
    · rename_i hl
      cases da; cases db
      refine .inr (.inl ⟨_, _, rfl, rfl, ?_, ?_⟩)
      · rw [S_len, S_len, line_eq]; exact hl
      · rw [S_app]; exact .inl (good_pure q r rfl)
    · exact False.elim q
  · split at q
    · rename_i a b hl
      obtain ⟨p, vs, rfl, tp, dv⟩ := da
      obtain ⟨p2, us, rfl, tp2, du⟩ := db
      refine .inr (.inr (.inl ⟨p, p2, vs, us, rfl, rfl, tp.sq, tp2.sq, ?_, fun e => ?_, fun _ e => ?_, fun _ _ p hp => .inl (good_tup q r (dv.append du) p hp)⟩))
      · rw [line_eq, dv.length, du.length]; exact hl
      · subst e
        have := dv.length
        have e : a = [] := List.eq_nil_of_length_eq_zero this.symm
        subst e
        exact .inl (good_pure q r ⟨p2, us, rfl, tp2, du⟩)
      · subst e
        have := du.length
        have e : b = [] := List.eq_nil_of_length_eq_zero this.symm
        subst e
        rw [List.append_nil] at q
        exact .inl (good_pure q r ⟨p, vs, rfl, tp, dv⟩)
    · exact False.elim q
  · exact lists da db q

/-! ### -, *, //, %, ** -/
def oSub : D → D → List MO → Res D
  | .int i, .int j, h => .ok (.int (i - j)) h
  | _, _, _ => .stuck
theorem o_sub : Op2 Γ (rI0 fun i j => .int (i - j)) oSub := by
  intro W σ H μ h x y a b Q r da db q
  unfold oSub at q
  split at q
  · cases da; cases db
    exact ⟨_, _, rfl, rfl, good_pure q r rfl⟩
  · exact False.elim q
def mulOk (i j : Int) : Prop := CMulX i j
instance (i j : Int) : Decidable (mulOk i j) := by unfold mulOk CMulX; infer_instance
/-- a text so many times -/
def repS (k : Nat) (l : List Nat) : List Nat := (List.replicate k l).flatten
def oMul : D → D → List MO → Res D
  | .int i, .int j, h => if mulOk i j then .ok (.int (i * j)) h else .stuck
  | .str l, .int k, h => if k < 2 ^ 40 ∧ - 2 ^ 40 < k ∧ l.length * k.toNat ≤ LINE then .ok (.str (repS k.toNat l)) h else .stuck
  | .tup ds, .int k, h => if ds ≠ [] ∧ 2 ≤ k ∧ k ≤ 1000 ∧ ds.length ≤ 1000 then .ok (.tup (List.replicate k.toNat ds).flatten) h else .stuck
  | _, _, _ => .stuck
end
theorem fold_rep (a : Array Nat) : ∀ (n : Nat) (s : Array Nat), ((List.replicate n a).foldl (· ++ ·) s).toList = s.toList ++ repS n a.toList
  | 0, s => by simp [repS]
  | n + 1, s => by
    rw [List.replicate_succ, List.foldl_cons, fold_rep a n]
    simp [repS, List.replicate_succ]
def rMulS : R2 := fun x y H Q => ∃ l k, x = .str (S l) ∧ y = .int k ∧ k < 2 ^ 40 ∧ - 2 ^ 40 < k ∧ l.length * k.toNat ≤ LINE ∧ Q (.str (S (repS k.toNat l))) H
theorem op_mulS {X : Cx} : OpR X (binaryOp .Mult) rMulS := by
  intro pins s σ H x y v u Q I rx ry hq
  obtain ⟨l, k, rfl, rfl, h1, h2, h3, q⟩ := hq
  obtain ⟨t, rfl⟩ := rx
  obtain ⟨t', rfl⟩ := ry
  have e1 : decide (k < -(2 ^ 63 : Int)) = false := decide_eq_false (by omega)
  have e2 : decide (k ≥ (2 ^ 63 : Int)) = false := decide_eq_false (by omega)
  refine PySem.P.mul_str (by rw [e1, e2]; rfl) (fun h _ => ?_) (fun h _ => ?_) ?_
  · intro z
    have hl : (S l).length = l.length := S_len l
    rw [hl] at z
    have hk : 0 < k := by omega
    have h4 : (l.length : Int) * k ≤ 16777216 := by
      have e : (k.toNat : Int) = k := Int.toNat_of_nonneg (by omega)
      have h5 : ((l.length * k.toNat : Nat) : Int) ≤ ((LINE : Nat) : Int) := Int.ofNat_le.mpr h3
      rw [Int.natCast_mul, e] at h5
      exact h5
    have h6 : (2 ^ 63 - 1) / k < (l.length : Int) := z
    have h7 : (2 ^ 63 - 1 : Int) < (l.length : Int) * k := (Int.ediv_lt_iff_lt_mul hk).mp h6
    omega
  · apply decide_eq_false
    show ¬ ((S l).length * k.toNat > sizeLine)
    rw [S_len, line_eq]
    omega
  · by_cases z : k < 1
    · rw [if_pos z]
      refine ⟨by decide, ?_⟩
      have e : repS k.toNat l = [] := by
        have : k.toNat = 0 := by omega
        rw [this]; rfl
      rw [e] at q
      exact ⟨.str (S []), H, I.tok _, ⟨_, rfl⟩, q⟩
    · rw [if_neg z]
      by_cases z2 : (k == 1 || (S l).length == 0) = true
      · rw [if_pos z2]
        have e : repS k.toNat l = l := by
          rw [Bool.or_eq_true] at z2
          rcases z2 with z2 | z2
          · have : k = 1 := eq_of_beq z2
            subst this
            simp [repS]
          · have : l.length = 0 := by rw [← S_len]; exact eq_of_beq z2
            have : l = [] := List.eq_nil_of_length_eq_zero this
            subst this
            unfold repS
            simp
        rw [e] at q
        exact ⟨.str (S l), H, I, ⟨_, rfl⟩, q⟩
      · rw [if_neg z2]
        have e : (⟨(List.replicate k.toNat (S l).cps).foldl (· ++ ·) #[]⟩ : Str) = S (repS k.toNat l) := by
          have := fold_rep (S l).cps k.toNat #[]
          simp at this
          show Str.mk _ = Str.mk _
          congr 1
          apply Array.toList_inj.mp
          rw [this]
        rw [e]
        refine ⟨?_, ⟨.str (S (repS k.toNat l)), H, I.tok _, ⟨_, rfl⟩, q⟩⟩
        first
          | (rw [S_len]; show (repS k.toNat l).length ≤ sizeLine; rw [line_eq]; simp [repS]; rw [Nat.mul_comm]; exact h3)
          | (show (S (repS k.toNat l)).length ≤ sizeLine; rw [S_len, line_eq]; simp [repS]; rw [Nat.mul_comm]; exact h3)
end MP
end
section
set_option Elab.async false
set_option linter.all false
set_option maxRecDepth 100000
set_option maxHeartbeats 1000000
/-! M4: more operators, comparisons. -/
namespace MP
open PySem PySem.Spec PyProof.Rows L2
def rMulAll (K : PySem.W.Frag) : R2 := fun x y H Q => rI CMulX (fun i j => .int (i * j)) x y H Q ∨ rMulS x y H Q ∨ rRepT K x y H Q
theorem op_mulAll {X : Cx} {Γ : G} (hX : CxG X Γ) : OpR X (binaryOp .Mult) (rMulAll Γ.K) := by
  rw [← hX.k]
  exact op_mulX.or (op_mulS.or op_repT)
theorem flatten_dens {Γ : G} {μ : List Addr} {H : Hp} {vs : List V} {ds : List D} (h : Dens Γ μ H vs ds) : ∀ n : Nat, Dens Γ μ H (List.replicate n vs).flatten (List.replicate n ds).flatten
  | 0 => rfl
  | n + 1 => by
    rw [List.replicate_succ, List.replicate_succ, List.flatten_cons, List.flatten_cons]
    exact h.append (flatten_dens h n)
def oFdiv : D → D → List MO → Res D
  | .int i, .int j, h => if j ≠ 0 ∧ j.natAbs.log2 < 9000 then .ok (.int (i.fdiv j)) h else .stuck
  | _, _, _ => .stuck
def oMod : D → D → List MO → Res D
  | .int i, .int j, h => if j ≠ 0 then .ok (.int (i.fmod j)) h else .stuck
  | _, _, _ => .stuck
def oPow : D → D → List MO → Res D
  | .int i, .int j, h => if 0 ≤ j ∧ j ≤ 1000000 ∧ i.natAbs < 2 ^ 64 then .ok (.int (i ^ j.toNat)) h else .stuck
  | _, _, _ => .stuck
def CDivA (_ j : Int) : Prop := j ≠ 0 ∧ j.natAbs.log2 < 9000
theorem op_fdivA {X : Cx} : OpR X (binaryOp .FloorDiv) (rI CDivA fun i j => .int (i.fdiv j)) := opI fun _ _ _ _ _ _ _ hc q => floordiv_int hc.1 q (.inl (PyProof.noPylong_of_log2 hc.2))
section
variable {Γ : G} {W : WX} {σ : L2.St} {H : Hp} {μ : List Addr} {h : List MO} {Q : VK} {x y : V}
theorem o_mul : Op2 Γ (rMulAll Γ.K) oMul := by
  intro W σ H μ h x y a b Q r da db q
  unfold oMul at q
  split at q
  · split at q
    · rename_i hl
      cases da; cases db
      exact .inl ⟨_, _, rfl, rfl, hl, good_pure q r rfl⟩
    · exact False.elim q
  · split at q
    · rename_i hl
      cases da; cases db
      exact .inr (.inl ⟨_, _, rfl, rfl, hl.1, hl.2.1, hl.2.2, good_pure q r rfl⟩)
    · exact False.elim q
  · split at q
    · rename_i ds k hl
      obtain ⟨p, vs, rfl, tp, dv⟩ := da
      cases db
      refine .inr (.inr ⟨p, k, vs, rfl, rfl, tp.sq, fun e => ?_, hl.2.1, hl.2.2.1, by rw [dv.length]; exact hl.2.2.2, good_tup q r (flatten_dens dv _)⟩)
      subst e
      have := dv.length
      exact hl.1 (List.eq_nil_of_length_eq_zero this.symm)
    · exact False.elim q
  · exact False.elim q
theorem o_fdiv : Op2 Γ (rI CDivA fun i j => .int (i.fdiv j)) oFdiv := by
  intro W σ H μ h x y a b Q r da db q
  unfold oFdiv at q
  split at q
  · split at q
    · rename_i hl
      cases da; cases db
      exact ⟨_, _, rfl, rfl, hl, good_pure q r rfl⟩
    · exact False.elim q
  · exact False.elim q
theorem o_mod : Op2 Γ (rI (fun _ j => j ≠ 0) fun i j => .int (i.fmod j)) oMod := by
  intro W σ H μ h x y a b Q r da db q
  unfold oMod at q
  split at q
  · split at q
    · rename_i hl
      cases da; cases db
      exact ⟨_, _, rfl, rfl, hl, good_pure q r rfl⟩
    · exact False.elim q
  · exact False.elim q
theorem o_pow : Op2 Γ (rI CPow fun i j => .int (i ^ j.toNat)) oPow := by
  intro W σ H μ h x y a b Q r da db q
  unfold oPow at q
  split at q
  · split at q
    · rename_i hl
      cases da; cases db
      exact ⟨_, _, rfl, rfl, hl, good_pure q r rfl⟩
    · exact False.elim q
  · exact False.elim q
def oNeg : D → List MO → Res D
  | .int i, h => .ok (.int (-i)) h
  | _, _ => .stuck
theorem o_neg : Op1 Γ (rU fun i => .int (-i)) oNeg := by
  intro W σ H μ h x a Q r da q
  unfold oNeg at q
  split at q
  · cases da
    exact ⟨_, rfl, good_pure q r rfl⟩
  · exact False.elim q

/-! ### comparisons -/
def oLt : D → D → List MO → Res D
  | .int i, .int j, h => .ok (.bl (decide (i < j))) h
  | .str a, .str b, h => .ok (.bl (decide (a < b))) h
  | _, _, _ => .stuck
def oLe : D → D → List MO → Res D
  | .int i, .int j, h => .ok (.bl (decide (i ≤ j))) h
  | .str a, .str b, h => .ok (.bl (!decide (b < a))) h
  | _, _, _ => .stuck
def oGt : D → D → List MO → Res D
  | .int i, .int j, h => .ok (.bl (decide (j < i))) h
  | .str a, .str b, h => .ok (.bl (decide (b < a))) h
  | _, _, _ => .stuck
def oGe : D → D → List MO → Res D
  | .int i, .int j, h => .ok (.bl (decide (j ≤ i))) h
  | .str a, .str b, h => .ok (.bl (!decide (a < b))) h
  | _, _, _ => .stuck
def rCmpB (f : Int → Int → Bool) (g : List Nat → List Nat → Bool) : R2 := fun x y H Q => rI0 (fun i j => .bl (f i j)) x y H Q ∨ ∃ i j : Str, x = .str i ∧ y = .str j ∧ Q (.bl (g i.cps.toList j.cps.toList)) H
theorem o_cmp {f : Int → Int → Bool} {g : List Nat → List Nat → Bool} {o : D → D → List MO → Res D} (h1 : ∀ i j h, o (.int i) (.int j) h = .ok (.bl (f i j)) h) (h2 : ∀ i j h, o (.str i) (.str j) h = .ok (.bl (g i j)) h)
    (h3 : ∀ a b h, (∀ i j, ¬ (a = .int i ∧ b = .int j)) → (∀ i j, ¬ (a = .str i ∧ b = .str j)) → o a b h = .stuck) : Op2 Γ (rCmpB f g) o := by
  intro W σ H μ h x y a b Q r da db q
  by_cases c1 : ∃ i j, a = .int i ∧ b = .int j
  · obtain ⟨i, j, rfl, rfl⟩ := c1
    cases da; cases db
    rw [h1] at q
    exact .inl ⟨_, _, rfl, rfl, good_pure q r rfl⟩
  · by_cases c2 : ∃ i j, a = .str i ∧ b = .str j
    · obtain ⟨i, j, rfl, rfl⟩ := c2
      cases da; cases db
      rw [h2] at q
      refine .inr ⟨_, _, rfl, rfl, good_pure q r ?_⟩
      show V.bl (g (S i).cps.toList (S j).cps.toList) = _
      simp
    · rw [h3 a b h (fun i j z => c1 ⟨i, j, z⟩) (fun i j z => c2 ⟨i, j, z⟩)] at q
      exact False.elim q
theorem o_lt : Op2 Γ (rCmpB (fun i j => decide (i < j)) fun i j => decide (i < j)) oLt := o_cmp (fun _ _ _ => rfl) (fun _ _ _ => rfl) fun a b h n1 n2 => by
  unfold oLt; split <;> first | exact absurd ⟨rfl, rfl⟩ (n1 _ _) | exact absurd ⟨rfl, rfl⟩ (n2 _ _) | rfl
theorem o_le : Op2 Γ (rCmpB (fun i j => decide (i ≤ j)) fun i j => !decide (j < i)) oLe := o_cmp (fun _ _ _ => rfl) (fun _ _ _ => rfl) fun a b h n1 n2 => by
  unfold oLe; split <;> first | exact absurd ⟨rfl, rfl⟩ (n1 _ _) | exact absurd ⟨rfl, rfl⟩ (n2 _ _) | rfl
theorem o_gt : Op2 Γ (rCmpB (fun i j => decide (j < i)) fun i j => decide (j < i)) oGt := o_cmp (fun _ _ _ => rfl) (fun _ _ _ => rfl) fun a b h n1 n2 => by
  unfold oGt; split <;> first | exact absurd ⟨rfl, rfl⟩ (n1 _ _) | exact absurd ⟨rfl, rfl⟩ (n2 _ _) | rfl
theorem o_ge : Op2 Γ (rCmpB (fun i j => decide (j ≤ i)) fun i j => !decide (i < j)) oGe := o_cmp (fun _ _ _ => rfl) (fun _ _ _ => rfl) fun a b h n1 n2 => by
  unfold oGe; split <;> first | exact absurd ⟨rfl, rfl⟩ (n1 _ _) | exact absurd ⟨rfl, rfl⟩ (n2 _ _) | rfl
end
section
variable {X : Cx}
theorem op_ltA : OpR X (compareOp .Lt) (rCmpB (fun i j => decide (i < j)) fun i j => decide (i < j)) := op_lt.or op_lt_str
theorem op_leA : OpR X (compareOp .LtE) (rCmpB (fun i j => decide (i ≤ j)) fun i j => !decide (j < i)) := op_le.or op_le_str
theorem op_gtA : OpR X (compareOp .Gt) (rCmpB (fun i j => decide (j < i)) fun i j => decide (j < i)) := op_gt.or op_gt_str
theorem op_geA : OpR X (compareOp .GtE) (rCmpB (fun i j => decide (j ≤ i)) fun i j => !decide (i < j)) := op_ge.or op_ge_str
end
/-! == -/
mutual
def toP : D → Option PyData
  | .non => some .none
  | .bl b => some (.bool b)
  | .int i => some (.int i)
  | .str l => some (.str (S l))
  | .tup ds => (toPs ds).map .tuple
  | .lst ds => (toPs ds).map .list
  | _ => none
def toPs : List D → Option (List PyData)
  | [] => some []
  | d :: ds => match toP d, toPs ds with
    | some p, some ps => some (p :: ps)
    | _, _ => none
end
/-- a list of the mini heap as it stands -/
def nf (h : List MO) : D → D
  | .ref i => match hl h i with
    | some ds => .lst ds
    | none => .ref i
  | d => d
mutual
theorem toP_ok {Γ : G} {μ : List Addr} {H : Hp} : ∀ {d : D} {v : V} {p : PyData}, Den Γ μ H v d → toP d = some p → Dp Γ.K H v p
  | .non, v, p, k, e => by cases e; cases (show v = _ from k); exact .non
  | .bl b, v, p, k, e => by cases e; cases (show v = _ from k); exact .bl b
  | .int b, v, p, k, e => by cases e; cases (show v = _ from k); exact .int b
  | .str b, v, p, k, e => by cases e; cases (show v = _ from k); exact .str _
  | .tup ds, v, p, k, e => by
    unfold toP at e
    cases q : toPs ds with
    | none => rw [q] at e; cases e
    | some ps =>
      rw [q] at e; cases e
      obtain ⟨a, vs, rfl, t, dv⟩ := k
      exact .tup t.sq (toPs_ok dv q)
  | .lst ds, v, p, k, e => by
    unfold toP at e
    cases q : toPs ds with
    | none => rw [q] at e; cases e
    | some ps =>
      rw [q] at e; cases e
      obtain ⟨a, vs, rfl, t, dv⟩ := k
      exact .lst t.sq (toPs_ok dv q)
  | .ref _, _, _, _, e => by unfold toP at e; cases e
  | .glo _, _, _, _, e => by unfold toP at e; cases e
  | .clo _ _, _, _, _, e => by unfold toP at e; cases e
theorem toPs_ok {Γ : G} {μ : List Addr} {H : Hp} : ∀ {ds : List D} {vs : List V} {ps : List PyData}, Dens Γ μ H vs ds → toPs ds = some ps → DpAll Γ.K H vs ps
  | [], vs, ps, k, e => by cases e; rw [show vs = [] from k]; exact .nil
  | d :: ds, vs, ps, k, e => by
    unfold toPs at e
    obtain ⟨v, r, rfl, k1, k2⟩ := k
    cases q1 : toP d with
    | none => rw [q1] at e; simp at e
    | some p =>
      cases q2 : toPs ds with
      | none => rw [q1, q2] at e; simp at e
      | some qs =>
        rw [q1, q2] at e
        cases e
        exact .cons (toP_ok k1 q1) (toPs_ok k2 q2)
end
theorem nf_ok {Γ : G} {μ : List Addr} {H : Hp} {h : List MO} (r : Rel Γ H μ h) {d : D} {v : V} {p : PyData} (k : Den Γ μ H v d) (e : toP (nf h d) = some p) : Dp Γ.K H v p := by
  cases d with
  | ref i =>
    have e' : toP (match hl h i with | some ds => D.lst ds | none => D.ref i) = some p := e
    cases q : hl h i with
    | none => rw [q] at e'; simp [toP] at e'
    | some ds =>
      rw [q] at e'
      obtain ⟨a, rfl, hm⟩ := k
      obtain ⟨vs, q1, q2⟩ := r.ob i a _ hm (hl_iff.mp q)
      have e2 : (toPs ds).map PyData.list = some p := by
        have := e'
        unfold toP at this
        exact this
      cases q3 : toPs ds with
      | none => rw [q3] at e2; cases e2
      | some ps =>
        rw [q3] at e2
        cases e2
        exact .lst (SqL.of q1) (toPs_ok q2 q3)
  | _ => exact toP_ok k e
/-- values whose == needs no look within -/
def scalD : D → D → Bool
  | .non, .non => true | .non, .int _ => true | .int _, .non => true | .non, .bl _ => true | .bl _, .non => true | .non, .str _ => true | .str _, .non => true
  | .int _, .int _ => true | .bl _, .bl _ => true | .str _, .str _ => true
  | .int _, .str _ => true | .str _, .int _ => true | .bl _, .str _ => true | .str _, .bl _ => true
  | _, _ => false
def eqD (h : List MO) (a b : D) : Option Bool :=
  if scalD a b then some (decide (a = b)) else match toP (nf h a), toP (nf h b) with
    | some p, some q => if SeqAt.shaped p && SeqAt.shaped q then some (PyData.eqv p q) else none
    | _, _ => none
def oEq (a b : D) (h : List MO) : Res D := match eqD h a b with
  | some c => .ok (.bl c) h
  | none => .stuck
def oNe (a b : D) (h : List MO) : Res D := match eqD h a b with
  | some c => .ok (.bl (!c)) h
  | none => .stuck
def rEqA (K : PySem.W.Frag) : R2 := fun x y H Q => rEq x y H Q ∨ rEqD K x y H Q
def rNeA (K : PySem.W.Frag) : R2 := fun x y H Q => rNe x y H Q ∨ rNeD K x y H Q
theorem op_eqA {X : Cx} {Γ : G} (hX : CxG X Γ) {k : Nat} (hr : Room k X.A) : OpR X (compareOp .Eq) (rEqA Γ.K) := by
  rw [← hX.k]
  exact op_eq.or (op_eqD hr.units)
theorem op_neA {X : Cx} {Γ : G} (hX : CxG X Γ) {k : Nat} (hr : Room k X.A) : OpR X (compareOp .NotEq) (rNeA Γ.K) := by
  rw [← hX.k]
  exact op_ne.or (op_neD hr.units)
theorem scal_ok {Γ : G} {μ : List Addr} {H : Hp} {x y : V} {a b : D} (da : Den Γ μ H x a) (db : Den Γ μ H y b) (s : scalD a b = true) : scal x y = true ∧ decide (x = y) = decide (a = b) := by
  have key : ∀ (a b : D), scalD a b = true → ∃ f : D → V, (∀ H μ v, Den Γ μ H v a ↔ v = f a) ∧ (∀ H μ v, Den Γ μ H v b ↔ v = f b) ∧ scal (f a) (f b) = true ∧ (f a = f b ↔ a = b) := by
    intro a b s
    refine ⟨fun d => match d with | .non => .non | .bl b => .bl b | .int i => .int i | .str l => .str (S l) | _ => .non, ?_⟩
    cases a <;> cases b <;> first
      | (exfalso; simp [scalD] at s; done)
      | (refine ⟨fun _ _ _ => Iff.rfl, fun _ _ _ => Iff.rfl, rfl, ?_⟩; simp)
  obtain ⟨f, h1, h2, h3, h4⟩ := key a b s
  have ex := (h1 H μ x).mp da
  have ey := (h2 H μ y).mp db
  subst ex ey
  exact ⟨h3, by rw [decide_eq_decide]; exact h4⟩
theorem eqD_ok {Γ : G} {H : Hp} {μ : List Addr} {h : List MO} {x y : V} {a b : D} {c : Bool} (r : Rel Γ H μ h) (da : Den Γ μ H x a) (db : Den Γ μ H y b) (e : eqD h a b = some c) :
    (scal x y = true ∧ decide (x = y) = c) ∨ ∃ p q, Dp Γ.K H x p ∧ Dp Γ.K H y q ∧ SeqAt.shaped p = true ∧ SeqAt.shaped q = true ∧ PyData.eqv p q = c := by
  unfold eqD at e
  split at e
  · rename_i s
    cases e
    exact .inl (scal_ok da db s)
  · split at e
    · rename_i p q e1 e2
      split at e
      · rename_i hs
        cases e
        rw [Bool.and_eq_true] at hs
        exact .inr ⟨p, q, nf_ok r da e1, nf_ok r db e2, hs.1, hs.2, rfl⟩
      · cases e
    · cases e
theorem o_eq {Γ : G} : Op2 Γ (rEqA Γ.K) oEq := by
  intro W σ H μ h x y a b Q r da db q
  unfold oEq at q
  split at q
  · rename_i c e
    rcases eqD_ok r da db e with ⟨s, e⟩ | ⟨p, p2, h1, h2, h3, h4, e⟩
    · refine .inl ⟨s, ?_⟩
      rw [e]; exact good_pure q r rfl
    · refine .inr ⟨p, p2, h1, h2, h3, h4, ?_⟩
      rw [e]; exact good_pure q r rfl
  · exact False.elim q
theorem o_ne {Γ : G} : Op2 Γ (rNeA Γ.K) oNe := by
  intro W σ H μ h x y a b Q r da db q
  unfold oNe at q
  split at q
  · rename_i c e
    rcases eqD_ok r da db e with ⟨s, e⟩ | ⟨p, p2, h1, h2, h3, h4, e⟩
    · refine .inl ⟨s, ?_⟩
      rw [e]; exact good_pure q r rfl
    · refine .inr ⟨p, p2, h1, h2, h3, h4, ?_⟩
      rw [e]; exact good_pure q r rfl
  · exact False.elim q
end MP
end
section
set_option Elab.async false
set_option linter.all false
set_option maxRecDepth 100000
set_option maxHeartbeats 1000000
/-! M5: is, in, subscripts, tests, displays, calls of built-ins. -/
namespace MP
open PySem PySem.Spec PyProof.Rows L2

/-! ### is None, is True, is False -/
def isK : D → Bool
  | .non => true
  | .bl _ => true
  | _ => false
def oIs (a b : D) (h : List MO) : Res D := if isK b then .ok (.bl (decide (a = b))) h else .stuck
def oIsNot (a b : D) (h : List MO) : Res D := if isK b then .ok (.bl (!decide (a = b))) h else .stuck
def rIsK (neg : Bool) : R2 := fun x y H Q => (y = .non ∨ ∃ b, y = .bl b) ∧ Q (.bl (if neg then !decide (x = y) else decide (x = y))) H
theorem plain_b {x : V} {v : Value} (r : RelV x v) (b : Bool) : plainIs v (.bool b) = true ∧ (v == Value.bool b) = decide (x = .bl b) := by
  cases x with
  | non => cases r; exact ⟨rfl, rfl⟩
  | bl c =>
    cases r
    refine ⟨rfl, ?_⟩
    by_cases e : c = b
    · subst e; simp
    · have h1 : Value.bool c ≠ Value.bool b := fun z => e (Value.bool.inj z)
      have h2 : V.bl c ≠ V.bl b := fun z => e (V.bl.inj z)
      rw [decide_eq_false h2]
      exact beq_eq_false_iff_ne.mpr h1
  | int i => obtain ⟨t, rfl⟩ := r; exact ⟨rfl, rfl⟩
  | str i => obtain ⟨t, rfl⟩ := r; exact ⟨rfl, rfl⟩
  | byt i => obtain ⟨t, rfl⟩ := r; exact ⟨rfl, rfl⟩
  | flt i => obtain ⟨t, rfl⟩ := r; exact ⟨rfl, rfl⟩
  | ref i => cases r; exact ⟨rfl, rfl⟩
  | ty i => cases r; exact ⟨rfl, rfl⟩
theorem op_isK {X : Cx} : OpR X (compareOp .Is) (rIsK false) := by
  intro pins s σ H x y v u Q I rx ry h
  obtain ⟨hy, q⟩ := h
  rcases hy with rfl | ⟨b, rfl⟩
  · exact op_isN pins s σ H x _ v u Q I rx ry ⟨rfl, q⟩
  · cases ry
    obtain ⟨p, e⟩ := plain_b rx b
    exact wpAny_is_plain p (fin_bl I q e.symm)
theorem op_isNotK {X : Cx} : OpR X (compareOp .IsNot) (rIsK true) := by
  intro pins s σ H x y v u Q I rx ry h
  obtain ⟨hy, q⟩ := h
  rcases hy with rfl | ⟨b, rfl⟩
  · exact op_notN pins s σ H x _ v u Q I rx ry ⟨rfl, q⟩
  · cases ry
    obtain ⟨p, e⟩ := plain_b rx b
    exact wpAny_isNot_plain p (fin_bl I q (by rw [e]; rfl))
section
variable {Γ : G} {W : WX} {σ : L2.St} {H : Hp} {μ : List Addr} {h : List MO} {Q : VK} {x y : V}
theorem isK_dec {a b : D} (da : Den Γ μ H x a) (db : Den Γ μ H y b) (k : isK b = true) : (y = .non ∨ ∃ c, y = .bl c) ∧ decide (x = y) = decide (a = b) := by
  cases b with
  | non =>
    cases db
    refine ⟨.inl rfl, decide_eq_decide.mpr ?_⟩
    cases a with
    | non => cases da; simp
    | bl _ => cases da; simp
    | int _ => cases da; simp
    | str _ => cases da; simp
    | tup _ => obtain ⟨a, vs, rfl, _⟩ := da; simp
    | lst _ => obtain ⟨a, vs, rfl, _⟩ := da; simp
    | ref _ => obtain ⟨a, rfl, _⟩ := da; simp
    | glo _ => obtain ⟨a, rfl, _⟩ := da; simp
    | clo _ _ => obtain ⟨a, _, _, rfl, _⟩ := da; simp
  | bl c =>
    cases db
    refine ⟨.inr ⟨c, rfl⟩, decide_eq_decide.mpr ?_⟩
    cases a with
    | non => cases da; simp
    | bl _ => cases da; simp
    | int _ => cases da; simp
    | str _ => cases da; simp
    | tup _ => obtain ⟨a, vs, rfl, _⟩ := da; simp
    | lst _ => obtain ⟨a, vs, rfl, _⟩ := da; simp
    | ref _ => obtain ⟨a, rfl, _⟩ := da; simp
    | glo _ => obtain ⟨a, rfl, _⟩ := da; simp
    | clo _ _ => obtain ⟨a, _, _, rfl, _⟩ := da; simp
  | _ => cases k
theorem o_is : Op2 Γ (rIsK false) oIs := by
  intro W σ H μ h x y a b Q r da db q
  unfold oIs at q
  split at q
  · rename_i k
    obtain ⟨h1, h2⟩ := isK_dec da db k
    refine ⟨h1, ?_⟩
    rw [if_neg Bool.false_ne_true, h2]
    exact good_pure q r rfl
  · exact False.elim q
theorem o_isnot : Op2 Γ (rIsK true) oIsNot := by
  intro W σ H μ h x y a b Q r da db q
  unfold oIsNot at q
  split at q
  · rename_i k
    obtain ⟨h1, h2⟩ := isK_dec da db k
    refine ⟨h1, ?_⟩
    rw [if_pos rfl, h2]
    exact good_pure q r rfl
  · exact False.elim q

/-! ### in, not in -/
def eqF : D → D → Bool
  | .non, .non => true
  | .bl a, .bl b => a == b
  | .bl a, .int b => (if a then 1 else 0) == b
  | .int a, .bl b => a == (if b then 1 else 0)
  | .int a, .int b => a == b
  | .str a, .str b => a == b
  | _, _ => false
def flatD : D → Bool
  | .non => true
  | .bl _ => true
  | .int _ => true
  | .str _ => true
  | _ => false
def getQ (h : List MO) : D → Option (List D)
  | .tup ds => some ds
  | d => getL h d
def oIn (neg : Bool) (a b : D) (h : List MO) : Res D := match a, b with
  | .str [c], .str l => .ok (.bl (if neg then !decide (c ∈ l) else decide (c ∈ l))) h
  | a, b => match getQ h b with
    | some ds => if flatD a && ds.all flatD then .ok (.bl (if neg then !(ds.any fun y => eqF y a) else ds.any fun y => eqF y a)) h else .stuck
    | none => .stuck
theorem getQ_ok (r : Rel Γ H μ h) {d : D} {v : V} {ds : List D} (k : Den Γ μ H v d) (e : getQ h d = some ds) : ∃ a vs, v = .ref a ∧ (SqL Γ.K H a vs ∨ SqT Γ.K H a vs) ∧ Dens Γ μ H vs ds := by
  cases d with
  | tup es =>
    cases e
    obtain ⟨a, vs, rfl, q, t⟩ := k
    exact ⟨a, vs, rfl, .inr q.sq, t⟩
  | _ =>
    obtain ⟨a, vs, e1, q, t⟩ := getL_ok r k e
    exact ⟨a, vs, e1, .inl q, t⟩
theorem flat_ok {a : D} (da : Den Γ μ H x a) (f : flatD a = true) : flatV x = true := by
  cases a with
  | non => cases da; rfl
  | bl _ => cases da; rfl
  | int _ => cases da; rfl
  | str _ => cases da; rfl
  | _ => cases f
theorem eqF_ok {a b : D} (da : Den Γ μ H x a) (db : Den Γ μ H y b) (f : flatD a = true) (g : flatD b = true) : eqV x y = eqF a b := by
  cases a with
  | non => cases da; cases b with
    | non => cases db; rfl
    | bl _ => cases db; rfl
    | int _ => cases db; rfl
    | str _ => cases db; rfl
    | _ => cases g
  | bl _ => cases da; cases b with
    | non => cases db; rfl
    | bl _ => cases db; rfl
    | int _ => cases db; rfl
    | str _ => cases db; rfl
    | _ => cases g
  | int _ => cases da; cases b with
    | non => cases db; rfl
    | bl _ => cases db; rfl
    | int _ => cases db; rfl
    | str _ => cases db; rfl
    | _ => cases g
  | str l => cases da; cases b with
    | non => cases db; rfl
    | bl _ => cases db; rfl
    | int _ => cases db; rfl
    | str m =>
      cases db
      show (S l == S m) = (l == m)
      rw [Bool.eq_iff_iff]
      simp
    | _ => cases g
  | _ => cases f
theorem flats_ok : ∀ {ds : List D} {vs : List V}, Dens Γ μ H vs ds → ds.all flatD = true → vs.all flatV = true
  | [], _, k, _ => by rw [show _ = [] from k]; rfl
  | d :: ds, _, k, f => by
    obtain ⟨v, r, rfl, k1, k2⟩ := k
    rw [List.all_cons, Bool.and_eq_true] at f
    rw [List.all_cons, flat_ok k1 f.1, flats_ok k2 f.2]
    rfl
theorem anyF_ok {a : D} (da : Den Γ μ H x a) (fa : flatD a = true) : ∀ {ds : List D} {vs : List V}, Dens Γ μ H vs ds → ds.all flatD = true → (vs.any fun y => eqV y x) = ds.any fun y => eqF y a
  | [], _, k, _ => by rw [show _ = [] from k]; rfl
  | d :: ds, _, k, f => by
    obtain ⟨v, r, rfl, k1, k2⟩ := k
    rw [List.all_cons, Bool.and_eq_true] at f
    rw [List.any_cons, List.any_cons, eqF_ok k1 da f.1 fa, anyF_ok da fa k2 f.2]
def rInA (K : PySem.W.Frag) (neg : Bool) : R2 := fun x y H Q => (∃ (c : Nat) (z : Str), x = .str ⟨#[c]⟩ ∧ y = .str z ∧ Q (.bl (if neg then !decide (c ∈ z.cps.toList) else decide (c ∈ z.cps.toList))) H) ∨ rIn K neg x y H Q
theorem o_in {neg : Bool} : Op2 Γ (rInA Γ.K neg) (oIn neg) := by
  intro W σ H μ h x y a b Q r da db q
  unfold oIn at q
  split at q
  · cases da; cases db
    refine .inl ⟨_, _, rfl, rfl, good_pure q r ?_⟩
    simp [Den]
  · split at q
    · rename_i ds e
      split at q
      · rename_i f
        rw [Bool.and_eq_true] at f
        obtain ⟨p, vs, rfl, sq, dv⟩ := getQ_ok r db e
        refine .inr ⟨p, vs, rfl, sq, flat_ok da f.1, flats_ok dv f.2, good_pure q r ?_⟩
        unfold inV
        rw [anyF_ok da f.1 dv f.2]
        exact rfl
      · exact False.elim q
    · exact False.elim q
end
theorem op_inA {X : Cx} {Γ : G} (hX : CxG X Γ) : OpR X (compareOp .In) (rInA Γ.K false) := by
  rw [← hX.k]
  exact op_in_sign.or op_in_seq
theorem op_notInA {X : Cx} {Γ : G} (hX : CxG X Γ) : OpR X (compareOp .NotIn) (rInA Γ.K true) := by
  rw [← hX.k]
  exact op_notIn_sign.or op_notIn_seq

/-! ### subscripts -/
def oIx (a b : D) (h : List MO) : Res D := match a, b with
  | .str l, .int i => if l.length ≤ LINE then match atI l i with
      | some c => .ok (.str [c]) h
      | none => .stuck
    else .stuck
  | a, .int i => match getQ h a with
    | some ds => match atI ds i with
      | some d => .ok d h
      | none => .stuck
    | none => .stuck
  | _, _ => .stuck
theorem atI_dens {Γ : G} {μ : List Addr} {H : Hp} {vs : List V} {ds : List D} {i : Int} {d : D} (k : Dens Γ μ H vs ds) (e : atI ds i = some d) : ∃ v, atI vs i = some v ∧ Den Γ μ H v d := by
  unfold atI at e ⊢
  rw [k.length]
  cases q : ixN ds.length i with
  | none => rw [q] at e; cases e
  | some j =>
    rw [q] at e
    exact k.get e
theorem o_ix {Γ : G} : Op2 Γ (rIx Γ.K) oIx := by
  intro W σ H μ h x y a b Q r da db q
  unfold oIx at q
  split at q
  · split at q
    · rename_i hl
      split at q
      · rename_i c e
        cases da; cases db
        refine .inr (.inr ⟨_, _, c, rfl, rfl, by rw [S_len, line_eq]; exact hl, by simpa using e, good_pure q r rfl⟩)
      · exact False.elim q
    · exact False.elim q
  · split at q
    · rename_i ds e
      split at q
      · rename_i d e2
        obtain ⟨p, vs, rfl, sq, dv⟩ := getQ_ok r da e
        cases db
        obtain ⟨v, e3, k⟩ := atI_dens dv e2
        rcases sq with sq | sq
        · exact .inl ⟨p, vs, _, v, rfl, rfl, sq, e3, good_pure q r k⟩
        · exact .inr (.inl ⟨p, vs, _, v, rfl, rfl, sq, e3, good_pure q r k⟩)
      · exact False.elim q
    · exact False.elim q
  · exact False.elim q
theorem ix_all {X : Cx} {Γ : G} (hX : CxG X Γ) : IxR X (rIx Γ.K) := by
  rw [← hX.k]
  exact ix_seq

/-! ### slices -/
def cutD {α : Type} (xs : List α) (lo hi : Option Int) : List α := (xs.drop (HT.sIx xs.length 0 lo)).take (HT.sIx xs.length xs.length hi - HT.sIx xs.length 0 lo)
def oSl (a : D) (lo hi : Option Int) (h : List MO) : Res D := match a with
  | .str l => if l.length ≤ LINE then .ok (.str (cutD l lo hi)) h else .stuck
  | .tup ds => .ok (.tup (cutD ds lo hi)) h
  | a => match getL h a with
    | some ds => .ok (.lst (cutD ds lo hi)) h
    | none => .stuck
/-- a slice's part: left out, or an int -/
def xPart (f : Option ME) : Rho → List MO → Res (Option Int) := fun ρ h => match f with
  | none => .ok none h
  | some f => (f ρ h).bind fun y h2 => match y with
    | .int i => .ok (some i) h2
    | _ => .stuck
def xSl (fa : ME) (fl fu : Option ME) : ME := fun ρ h => (fa ρ h).bind fun x h1 => (xPart fl ρ h1).bind fun l h2 => (xPart fu ρ h2).bind fun u h3 => oSl x l u h3
abbrev tO (Γ : G) (W : WX) (f : Option ME) : TO := match f with
  | none => tNoPart
  | some f => tPart (tE Γ W f)
structure FO (X : Cx) (Γ : G) (W : WX) (e : Option Expr) (f : Option ME) : Prop where
  ok : PO X e (tO Γ W f)
section
variable {X : Cx} {Γ : G} {W : WX}
theorem fo_none : FO X Γ W none none := ⟨po_none⟩
theorem fo_some {e : Expr} {f : ME} (h : FE X Γ W e f) : FO X Γ W (some e) (some f) := ⟨po_some h.ok⟩
def rSlAll (K : PySem.W.Frag) : V → Option Int → Option Int → Hp → VK → Prop := fun x lo hi H Q => rSlL K x lo hi H Q ∨ rSlA K x lo hi H Q ∨ rSlS x lo hi H Q
theorem sl_all (hX : CxG X Γ) : SlR X (rSlAll Γ.K) := by
  rw [← hX.k]
  exact sl_list.or (sl_tupA.or sl_str)
theorem Dens.cut {μ : List Addr} {H : Hp} {vs : List V} {ds : List D} (k : Dens Γ μ H vs ds) (lo hi : Option Int) : Dens Γ μ H (cutV vs lo hi) (cutD ds lo hi) := by
  unfold cutV cutD
  rw [k.length]
  exact (k.drop _).take _
theorem oSl_ok {σ : L2.St} {H : Hp} {μ : List Addr} {h : List MO} {Q : VK} {x : V} {a : D} {lo hi : Option Int} (r : Rel Γ H μ h) (da : Den Γ μ H x a) (q : Good Γ W σ H μ (denE Γ) Q (oSl a lo hi h)) : rSlAll Γ.K x lo hi H (fz Q) := by
  unfold oSl at q
  split at q
  · split at q
    · rename_i l hl
      cases da
      refine .inr (.inr ⟨_, rfl, by rw [S_len, line_eq]; exact hl, .inl (good_pure q r ?_)⟩)
      show V.str (cutS (S l) lo hi) = V.str (S (cutD l lo hi))
      unfold cutS cutD
      simp [Str.length]
    · exact False.elim q
  · rename_i ds
    obtain ⟨p, vs, rfl, tp, dv⟩ := da
    refine .inr (.inl ⟨p, vs, rfl, tp.sq, fun e => ?_, fun _ p hp => .inl (good_tup q r (dv.cut lo hi) p hp)⟩)
    have e2 : cutD ds lo hi = ds := by
      unfold cutD
      rw [← dv.length, e.1, e.2, List.drop_zero, Nat.sub_zero, dv.length, List.take_length]
    rw [e2] at q
    exact .inl (good_pure q r ⟨p, vs, rfl, tp, dv⟩)
  · split at q
    · rename_i ds e
      obtain ⟨p, vs, rfl, sq, dv⟩ := getL_ok r da e
      exact .inl ⟨p, vs, rfl, sq, good_lst q r (dv.cut lo hi)⟩
    · exact False.elim q
theorem part_ok {σ : L2.St} {H : Hp} {μ : List Addr} {ρ : Rho} {h : List MO} {f : Option ME} {R : Option Int → Hp → Prop} {α β : Type} {den : Hp → List Addr → β → α → Prop} {Q : β → Hp → Prop} {k : Option Int → List MO → Res α} (he : EnvOk Γ μ H σ ρ) (hr : Rel Γ H μ h)
    (q : Good Γ W σ H μ den Q ((xPart f ρ h).bind k))
    (next : ∀ o h1 H1 μ1, Ext H μ H1 μ1 → Rel Γ H1 μ1 h1 → Good Γ W σ H1 μ1 den Q (k o h1) → R o H1) : tO Γ W f σ H R := by
  cases f with
  | none => exact next none h H μ (Ext.refl _ _) hr q
  | some f =>
    have q' : Good Γ W σ H μ den Q ((f ρ h).bind fun y h2 => (match y with | .int i => Res.ok (some i) h2 | _ => .stuck).bind k) := by
      have e : (xPart (some f) ρ h).bind k = (f ρ h).bind fun y h2 => (match y with | .int i => Res.ok (some i) h2 | _ => .stuck).bind k := by
        exact Res.bind_assoc _ _ _
      rw [← e]; exact q
    refine ⟨ρ, h, μ, he, hr, Good.bind q' fun a h1 x H1 μ1 _ e1 r1 d1 q1 => ?_⟩
    cases a with
    | int i => exact ⟨i, d1, next (some i) h1 H1 μ1 e1 r1 q1⟩
    | _ => exact False.elim q1
theorem fe_slice {a : Expr} {lo hi : Option Expr} {fa : ME} {fl fu : Option ME} {p2 pos : Pos} (hX : CxG X Γ) (ha : FE X Γ W a fa) (hl : FO X Γ W lo fl) (hu : FO X Γ W hi fu) : FE X Γ W (.Subscript a (.Slice lo hi none p2) pos) (xSl fa fl fu) := by
  refine ⟨(pe_slice (sl_all hX) ha.ok hl.ok hu.ok).fz.imp fun σ H Q q => ?_⟩
  obtain ⟨ρ, h, μ, he, hr, q⟩ := q
  refine ⟨ρ, h, μ, he, hr, Good.bind q fun a h1 x H1 μ1 _ e1 r1 d1 q1 => ?_⟩
  refine part_ok (he.mono e1) r1 q1 fun l h2 H2 μ2 e2 r2 q2 => ?_
  refine part_ok ((he.mono e1).mono e2) r2 q2 fun u h3 H3 μ3 e3 r3 q3 => ?_
  exact oSl_ok r3 ((d1.mono e2).mono e3) q3

/-! ### tests -/
/-- a comparison or another value that is a bool, as a test -/
def xTest (f : ME) : MT := fun ρ h => (f ρ h).bind fun d h1 => match d with
  | .bl b => .ok b h1
  | _ => .stuck
theorem test_run {f : ME} {σ : L2.St} {H : Hp} {Q : Bool → Hp → Prop} (q : tT Γ W (xTest f) σ H Q) : tE Γ W f σ H fun x H' => ∃ k, x = .bl k ∧ Q k H' := by
  obtain ⟨ρ, h, μ, he, hr, q⟩ := q
  refine ⟨ρ, h, μ, he, hr, Good.bind q fun a h1 x H1 μ1 _ e1 r1 d1 q1 => ?_⟩
  cases a with
  | bl b => exact ⟨b, d1, q1 b H1 μ1 (Ext.refl _ _) r1 rfl⟩
  | _ => exact False.elim q1
theorem ft_val {e : Expr} {f : ME} (h : FE X Γ W e f) (he : ∀ whole, isTrue e X.env whole = (do let v ← whole; standAt e.pos; holding [v] (truthy v)) := by intro _; rfl) : FT X Γ W e (xTest f) :=
  ⟨(pt_val h.ok he).imp fun σ H Q q => test_run q⟩
theorem ft_cmp {op : CmpOp} {a b : Expr} {fa fb : ME} {pos : Pos} {r : R2} {g : D → D → List MO → Res D} (ho : OpR X (compareOp op) r) (hg : Op2 Γ r g) (ha : FE X Γ W a fa) (hb : FE X Γ W b fb) (hm : behindInMarks op b = false) : FT X Γ W (.Compare a [op] [b] pos) (xTest (xOp2 g fa fb)) := by
  refine ⟨(pt_cmpR ho ha.ok hb.ok hm).imp fun σ H Q q => ?_⟩
  obtain ⟨ρ, h, μ, he, hr, q⟩ := q
  exact op2_run hg (test_run ⟨ρ, h, μ, he, hr, q⟩)
/-- a value of any kind, as a test -/
def truD (h : List MO) : D → Option Bool
  | .non => some false
  | .bl b => some b
  | .int i => some (i != 0)
  | .str l => if l.length ≤ LINE then some (!l.isEmpty) else none
  | .tup ds => some (!ds.isEmpty)
  | d => (getL h d).map fun ds => !ds.isEmpty
def xTru (f : ME) : MT := fun ρ h => (f ρ h).bind fun d h1 => match truD h1 d with
  | some b => .ok b h1
  | none => .stuck
theorem dens_empty {μ : List Addr} {H : Hp} {vs : List V} {ds : List D} (k : Dens Γ μ H vs ds) : (!vs.isEmpty) = !ds.isEmpty := by
  have := k.length
  cases vs <;> cases ds <;> simp_all
theorem tru_of {H : Hp} {μ : List Addr} {h : List MO} {x : V} {d : D} {b : Bool} (r : Rel Γ H μ h) (k : Den Γ μ H x d) (e : truD h d = some b) : TruV Γ.K x H b := by
  have lists : ∀ ds, getL h d = some ds → b = (!ds.isEmpty) → TruV Γ.K x H b := fun ds e1 e2 => by
    obtain ⟨a, vs, rfl, sq, dv⟩ := getL_ok r k e1
    exact .inl ⟨vs, sq, by rw [e2, dens_empty dv]⟩
  cases d with
  | non => cases k; cases e; rfl
  | bl _ => cases k; cases e; rfl
  | int _ => cases k; cases e; rfl
  | str l =>
    cases k
    have e : (if l.length ≤ LINE then some (!l.isEmpty) else none) = some b := e
    split at e
    · rename_i hl
      cases e
      refine ⟨by rw [S_len, line_eq]; exact hl, ?_⟩
      rw [S_len]
      cases l with
      | nil => rfl
      | cons a l =>
        show true = _
        rw [List.length_cons]
        symm
        rw [bne_iff_ne]
        omega
    · cases e
  | tup ds =>
    obtain ⟨a, vs, rfl, tp, dv⟩ := k
    cases e
    exact .inr (.inl ⟨vs, tp.sq, (dens_empty dv).symm⟩)
  | lst ds => exact lists ds rfl (by cases e; rfl)
  | ref i =>
    have e' : (getL h (.ref i)).map (fun ds => !ds.isEmpty) = some b := e
    cases q : getL h (.ref i) with
    | none => rw [q] at e'; cases e'
    | some ds => rw [q] at e'; cases e'; exact lists ds q rfl
  | glo _ => cases e
  | clo _ _ => cases e
theorem ft_tru {e : Expr} {f : ME} (hX : CxG X Γ) (h : FE X Γ W e f) (he : ∀ whole, isTrue e X.env whole = (do let v ← whole; standAt e.pos; holding [v] (truthy v)) := by intro _; rfl) : FT X Γ W e (xTru f) := by
  refine ⟨(pt_truth h.ok he).imp fun σ H Q q => ?_⟩
  obtain ⟨ρ, h, μ, he, hr, q⟩ := q
  refine ⟨ρ, h, μ, he, hr, Good.bind q fun a h1 x H1 μ1 _ e1 r1 d1 q1 => ?_⟩
  split at q1
  · rename_i b eb
    refine ⟨b, ?_, q1 b H1 μ1 (Ext.refl _ _) r1 rfl⟩
    rw [hX.k]
    exact tru_of r1 d1 eb
  · exact False.elim q1
def xAnd (a b : MT) : MT := fun ρ h => (a ρ h).bind fun c h1 => if c then b ρ h1 else .ok false h1
def xOr (a b : MT) : MT := fun ρ h => (a ρ h).bind fun c h1 => if c then .ok true h1 else b ρ h1
def xNot (a : MT) : MT := fun ρ h => (a ρ h).bind fun c h1 => .ok (!c) h1
structure FW (X : Cx) (Γ : G) (W : WX) (e : Expr) (f : MT) : Prop where
  ok : PW X e (tT Γ W f)
theorem ft_w {e : Expr} {f : MT} (h : FW X Γ W e f) : FT X Γ W e f := ⟨h.ok.pt⟩
theorem fw_and1 {a : Expr} {fa : MT} {pos : Pos} (ha : FT X Γ W a fa) : FW X Γ W (.BoolOp .And [a] pos) fa := ⟨pw_and1 ha.ok⟩
theorem fw_or1 {a : Expr} {fa : MT} {pos : Pos} (ha : FT X Γ W a fa) : FW X Γ W (.BoolOp .Or [a] pos) fa := ⟨pw_or1 ha.ok⟩
theorem fw_and {a b : Expr} {rest : List Expr} {fa fb : MT} {pos : Pos} (ha : FT X Γ W a fa) (hb : FW X Γ W (.BoolOp .And (b :: rest) pos) fb) : FW X Γ W (.BoolOp .And (a :: b :: rest) pos) (xAnd fa fb) := by
  refine ⟨(pw_and ha.ok hb.ok).imp fun σ H Q q => ?_⟩
  obtain ⟨ρ, h, μ, he, hr, q⟩ := q
  refine ⟨ρ, h, μ, he, hr, Good.bind q fun a h1 x H1 μ1 _ e1 r1 d1 q1 => ?_⟩
  cases (show x = a from d1)
  cases a with
  | true => exact ⟨ρ, h1, μ1, he.mono e1, r1, q1⟩
  | false => exact q1 false H1 μ1 (Ext.refl _ _) r1 rfl
theorem fw_or {a b : Expr} {rest : List Expr} {fa fb : MT} {pos : Pos} (ha : FT X Γ W a fa) (hb : FW X Γ W (.BoolOp .Or (b :: rest) pos) fb) : FW X Γ W (.BoolOp .Or (a :: b :: rest) pos) (xOr fa fb) := by
  refine ⟨(pw_or ha.ok hb.ok).imp fun σ H Q q => ?_⟩
  obtain ⟨ρ, h, μ, he, hr, q⟩ := q
  refine ⟨ρ, h, μ, he, hr, Good.bind q fun a h1 x H1 μ1 _ e1 r1 d1 q1 => ?_⟩
  cases (show x = a from d1)
  cases a with
  | false => exact ⟨ρ, h1, μ1, he.mono e1, r1, q1⟩
  | true => exact q1 true H1 μ1 (Ext.refl _ _) r1 rfl
theorem ft_not {a : Expr} {fa : MT} {pos : Pos} (ha : FT X Γ W a fa) : FT X Γ W (.UnaryOp .Not a pos) (xNot fa) := by
  refine ⟨(pt_not ha.ok).imp fun σ H Q q => ?_⟩
  obtain ⟨ρ, h, μ, he, hr, q⟩ := q
  refine ⟨ρ, h, μ, he, hr, Good.bind q fun a h1 x H1 μ1 _ e1 r1 d1 q1 => ?_⟩
  cases (show x = a from d1)
  exact q1 _ H1 μ1 (Ext.refl _ _) r1 rfl
def xIf (c : MT) (a b : ME) : ME := fun ρ h => (c ρ h).bind fun t h1 => if t then a ρ h1 else b ρ h1
theorem fe_if {c a b : Expr} {fc : MT} {fa fb : ME} {pos : Pos} (hc : FT X Γ W c fc) (ha : FE X Γ W a fa) (hb : FE X Γ W b fb) : FE X Γ W (.IfExp c a b pos) (xIf fc fa fb) := by
  refine ⟨(pe_ifExp hc.ok ha.ok hb.ok).imp fun σ H Q q => ?_⟩
  obtain ⟨ρ, h, μ, he, hr, q⟩ := q
  refine ⟨ρ, h, μ, he, hr, Good.bind q fun a h1 x H1 μ1 _ e1 r1 d1 q1 => ?_⟩
  cases (show x = a from d1)
  cases a with
  | true => exact ⟨ρ, h1, μ1, he.mono e1, r1, q1⟩
  | false => exact ⟨ρ, h1, μ1, he.mono e1, r1, q1⟩
/-- and, or, not as values: bools -/
def xAndV (a b : ME) : ME := fun ρ h => (a ρ h).bind fun d h1 => match d with
  | .bl true => b ρ h1
  | .bl false => .ok (.bl false) h1
  | _ => .stuck
def xOrV (a b : ME) : ME := fun ρ h => (a ρ h).bind fun d h1 => match d with
  | .bl true => .ok (.bl true) h1
  | .bl false => b ρ h1
  | _ => .stuck
def xNotV (a : ME) : ME := fun ρ h => (a ρ h).bind fun d h1 => match d with
  | .bl b => .ok (.bl (!b)) h1
  | _ => .stuck
theorem fe_one {op} {a : Expr} {fa : ME} {pos : Pos} (ha : FE X Γ W a fa) : FE X Γ W (.BoolOp op [a] pos) fa := ⟨pe_one ha.ok⟩
theorem fe_and {a b : Expr} {rest : List Expr} {fa fb : ME} {pos : Pos} (ha : FE X Γ W a fa) (hb : FE X Γ W (.BoolOp .And (b :: rest) pos) fb) : FE X Γ W (.BoolOp .And (a :: b :: rest) pos) (xAndV fa fb) := by
  refine ⟨(pe_and ha.ok hb.ok).imp fun σ H Q q => ?_⟩
  obtain ⟨ρ, h, μ, he, hr, q⟩ := q
  refine ⟨ρ, h, μ, he, hr, Good.bind q fun a h1 x H1 μ1 _ e1 r1 d1 q1 => ?_⟩
  split at q1
  · exact ⟨true, d1, ⟨ρ, h1, μ1, he.mono e1, r1, q1⟩⟩
  · exact ⟨false, d1, q1 _ H1 μ1 (Ext.refl _ _) r1 rfl⟩
  · exact False.elim q1
theorem fe_or {a b : Expr} {rest : List Expr} {fa fb : ME} {pos : Pos} (ha : FE X Γ W a fa) (hb : FE X Γ W (.BoolOp .Or (b :: rest) pos) fb) : FE X Γ W (.BoolOp .Or (a :: b :: rest) pos) (xOrV fa fb) := by
  refine ⟨(pe_or ha.ok hb.ok).imp fun σ H Q q => ?_⟩
  obtain ⟨ρ, h, μ, he, hr, q⟩ := q
  refine ⟨ρ, h, μ, he, hr, Good.bind q fun a h1 x H1 μ1 _ e1 r1 d1 q1 => ?_⟩
  split at q1
  · exact ⟨true, d1, q1 _ H1 μ1 (Ext.refl _ _) r1 rfl⟩
  · exact ⟨false, d1, ⟨ρ, h1, μ1, he.mono e1, r1, q1⟩⟩
  · exact False.elim q1
theorem fe_not {a : Expr} {fa : ME} {pos : Pos} (ha : FE X Γ W a fa) : FE X Γ W (.UnaryOp .Not a pos) (xNotV fa) := by
  refine ⟨(pe_not ha.ok).imp fun σ H Q q => ?_⟩
  obtain ⟨ρ, h, μ, he, hr, q⟩ := q
  refine ⟨ρ, h, μ, he, hr, Good.bind q fun a h1 x H1 μ1 _ e1 r1 d1 q1 => ?_⟩
  split at q1
  · exact ⟨_, d1, q1 _ H1 μ1 (Ext.refl _ _) r1 rfl⟩
  · exact False.elim q1

/-! ### a chain -/
def xChain (g g' : D → D → List MO → Res D) (fa fb fc : ME) : ME := fun ρ h => (fa ρ h).bind fun x h1 => (fb ρ h1).bind fun y h2 => (g x y h2).bind fun z h3 => match z with
  | .bl true => (fc ρ h3).bind fun w h4 => g' y w h4
  | .bl false => .ok (.bl false) h3
  | _ => .stuck
theorem chain_run {g g' : D → D → List MO → Res D} {fa fb fc : ME} {r r' : R2} (hg : Op2 Γ r g) (hg' : Op2 Γ r' g') {σ : L2.St} {H : Hp} {Q : VK} (q : tE Γ W (xChain g g' fa fb fc) σ H Q) : tChain r r' (tE Γ W fa) (tE Γ W fb) (tE Γ W fc) σ H Q := by
  obtain ⟨ρ, h, μ, he, hr, q⟩ := q
  refine ⟨ρ, h, μ, he, hr, Good.bind q fun a h1 x H1 μ1 _ e1 r1 d1 q1 => ?_⟩
  refine ⟨ρ, h1, μ1, he.mono e1, r1, Good.bind q1 fun b h2 y H2 μ2 _ e2 r2 d2 q2 => ?_⟩
  refine hg W σ H2 μ2 h2 x y a b _ r2 (d1.mono e2) d2 (Good.bind q2 fun z h3 zv H3 μ3 _ e3 r3 d3 q3 => ?_)
  split at q3
  · refine ⟨true, d3, ?_⟩
    rw [if_pos rfl]
    refine ⟨ρ, h3, μ3, ((he.mono e1).mono e2).mono e3, r3, Good.bind q3 fun c h4 w' H4 μ4 _ e4 r4 d4 q4 => ?_⟩
    exact hg' W σ H4 μ4 h4 y w' b c Q r4 ((d2.mono e3).mono e4) d4 q4
  · refine ⟨false, d3, ?_⟩
    rw [if_neg Bool.false_ne_true]
    exact q3 _ H3 μ3 (Ext.refl _ _) r3 rfl
  · exact False.elim q3
theorem fe_chain {op op' : CmpOp} {a b c : Expr} {fa fb fc : ME} {pos : Pos} {r r' : R2} {g g' : D → D → List MO → Res D} (ho : OpR X (compareOp op) r) (ho' : OpR X (compareOp op') r') (hg : Op2 Γ r g) (hg' : Op2 Γ r' g')
    (ha : FE X Γ W a fa) (hb : FE X Γ W b fb) (hc : FE X Γ W c fc) (hm : lastMarks [op, op'] [b, c] = false := by with_unfolding_all rfl) : FE X Γ W (.Compare a [op, op'] [b, c] pos) (xChain g g' fa fb fc) :=
  ⟨(pe_chain ho ho' ha.ok hb.ok hc.ok hm).imp fun _ _ _ q => chain_run hg hg' q⟩
theorem ft_chain {op op' : CmpOp} {a b c : Expr} {fa fb fc : ME} {pos : Pos} {r r' : R2} {g g' : D → D → List MO → Res D} (ho : OpR X (compareOp op) r) (ho' : OpR X (compareOp op') r') (hg : Op2 Γ r g) (hg' : Op2 Γ r' g')
    (ha : FE X Γ W a fa) (hb : FE X Γ W b fb) (hc : FE X Γ W c fc) (hm : lastMarks [op, op'] [b, c] = false := by with_unfolding_all rfl) : FT X Γ W (.Compare a [op, op'] [b, c] pos) (xTest (xChain g g' fa fb fc)) :=
  ⟨(pt_chain ho ho' ha.ok hb.ok hc.ok hm).imp fun σ H Q q => by
    have q' := test_run q
    exact chain_run hg hg' q'⟩

/-! ### argument lists, displays -/
def aNil : MA := fun _ h => .ok [] h
def aCons (f : ME) (g : MA) : MA := fun ρ h => (f ρ h).bind fun d h1 => (g ρ h1).bind fun ds h2 => .ok (d :: ds) h2
theorem fa_nil : FA X Γ W [] aNil := by
  refine ⟨pa_nil.imp fun σ H Q q => ?_⟩
  obtain ⟨ρ, h, μ, he, hr, q⟩ := q
  exact q [] H μ (Ext.refl _ _) hr rfl
theorem fa_cons {e : Expr} {es : List Expr} {f : ME} {g : MA} (he : FE X Γ W e f) (hg : FA X Γ W es g) (hs : starEach (e :: es) X.env = (false, eval e X.env) :: starEach es X.env := by rfl) : FA X Γ W (e :: es) (aCons f g) := by
  refine ⟨(pa_cons he.ok hg.ok hs).imp fun σ H Q q => ?_⟩
  obtain ⟨ρ, h, μ, he, hr, q⟩ := q
  refine ⟨ρ, h, μ, he, hr, Good.bind q fun a h1 x H1 μ1 _ e1 r1 d1 q1 => ?_⟩
  refine ⟨ρ, h1, μ1, he.mono e1, r1, Good.bind q1 fun b h2 y H2 μ2 _ e2 r2 d2 q2 => ?_⟩
  exact q2 (x :: y) H2 μ2 (Ext.refl _ _) r2 ⟨x, y, rfl, d1.mono e2, d2⟩
def xTup (f : MA) : ME := fun ρ h => (f ρ h).bind fun ds h1 => if ds.length ≤ LINE then .ok (.tup ds) h1 else .stuck
def xLst (f : MA) : ME := fun ρ h => (f ρ h).bind fun ds h1 => if ds.length ≤ LINE then .ok (.lst ds) h1 else .stuck
/-- a list that will change -/
def xNew (f : MA) : ME := fun ρ h => (f ρ h).bind fun ds h1 => if ds.length ≤ LINE then .ok (.ref h1.length) (h1 ++ [.lst ds]) else .stuck
theorem fe_tup {es : List Expr} {f : MA} {x1} {pos : Pos} (h : FA X Γ W es f) : FE X Γ W (.Tuple es x1 pos) (xTup f) := by
  refine ⟨(pe_tup h.ok).imp fun σ H Q q => ?_⟩
  obtain ⟨ρ, h, μ, he, hr, q⟩ := q
  refine ⟨ρ, h, μ, he, hr, Good.bind q fun a h1 x H1 μ1 _ e1 r1 d1 q1 => ?_⟩
  split at q1
  · rename_i hl
    exact ⟨by rw [line_eq, d1.length]; exact hl, good_tup q1 r1 d1⟩
  · exact False.elim q1
theorem fe_lst {es : List Expr} {f : MA} {pos : Pos} (h : FA X Γ W es f) : FE X Γ W (.List es pos) (xLst f) := by
  refine ⟨(pe_lst h.ok).fz.imp fun σ H Q q => ?_⟩
  obtain ⟨ρ, h, μ, he, hr, q⟩ := q
  refine ⟨ρ, h, μ, he, hr, Good.bind q fun a h1 x H1 μ1 _ e1 r1 d1 q1 => ?_⟩
  split at q1
  · rename_i hl
    exact ⟨by rw [line_eq, d1.length]; exact hl, good_lst q1 r1 d1⟩
  · exact False.elim q1
theorem fe_new {es : List Expr} {f : MA} {pos : Pos} (h : FA X Γ W es f) : FE X Γ W (.List es pos) (xNew f) := by
  refine ⟨(pe_lst h.ok).imp fun σ H Q q => ?_⟩
  obtain ⟨ρ, h, μ, he, hr, q⟩ := q
  refine ⟨ρ, h, μ, he, hr, Good.bind q fun a h1 x H1 μ1 _ e1 r1 d1 q1 => ?_⟩
  split at q1
  · rename_i hl
    exact ⟨by rw [line_eq, d1.length]; exact hl, good_new q1 r1 d1⟩
  · exact False.elim q1
end
end MP
end
section
set_option Elab.async false
set_option linter.all false
set_option maxRecDepth 100000
set_option maxHeartbeats 1000000
/-! M6: calls of built-ins, methods. -/
namespace MP
open PySem PySem.Spec PyProof.Rows L2

def xCB (g : List D → List MO → Res D) (fa : MA) : ME := fun ρ h => (fa ρ h).bind fun ds h1 => g ds h1
def OpC (Γ : G) (r : List V → Hp → VK → Prop) (g : List D → List MO → Res D) : Prop := ∀ (W : WX) (σ : L2.St) (H : Hp) (μ : List Addr) (h : List MO) (xs : List V) (ds : List D) (Q : VK), Rel Γ H μ h → Dens Γ μ H xs ds → Good Γ W σ H μ (denE Γ) Q (g ds h) → r xs H Q
section
variable {X : Cx} {Γ : G} {W : WX}
theorem cb_run {g : List D → List MO → Res D} {fa : MA} {r : List V → Hp → VK → Prop} (hg : OpC Γ r g) {σ : L2.St} {H : Hp} {Q : VK} (q : tE Γ W (xCB g fa) σ H Q) : tCB r (tA Γ W fa) σ H Q := by
  obtain ⟨ρ, h, μ, he, hr, q⟩ := q
  refine ⟨ρ, h, μ, he, hr, Good.bind q fun a h1 x H1 μ1 _ e1 r1 d1 q1 => ?_⟩
  exact hg W σ H1 μ1 h1 x a Q r1 d1 q1
theorem fe_callB {x : Str} {id : String} {e : Expr} {es : List Expr} {p pos : Pos} {r : List V → Hp → VK → Prop} {g : List D → List MO → Res D} {fa : MA} (hc : CallR X (.builtin id) r) (hgo : OpC Γ r g) (hg : Gl X x) (hm : X.mg x = none) (hv : bootBuiltins x = some (.builtin id)) (ha : FA X Γ W (e :: es) fa)
    (hn : x ≠ "__name__" := by decide) (hdb : (x == ("__debug__" : Str)) = false := by decide)
    (he : starEach (e :: es) X.env = (false, eval e X.env) :: starEach es X.env := by rfl) (hpl : (backTo pos (starEach es X.env)).any (·.1) = false := by rfl) : FE X Γ W (.Call (.Name x p) (e :: es) [] pos) (xCB g fa) :=
  ⟨(pe_callB hc hg hm hv ha.ok hn hdb he hpl).imp fun _ _ _ q => cb_run hgo q⟩
theorem fe_callT {x : Str} {id : String} {e : Expr} {es : List Expr} {p pos : Pos} {r : List V → Hp → VK → Prop} {g : List D → List MO → Res D} {fa : MA} (hc : CallR X (.type id) r) (hgo : OpC Γ r g) (hg : Gl X x) (hm : X.mg x = none) (hv : bootBuiltins x = some (.type id)) (ha : FA X Γ W (e :: es) fa)
    (hn : x ≠ "__name__" := by decide) (hdb : (x == ("__debug__" : Str)) = false := by decide)
    (he : starEach (e :: es) X.env = (false, eval e X.env) :: starEach es X.env := by rfl) (hpl : (backTo pos (starEach es X.env)).any (·.1) = false := by rfl) : FE X Γ W (.Call (.Name x p) (e :: es) [] pos) (xCB g fa) :=
  ⟨(pe_callTy hc hg hm hv ha.ok hn hdb he hpl).imp fun _ _ _ q => cb_run hgo q⟩
theorem fe_callTz {x : Str} {id : String} {e : Expr} {es : List Expr} {p pos : Pos} {r : List V → Hp → VK → Prop} {g : List D → List MO → Res D} {fa : MA} (hc : CallR X (.type id) r) (hgo : OpC Γ (fun xs H Q => r xs H (fz Q)) g) (hg : Gl X x) (hm : X.mg x = none) (hv : bootBuiltins x = some (.type id)) (ha : FA X Γ W (e :: es) fa)
    (hn : x ≠ "__name__" := by decide) (hdb : (x == ("__debug__" : Str)) = false := by decide)
    (he : starEach (e :: es) X.env = (false, eval e X.env) :: starEach es X.env := by rfl) (hpl : (backTo pos (starEach es X.env)).any (·.1) = false := by rfl) : FE X Γ W (.Call (.Name x p) (e :: es) [] pos) (xCB g fa) :=
  ⟨(pe_callTy hc hg hm hv ha.ok hn hdb he hpl).fz.imp fun _ _ _ q => cb_run (r := fun xs H Q => r xs H (fz Q)) hgo q⟩
end
theorem dens1 {Γ : G} {μ : List Addr} {H : Hp} {xs : List V} {d : D} (k : Dens Γ μ H xs [d]) : ∃ v, xs = [v] ∧ Den Γ μ H v d := by
  obtain ⟨v, r, rfl, k1, k2⟩ := k
  rw [show r = [] from k2]
  exact ⟨v, rfl, k1⟩
theorem dens2 {Γ : G} {μ : List Addr} {H : Hp} {xs : List V} {d e : D} (k : Dens Γ μ H xs [d, e]) : ∃ v w, xs = [v, w] ∧ Den Γ μ H v d ∧ Den Γ μ H w e := by
  obtain ⟨v, r, rfl, k1, k2⟩ := k
  obtain ⟨w, rfl, k3⟩ := dens1 k2
  exact ⟨v, w, rfl, k1, k3⟩
/-- the intsD of a list -/
def intsD : List D → Option (List Int)
  | [] => some []
  | .int i :: ds => (intsD ds).map (i :: ·)
  | _ :: _ => none
def blsD : List D → Option (List Bool)
  | [] => some []
  | .bl i :: ds => (blsD ds).map (i :: ·)
  | _ :: _ => none
def strsD : List D → Option (List (List Nat))
  | [] => some []
  | .str i :: ds => (strsD ds).map (i :: ·)
  | _ :: _ => none
theorem ints_ok {Γ : G} {μ : List Addr} {H : Hp} : ∀ {ds : List D} {vs : List V} {ns : List Int}, Dens Γ μ H vs ds → intsD ds = some ns → vs = ns.map V.int
  | [], _, _, k, e => by cases e; exact k
  | d :: ds, _, ns, k, e => by
    obtain ⟨v, r, rfl, k1, k2⟩ := k
    cases d with
    | int i =>
      have e' : (intsD ds).map (i :: ·) = some ns := e
      cases q : intsD ds with
      | none => rw [q] at e'; cases e'
      | some ms =>
        rw [q] at e'; cases e'
        cases k1
        rw [ints_ok k2 q]; rfl
    | _ => cases e
theorem bls_ok {Γ : G} {μ : List Addr} {H : Hp} : ∀ {ds : List D} {vs : List V} {ns : List Bool}, Dens Γ μ H vs ds → blsD ds = some ns → vs = ns.map V.bl
  | [], _, _, k, e => by cases e; exact k
  | d :: ds, _, ns, k, e => by
    obtain ⟨v, r, rfl, k1, k2⟩ := k
    cases d with
    | bl i =>
      have e' : (blsD ds).map (i :: ·) = some ns := e
      cases q : blsD ds with
      | none => rw [q] at e'; cases e'
      | some ms =>
        rw [q] at e'; cases e'
        cases k1
        rw [bls_ok k2 q]; rfl
    | _ => cases e
theorem strs_ok {Γ : G} {μ : List Addr} {H : Hp} : ∀ {ds : List D} {vs : List V} {ns : List (List Nat)}, Dens Γ μ H vs ds → strsD ds = some ns → vs = (ns.map S).map V.str
  | [], _, _, k, e => by cases e; exact k
  | d :: ds, _, ns, k, e => by
    obtain ⟨v, r, rfl, k1, k2⟩ := k
    cases d with
    | str i =>
      have e' : (strsD ds).map (i :: ·) = some ns := e
      cases q : strsD ds with
      | none => rw [q] at e'; cases e'
      | some ms =>
        rw [q] at e'; cases e'
        cases k1
        rw [strs_ok k2 q]; rfl
    | _ => cases e
/-- the greatest, the least of some -/
def maxI : List Int → Int
  | [] => 0
  | [a] => a
  | a :: r => max a (maxI r)
def minI : List Int → Int
  | [] => 0
  | [a] => a
  | a :: r => min a (minI r)
theorem maxI_ok : ∀ {ns : List Int}, ns ≠ [] → maxI ns ∈ ns ∧ ∀ y ∈ ns, y ≤ maxI ns
  | [], h => absurd rfl h
  | [a], _ => by simp [maxI]
  | a :: b :: r, _ => by
    obtain ⟨h1, h2⟩ := maxI_ok (ns := b :: r) (List.cons_ne_nil _ _)
    have e : maxI (a :: b :: r) = max a (maxI (b :: r)) := rfl
    rw [e]
    refine ⟨?_, fun y hy => ?_⟩
    · by_cases c : a ≤ maxI (b :: r)
      · rw [Int.max_eq_right c]; exact List.mem_cons_of_mem _ h1
      · rw [Int.max_eq_left (by omega)]; exact List.mem_cons_self
    · rcases List.mem_cons.mp hy with rfl | hy
      · exact Int.le_max_left _ _
      · exact Int.le_trans (h2 y hy) (Int.le_max_right _ _)
theorem minI_ok : ∀ {ns : List Int}, ns ≠ [] → minI ns ∈ ns ∧ ∀ y ∈ ns, minI ns ≤ y
  | [], h => absurd rfl h
  | [a], _ => by simp [minI]
  | a :: b :: r, _ => by
    obtain ⟨h1, h2⟩ := minI_ok (ns := b :: r) (List.cons_ne_nil _ _)
    have e : minI (a :: b :: r) = min a (minI (b :: r)) := rfl
    rw [e]
    refine ⟨?_, fun y hy => ?_⟩
    · by_cases c : a ≤ minI (b :: r)
      · rw [Int.min_eq_left c]; exact List.mem_cons_self
      · rw [Int.min_eq_right (by omega)]; exact List.mem_cons_of_mem _ h1
    · rcases List.mem_cons.mp hy with rfl | hy
      · exact Int.min_le_left _ _
      · exact Int.le_trans (Int.min_le_right _ _) (h2 y hy)
def oLen : List D → List MO → Res D
  | [.str l], h => if l.length ≤ LINE then .ok (.int l.length) h else .stuck
  | [d], h => match getQ h d with
    | some ds => .ok (.int ds.length) h
    | none => .stuck
  | _, _ => .stuck
def oAbs : List D → List MO → Res D
  | [.int i], h => .ok (.int i.natAbs) h
  | _, _ => .stuck
def oInt : List D → List MO → Res D
  | [.int i], h => .ok (.int i) h
  | [.bl b], h => .ok (.int (if b then 1 else 0)) h
  | _, _ => .stuck
def oTuple : List D → List MO → Res D
  | [.tup ds], h => .ok (.tup ds) h
  | [d], h => match getL h d with
    | some ds => .ok (.tup ds) h
    | none => .stuck
  | _, _ => .stuck
def oList : List D → List MO → Res D
  | [d], h => match getQ h d with
    | some ds => .ok (.lst ds) h
    | none => .stuck
  | _, _ => .stuck
def oListN : List D → List MO → Res D
  | [d], h => match getQ h d with
    | some ds => .ok (.ref h.length) (h ++ [.lst ds])
    | none => .stuck
  | _, _ => .stuck
def oMax : List D → List MO → Res D
  | [.int i, .int j], h => .ok (.int (max i j)) h
  | [d], h => match (getL h d).bind intsD with
    | some (n :: ns) => .ok (.int (maxI (n :: ns))) h
    | _ => .stuck
  | _, _ => .stuck
def oMin : List D → List MO → Res D
  | [.int i, .int j], h => .ok (.int (min i j)) h
  | [d], h => match (getL h d).bind intsD with
    | some (n :: ns) => .ok (.int (minI (n :: ns))) h
    | _ => .stuck
  | _, _ => .stuck
def oSum : List D → List MO → Res D
  | [d], h => match (getL h d).bind intsD with
    | some ns => .ok (.int ns.sum) h
    | none => .stuck
  | _, _ => .stuck
def oAll : List D → List MO → Res D
  | [d], h => match (getL h d).bind blsD with
    | some ns => .ok (.bl (ns.all id)) h
    | none => .stuck
  | _, _ => .stuck
def oAny : List D → List MO → Res D
  | [d], h => match (getL h d).bind blsD with
    | some ns => .ok (.bl (ns.any id)) h
    | none => .stuck
  | _, _ => .stuck
def oStr : List D → List MO → Res D
  | [.int i], h => if i.natAbs.log2 < 1920 then .ok (.str (Str.ofString (toString i)).cps.toList) h else .stuck
  | _, _ => .stuck
section
variable {Γ : G}
theorem o_len {X : Cx} (hX : CxG X Γ) : OpC Γ (fun xs H Q => ∃ x n, xs = [x] ∧ LenV X.K x H n ∧ Q (.int n) H) oLen := by
  intro W σ H μ h xs ds Q r k q
  unfold oLen at q
  split at q
  · split at q
    · rename_i hl
      obtain ⟨v, rfl, k1⟩ := dens1 k
      cases k1
      refine ⟨_, _, rfl, ⟨by rw [S_len, line_eq]; exact hl, rfl⟩, ?_⟩
      rw [S_len]
      exact good_pure q r rfl
    · exact False.elim q
  · split at q
    · rename_i es e
      obtain ⟨v, rfl, k1⟩ := dens1 k
      obtain ⟨a, vs, rfl, sq, dv⟩ := getQ_ok r k1 e
      refine ⟨_, es.length, rfl, ?_, good_pure q r rfl⟩
      rw [hX.k]
      rcases sq with sq | sq
      · exact .inl ⟨vs, sq, dv.length.symm⟩
      · exact .inr ⟨vs, sq, dv.length.symm⟩
    · exact False.elim q
  · exact False.elim q
theorem o_abs : OpC Γ (fun xs H Q => ∃ i, xs = [.int i] ∧ Q (.int (if i < 0 then -i else i)) H) oAbs := by
  intro W σ H μ h xs ds Q r k q
  unfold oAbs at q
  split at q
  · rename_i i
    obtain ⟨v, rfl, k1⟩ := dens1 k
    cases k1
    refine ⟨i, rfl, good_pure q r ?_⟩
    have e : (if i < 0 then -i else i) = (i.natAbs : Int) := by split <;> omega
    rw [e]; rfl
  · exact False.elim q
theorem o_int : OpC Γ (fun xs H Q => (∃ i, xs = [.int i] ∧ Q (.int i) H) ∨ ∃ k, xs = [.bl k] ∧ Q (.int (if k then 1 else 0)) H) oInt := by
  intro W σ H μ h xs ds Q r k q
  unfold oInt at q
  split at q
  · obtain ⟨v, rfl, k1⟩ := dens1 k
    cases k1
    exact .inl ⟨_, rfl, good_pure q r rfl⟩
  · obtain ⟨v, rfl, k1⟩ := dens1 k
    cases k1
    exact .inr ⟨_, rfl, good_pure q r rfl⟩
  · exact False.elim q
theorem o_tuple {X : Cx} (hX : CxG X Γ) : OpC Γ (fun xs H Q => ∃ p ys, xs = [.ref p] ∧ ((SqL X.K H p ys ∧ ∀ l, H l = none → Q (.ref l) (upd H l (.tup ys))) ∨ (SqT X.K H p ys ∧ Q (.ref p) H))) oTuple := by
  rw [hX.k]
  intro W σ H μ h xs ds Q r k q
  unfold oTuple at q
  split at q
  · obtain ⟨v, rfl, k1⟩ := dens1 k
    obtain ⟨a, vs, rfl, tp, dv⟩ := k1
    exact ⟨a, vs, rfl, .inr ⟨tp.sq, good_pure q r ⟨a, vs, rfl, tp, dv⟩⟩⟩
  · split at q
    · rename_i es e
      obtain ⟨v, rfl, k1⟩ := dens1 k
      obtain ⟨a, vs, rfl, sq, dv⟩ := getL_ok r k1 e
      exact ⟨a, vs, rfl, .inl ⟨sq, good_tup q r dv⟩⟩
    · exact False.elim q
  · exact False.elim q
theorem o_list {X : Cx} (hX : CxG X Γ) : OpC Γ (fun xs H Q => ∃ p ys, xs = [.ref p] ∧ (SqL X.K H p ys ∨ SqT X.K H p ys) ∧ ∀ l, H l = none → fz Q (.ref l) (upd H l (.lst ys))) oList := by
  rw [hX.k]
  intro W σ H μ h xs ds Q r k q
  unfold oList at q
  split at q
  · split at q
    · rename_i es e
      obtain ⟨v, rfl, k1⟩ := dens1 k
      obtain ⟨a, vs, rfl, sq, dv⟩ := getQ_ok r k1 e
      exact ⟨a, vs, rfl, sq, good_lst q r dv⟩
    · exact False.elim q
  · exact False.elim q
theorem o_listN {X : Cx} (hX : CxG X Γ) : OpC Γ (fun xs H Q => ∃ p ys, xs = [.ref p] ∧ (SqL X.K H p ys ∨ SqT X.K H p ys) ∧ ∀ l, H l = none → Q (.ref l) (upd H l (.lst ys))) oListN := by
  rw [hX.k]
  intro W σ H μ h xs ds Q r k q
  unfold oListN at q
  split at q
  · split at q
    · rename_i es e
      obtain ⟨v, rfl, k1⟩ := dens1 k
      obtain ⟨a, vs, rfl, sq, dv⟩ := getQ_ok r k1 e
      exact ⟨a, vs, rfl, sq, good_new q r dv⟩
    · exact False.elim q
  · exact False.elim q
def rMaxA (K : PySem.W.Frag) : List V → Hp → VK → Prop := fun xs H Q => (∃ i j, xs = [.int i, .int j] ∧ Q (.int (if j > i then j else i)) H) ∨ rMax K xs H Q
def rMinA (K : PySem.W.Frag) : List V → Hp → VK → Prop := fun xs H Q => (∃ i j, xs = [.int i, .int j] ∧ Q (.int (if j < i then j else i)) H) ∨ rMin K xs H Q
theorem CallR.or' {X : Cx} {f : Value} {r r' : List V → Hp → VK → Prop} (h : CallR X f r) (h' : CallR X f r') : CallR X f (fun xs H Q => r xs H Q ∨ r' xs H Q) := by
  intro pins s σ H xs us Q I r q
  rcases q with q | q
  · exact h pins s σ H xs us Q I r q
  · exact h' pins s σ H xs us Q I r q
theorem c_max {X : Cx} (hX : CxG X Γ) (hc : X.calm = true) : CallR X (.builtin "max") (rMaxA Γ.K) := by
  rw [← hX.k]
  exact CallR.or' (call_max2 hc) (cr_max hc)
theorem c_min {X : Cx} (hX : CxG X Γ) (hc : X.calm = true) : CallR X (.builtin "min") (rMinA Γ.K) := by
  rw [← hX.k]
  exact CallR.or' (call_min2 hc) (cr_min hc)
theorem getI_ok {H : Hp} {μ : List Addr} {h : List MO} {d : D} {v : V} {ns : List Int} (r : Rel Γ H μ h) (k : Den Γ μ H v d) (e : (getL h d).bind intsD = some ns) : ∃ a, v = .ref a ∧ SqL Γ.K H a (ns.map V.int) := by
  cases q : getL h d with
  | none => rw [q] at e; cases e
  | some ds =>
    rw [q] at e
    obtain ⟨a, vs, rfl, sq, dv⟩ := getL_ok r k q
    rw [ints_ok dv e] at sq
    exact ⟨a, rfl, sq⟩
theorem getB_ok {H : Hp} {μ : List Addr} {h : List MO} {d : D} {v : V} {ns : List Bool} (r : Rel Γ H μ h) (k : Den Γ μ H v d) (e : (getL h d).bind blsD = some ns) : ∃ a, v = .ref a ∧ SqL Γ.K H a (ns.map V.bl) := by
  cases q : getL h d with
  | none => rw [q] at e; cases e
  | some ds =>
    rw [q] at e
    obtain ⟨a, vs, rfl, sq, dv⟩ := getL_ok r k q
    rw [bls_ok dv e] at sq
    exact ⟨a, rfl, sq⟩
theorem o_max : OpC Γ (rMaxA Γ.K) oMax := by
  intro W σ H μ h xs ds Q r k q
  unfold oMax at q
  split at q
  · rename_i i j
    obtain ⟨v, w, rfl, k1, k2⟩ := dens2 k
    cases k1; cases k2
    refine .inl ⟨i, j, rfl, good_pure q r ?_⟩
    have e : (if j > i then j else i) = max i j := by split <;> omega
    rw [e]; rfl
  · split at q
    · rename_i n ns e
      obtain ⟨v, rfl, k1⟩ := dens1 k
      obtain ⟨a, rfl, sq⟩ := getI_ok r k1 e
      refine .inr ⟨a, n :: ns, rfl, sq, Nat.succ_pos _, fun m h1 h2 => good_pure q r ?_⟩
      obtain ⟨h3, h4⟩ := maxI_ok (ns := n :: ns) (List.cons_ne_nil _ _)
      have e : m = maxI (n :: ns) := Int.le_antisymm (h4 m h1) (h2 _ h3)
      rw [e]; rfl
    · exact False.elim q
  · exact False.elim q
theorem o_min : OpC Γ (rMinA Γ.K) oMin := by
  intro W σ H μ h xs ds Q r k q
  unfold oMin at q
  split at q
  · rename_i i j
    obtain ⟨v, w, rfl, k1, k2⟩ := dens2 k
    cases k1; cases k2
    refine .inl ⟨i, j, rfl, good_pure q r ?_⟩
    have e : (if j < i then j else i) = min i j := by split <;> omega
    rw [e]; rfl
  · split at q
    · rename_i n ns e
      obtain ⟨v, rfl, k1⟩ := dens1 k
      obtain ⟨a, rfl, sq⟩ := getI_ok r k1 e
      refine .inr ⟨a, n :: ns, rfl, sq, Nat.succ_pos _, fun m h1 h2 => good_pure q r ?_⟩
      obtain ⟨h3, h4⟩ := minI_ok (ns := n :: ns) (List.cons_ne_nil _ _)
      have e : m = minI (n :: ns) := Int.le_antisymm (h2 _ h3) (h4 m h1)
      rw [e]; rfl
    · exact False.elim q
  · exact False.elim q
theorem o_sum {X : Cx} (hX : CxG X Γ) : OpC Γ (rSum X.K) oSum := by
  rw [hX.k]
  intro W σ H μ h xs ds Q r k q
  unfold oSum at q
  split at q
  · split at q
    · rename_i ns e
      obtain ⟨v, rfl, k1⟩ := dens1 k
      obtain ⟨a, rfl, sq⟩ := getI_ok r k1 e
      exact ⟨a, ns, rfl, sq, good_pure q r rfl⟩
    · exact False.elim q
  · exact False.elim q
theorem o_all {X : Cx} (hX : CxG X Γ) : OpC Γ (rAll X.K) oAll := by
  rw [hX.k]
  intro W σ H μ h xs ds Q r k q
  unfold oAll at q
  split at q
  · split at q
    · rename_i ns e
      obtain ⟨v, rfl, k1⟩ := dens1 k
      obtain ⟨a, rfl, sq⟩ := getB_ok r k1 e
      exact ⟨a, ns, rfl, sq, good_pure q r rfl⟩
    · exact False.elim q
  · exact False.elim q
theorem o_any {X : Cx} (hX : CxG X Γ) : OpC Γ (rAny X.K) oAny := by
  rw [hX.k]
  intro W σ H μ h xs ds Q r k q
  unfold oAny at q
  split at q
  · split at q
    · rename_i ns e
      obtain ⟨v, rfl, k1⟩ := dens1 k
      obtain ⟨a, rfl, sq⟩ := getB_ok r k1 e
      exact ⟨a, ns, rfl, sq, good_pure q r rfl⟩
    · exact False.elim q
  · exact False.elim q
theorem o_str : OpC Γ (fun xs H Q => ∃ i : Int, xs = [.int i] ∧ i.natAbs.log2 < 1920 ∧ Q (.str (toString i)) H) oStr := by
  intro W σ H μ h xs ds Q r k q
  unfold oStr at q
  split at q
  · split at q
    · rename_i i hl
      obtain ⟨v, rfl, k1⟩ := dens1 k
      cases k1
      refine ⟨i, rfl, hl, good_pure q r ?_⟩
      show V.str _ = V.str (S _)
      congr 1
    · exact False.elim q
  · exact False.elim q
end
/-! ### isinstance -/
def tyD : D → Option String
  | .non => some "NoneType"
  | .bl _ => some "bool"
  | .int _ => some "int"
  | .str _ => some "str"
  | .tup _ => some "tuple"
  | .lst _ => some "list"
  | .ref _ => some "list"
  | _ => none
theorem tyD_ok {Γ : G} {H : Hp} {μ : List Addr} {h : List MO} {d : D} {v : V} {n : String} (r : Rel Γ H μ h) (k : Den Γ μ H v d) (e : tyD d = some n) : TyX Γ.K H v (.type n) := by
  cases d with
  | non => cases e; cases k; exact .base .non
  | bl b => cases e; cases k; exact .base (.bl b)
  | int b => cases e; cases k; exact .base (.int b)
  | str b => cases e; cases k; exact .base (.str _)
  | tup ds =>
    cases e
    obtain ⟨a, vs, rfl, tp, dv⟩ := k
    rcases tp with ⟨_, q | ⟨o, q⟩⟩ | ⟨o, its, n, h1, h2, _⟩
    · exact .base (.tup q)
    · exact .fTuple q
    · exact .kTuple h1 h2
  | lst ds =>
    cases e
    obtain ⟨a, vs, rfl, tp, dv⟩ := k
    rcases tp with ⟨_, o, q⟩ | ⟨its, n, h1, _⟩
    · exact .base (.frz q)
    · exact .kList h1 rfl
  | ref i =>
    cases e
    obtain ⟨a, rfl, q⟩ := k
    obtain ⟨vs, q⟩ := r.mem (List.mem_of_getElem? q)
    exact .base (.lst q)
  | glo _ => cases e
  | clo _ _ => cases e
/-- whether a value is of one of some built-in types -/
def isiD : List String → D → Option Bool
  | [], _ => some false
  | n :: ns, d => match tyD d with
    | none => none
    | some t => match kitB t n with
      | none => none
      | some true => some true
      | some false => isiD ns d
def xIsi (ns : List String) (f : ME) : ME := fun ρ h => (f ρ h).bind fun d h1 => match isiD ns d with
  | some b => .ok (.bl b) h1
  | none => .stuck
theorem kitAny_of {K : PySem.W.Frag} {t : String} {d : D} (ht : tyD d = some t) : ∀ {ns : List String} {b : Bool}, isiD ns d = some b → ns ≠ [] → PySem.W.kitAny K (.type t) (ns.map Value.type) = some b
  | [], _, _, hne => absurd rfl hne
  | n :: ns, b, e, _ => by
    unfold isiD at e
    rw [ht] at e
    cases q : kitB t n with
    | none => simp only [q] at e; cases e
    | some c =>
      simp only [q] at e
      cases c with
      | true => cases e; exact kitAny_cons (b := true) (kit_ty q) (fun z => by cases z) fun _ => rfl
      | false =>
        have e' : isiD ns d = some b := e
        refine kitAny_cons (b := false) (kit_ty q) (fun _ => ?_) fun z => by cases z
        cases ns with
        | nil => cases e'; rfl
        | cons m ms => exact kitAny_of ht e' (List.cons_ne_nil _ _)
section
variable {X : Cx} {Γ : G} {W : WX}
theorem isi_ty {ns : List String} {d : D} {b : Bool} (e : isiD ns d = some b) (hne : ns ≠ []) : ∃ t, tyD d = some t := by
  cases q : tyD d with
  | some t => exact ⟨t, rfl⟩
  | none =>
    cases ns with
    | nil => exact absurd rfl hne
    | cons n ns => unfold isiD at e; rw [q] at e; cases e
/-- isinstance(e, T) -/
theorem fe_isi {e : Expr} {f : ME} {T : Str} {n : String} {p p2 pos : Pos} (hX : CxG X Γ) (hg : Gl X "isinstance") (hm : X.mg "isinstance" = none) (hgT : Gl X T) (hmT : X.mg T = none) (hT : bootBuiltins T = some (.type n)) (he : FE X Γ W e f)
    (hn : T ≠ "__name__" := by decide) (hdT : (T == ("__debug__" : Str)) = false := by decide)
    (hs : starEach [e, .Name T p2] X.env = (false, eval e X.env) :: starEach [.Name T p2] X.env := by rfl) (hs2 : starEach [.Name T p2] X.env = (false, eval (.Name T p2) X.env) :: starEach [] X.env := by rfl) (hpl : (backTo pos (starEach [.Name T p2] X.env)).any (·.1) = false := by rfl) :
    FE X Γ W (.Call (.Name "isinstance" p) [e, .Name T p2] [] pos) (xIsi [n] f) := by
  refine ⟨(pe_callB call_isi hg hm PyProof.Rows.boot_isinstance (pa_cons he.ok (pa_cons (pe_bltn (v := .ty n) hgT hmT hT rfl hn hdT) pa_nil hs2) hs) (by decide) (by decide) hs hpl).imp fun σ H Q q => ?_⟩
  obtain ⟨ρ, h, μ, he, hr, q⟩ := q
  refine ⟨ρ, h, μ, he, hr, Good.bind q fun a h1 x H1 μ1 _ e1 r1 d1 q1 => ?_⟩
  split at q1
  · rename_i b eb
    obtain ⟨t, ht⟩ := isi_ty eb (List.cons_ne_nil _ _)
    have eb' : kitB t n = some b := by
      unfold isiD at eb
      rw [ht] at eb
      cases q : kitB t n with
      | none => simp only [q] at eb; cases eb
      | some c =>
        simp only [q] at eb
        cases c with
        | true => cases eb; rfl
        | false => cases eb; rfl
    refine ⟨x, .ty n, .type t, .type n, b, rfl, .ty n, ?_, kit_ty eb', good_pure q1 r1 rfl⟩
    rw [hX.k]
    exact tyD_ok r1 d1 ht
  · exact False.elim q1
/-- isinstance(e, (T1, T2)) -/
theorem fe_isi2 {e : Expr} {f : ME} {T1 T2 : Str} {n1 n2 : String} {k} {p p1 p2 p3 pos : Pos} (hX : CxG X Γ) (hg : Gl X "isinstance") (hm : X.mg "isinstance" = none) (hgT : Gl X T1) (hmT : X.mg T1 = none) (hT : bootBuiltins T1 = some (.type n1)) (hgU : Gl X T2) (hmU : X.mg T2 = none) (hU : bootBuiltins T2 = some (.type n2)) (he : FE X Γ W e f)
    (hn : T1 ≠ "__name__" := by decide) (hdT : (T1 == ("__debug__" : Str)) = false := by decide) (hn2 : T2 ≠ "__name__" := by decide) (hdU : (T2 == ("__debug__" : Str)) = false := by decide)
    (hs : starEach [e, .Tuple [.Name T1 p1, .Name T2 p2] k p3] X.env = (false, eval e X.env) :: starEach [.Tuple [.Name T1 p1, .Name T2 p2] k p3] X.env := by rfl)
    (hpl : (backTo pos (starEach [.Tuple [.Name T1 p1, .Name T2 p2] k p3] X.env)).any (·.1) = false := by rfl)
    (hs2 : starEach [.Tuple [.Name T1 p1, .Name T2 p2] k p3] X.env = (false, eval (.Tuple [.Name T1 p1, .Name T2 p2] k p3) X.env) :: starEach [] X.env := by rfl)
    (hs3 : starEach [.Name T1 p1, .Name T2 p2] X.env = (false, eval (.Name T1 p1) X.env) :: starEach [.Name T2 p2] X.env := by rfl) (hs4 : starEach [.Name T2 p2] X.env = (false, eval (.Name T2 p2) X.env) :: starEach [] X.env := by rfl) :
    FE X Γ W (.Call (.Name "isinstance" p) [e, .Tuple [.Name T1 p1, .Name T2 p2] k p3] [] pos) (xIsi [n1, n2] f) := by
  refine ⟨(pe_callB call_isiT hg hm PyProof.Rows.boot_isinstance (pa_cons he.ok (pa_cons (pe_tup (pa_cons (pe_bltn (v := .ty n1) hgT hmT hT rfl hn hdT) (pa_cons (pe_bltn (v := .ty n2) hgU hmU hU rfl hn2 hdU) pa_nil hs4) hs3)) pa_nil hs2) hs) (by decide) (by decide) hs hpl).imp fun σ H Q q => ?_⟩
  obtain ⟨ρ, h, μ, he, hr, q⟩ := q
  refine ⟨ρ, h, μ, he, hr, Good.bind q fun a h1 x H1 μ1 _ e1 r1 d1 q1 => ?_⟩
  refine ⟨by rw [line_eq]; exact (by decide : 2 ≤ LINE), fun tp hp => ?_⟩
  split at q1
  · rename_i b eb
    obtain ⟨t, ht⟩ := isi_ty eb (List.cons_ne_nil _ _)
    refine ⟨x, tp, [.ty n1, .ty n2], .type t, [.type n1, .type n2], b, rfl, upd_same, .cons (.ty n1) (.cons (.ty n2) .nil), ?_, kitAny_of ht eb (List.cons_ne_nil _ _), ?_⟩
    · rw [hX.k]
      exact tyD_ok (r1.laid hp) (d1.mono (Ext.laid hp)) ht
    · exact q1 _ _ μ1 (Ext.laid hp) (r1.laid hp) rfl
  · exact False.elim q1
/-! ### sep.join(..) -/
def joinD (sep : List Nat) : List (List Nat) → List Nat
  | [] => []
  | [a] => a
  | a :: r => a ++ sep ++ joinD sep r
def oJoin (sep : List Nat) (d : D) (h : List MO) : Res D := match (getQ h d).bind strsD with
  | some ys => if (ys.map (·.length)).sum + ys.length * sep.length ≤ LINE then .ok (.str (joinD sep ys)) h else .stuck
  | none => .stuck
def xJoin (fo f : ME) : ME := fun ρ h => (fo ρ h).bind fun s h1 => match s with
  | .str sep => (f ρ h1).bind fun d h2 => oJoin sep d h2
  | _ => .stuck
end
end MP
end
section
set_option Elab.async false
set_option linter.all false
set_option maxRecDepth 100000
set_option maxHeartbeats 1000000
/-! M7: statements, targets, loops, comprehensions. -/
namespace MP
open PySem PySem.Spec PyProof.Rows L2

theorem join_ok (sep : List Nat) : ∀ ys : List (List Nat), Txt.join (S sep) (ys.map S) = S (joinD sep ys) := by
  have key : ∀ ys : List (List Nat), Str.join (S sep) (ys.map S) = S (joinD sep ys) := by
    intro ys
    induction ys with
    | nil => rfl
    | cons a r ih =>
      cases r with
      | nil => rfl
      | cons b r =>
        show S a ++ S sep ++ Str.join (S sep) ((b :: r).map S) = S (a ++ sep ++ joinD sep (b :: r))
        rw [ih, S_app, S_app]
  intro ys
  show Builtin.Str.glued (S sep) (ys.map S) = _
  rw [StrLaws.glued_eq_join, key]
section
variable {X : Cx} {Γ : G} {W : WX}
theorem fe_join {o e : Expr} {fo f : ME} {apos pos : Pos} (hX : CxG X Γ) (ho : FE X Γ W o fo) (he : FE X Γ W e f) (hs : starEach [e] X.env = [(false, eval e X.env)] := by rfl) (hbase : attributeBase o "join" X.env (eval o X.env) = eval o X.env := by rfl) (hline : (apos.endLine == pos.line) = true := by rfl) :
    FE X Γ W (.Call (.Attribute o "join" apos) [e] [] pos) (xJoin fo f) := by
  refine ⟨(pe_join ho.ok he.ok hs hbase hline).imp fun σ H Q q => ?_⟩
  obtain ⟨ρ, h, μ, he, hr, q⟩ := q
  refine ⟨ρ, h, μ, he, hr, Good.bind q fun a h1 x H1 μ1 z1 e1 r1 d1 q1 => ?_⟩
  split at q1
  · rename_i sep
    refine ⟨⟨_, d1⟩, ρ, h1, μ1, he.mono e1, r1, Good.bind q1 fun b h2 y H2 μ2 z2 e2 r2 d2 q2 => ?_⟩
    unfold oJoin at q2
    split at q2
    · rename_i ys ey
      split at q2
      · rename_i hl
        cases q3 : getQ h2 b with
        | none => rw [q3] at ey; cases ey
        | some ds =>
          rw [q3] at ey
          obtain ⟨p, vs, rfl, sq, dv⟩ := getQ_ok r2 d2 q3
          have ev := strs_ok dv ey
          subst ev
          refine ⟨S sep, p, ys.map S, d1, rfl, by rw [hX.k]; exact sq, ?_, ?_⟩
          · rw [List.map_map, List.length_map, S_len]
            have e : ys.map ((fun x : Str => x.length) ∘ S) = ys.map (·.length) := List.map_congr_left fun l _ => S_len l
            rw [e]
            exact hl
          · rw [join_ok]
            exact good_pure q2 r2 rfl
      · exact False.elim q2
    · exact False.elim q2
  · exact False.elim q1
end

/-! ### the ends of a statement -/
inductive RS where
  | nx (ρ : Rho) (h : List MO) | rt (d : D) (h : List MO) | bk (ρ : Rho) (h : List MO) | ct (ρ : Rho) (h : List MO) | err (e : Ex) (ρ : Rho) (h : List MO) | stuck
abbrev MS := Rho → List MO → RS
def GoodS (Γ : G) (W : WX) (H : Hp) (μ : List Addr) (N : Ends) : RS → Prop
  | .nx ρ h => ∀ σ' H' μ', Ext H μ H' μ' → EnvOk Γ μ' H' σ' ρ → Rel Γ H' μ' h → N.nx σ' H'
  | .rt d h => ∀ v H' μ', Ext H μ H' μ' → Rel Γ H' μ' h → Den Γ μ' H' v d → N.rt v H'
  | .bk ρ h => ∀ σ' H' μ', Ext H μ H' μ' → EnvOk Γ μ' H' σ' ρ → Rel Γ H' μ' h → N.bk σ' H'
  | .ct ρ h => ∀ σ' H' μ', Ext H μ H' μ' → EnvOk Γ μ' H' σ' ρ → Rel Γ H' μ' h → N.ct σ' H'
  | .err e ρ h => ∀ cls d σ' H' μ', Ext H μ H' μ' → EnvOk Γ μ' H' σ' ρ → Rel Γ H' μ' h → ExOk Γ H' μ' cls d e → W cls d σ' H'
  | .stuck => False
theorem GoodS.mono {Γ : G} {W : WX} {H H1 : Hp} {μ μ1 : List Addr} {N : Ends} (e : Ext H μ H1 μ1) : ∀ {r : RS}, GoodS Γ W H μ N r → GoodS Γ W H1 μ1 N r
  | .nx ρ h, g => fun σ' H' μ' e1 a b => g σ' H' μ' (e.trans e1) a b
  | .rt d h, g => fun v H' μ' e1 a b => g v H' μ' (e.trans e1) a b
  | .bk ρ h, g => fun σ' H' μ' e1 a b => g σ' H' μ' (e.trans e1) a b
  | .ct ρ h, g => fun σ' H' μ' e1 a b => g σ' H' μ' (e.trans e1) a b
  | .err ex ρ h, g => fun c d σ' H' μ' e1 a b => g c d σ' H' μ' (e.trans e1) a b
  | .stuck, g => g
theorem Good.mono {Γ : G} {W : WX} {σ : L2.St} {H H1 : Hp} {μ μ1 : List Addr} {α β : Type} {den : Hp → List Addr → β → α → Prop} {Q : β → Hp → Prop} (e : Ext H μ H1 μ1) : ∀ {r : Res α}, Good Γ W σ H μ den Q r → Good Γ W σ H1 μ1 den Q r
  | .ok a h, g => fun v H' μ' e1 a b => g v H' μ' (e.trans e1) a b
  | .err ex h, g => fun c d H' μ' e1 a b => g c d H' μ' (e.trans e1) a b
  | .stuck, g => g
/-- a statement goes on behind an expression -/
def Res.toS {α : Type} (r : Res α) (ρ : Rho) (k : α → List MO → RS) : RS := match r with
  | .ok a h => k a h
  | .err e h => .err e ρ h
  | .stuck => .stuck
theorem GoodS.bind {Γ : G} {W : WX} {σ : L2.St} {ρ : Rho} {H : Hp} {μ : List Addr} {N : Ends} {α β : Type} {den : Hp → List Addr → β → α → Prop} {Q : β → Hp → Prop} {r : Res α} {k : α → List MO → RS} (he : EnvOk Γ μ H σ ρ)
    (g : GoodS Γ W H μ N (r.toS ρ k)) (next : ∀ a h v H' μ', r = .ok a h → Ext H μ H' μ' → Rel Γ H' μ' h → den H' μ' v a → GoodS Γ W H' μ' N (k a h) → Q v H') : Good Γ W σ H μ den Q r := by
  cases r with
  | ok a h => exact fun v H' μ' e x d => next a h v H' μ' rfl e x d (GoodS.mono e (show GoodS Γ W H μ N (k a h) from g))
  | err ex h => exact fun c d H' μ' e x z => g c d σ H' μ' e (he.mono e) x z
  | stuck => exact g
def tS (Γ : G) (W : WX) (f : MS) : TS := fun N σ H => ∃ ρ h μ, EnvOk Γ μ H σ ρ ∧ Rel Γ H μ h ∧ GoodS Γ W H μ N (f ρ h)
structure FS (X : Cx) (Γ : G) (W : WX) (st : Stmt) (f : MS) : Prop where
  ok : PS X st (tS Γ W f)
structure FSs (X : Cx) (Γ : G) (W : WX) (st : List Stmt) (f : MS) : Prop where
  ok : PSs X st (tS Γ W f)
def sNil : MS := fun ρ h => .nx ρ h
def sSeq (a b : MS) : MS := fun ρ h => match a ρ h with
  | .nx ρ1 h1 => b ρ1 h1
  | r => r
def sBreak : MS := fun ρ h => .bk ρ h
def sCont : MS := fun ρ h => .ct ρ h
def sExpr (f : ME) : MS := fun ρ h => (f ρ h).toS ρ fun _ h1 => .nx ρ h1
def sRet (f : ME) : MS := fun ρ h => (f ρ h).toS ρ fun d h1 => .rt d h1
def sRetN : MS := fun _ h => .rt .non h
def sIf (c : MT) (a b : MS) : MS := fun ρ h => (c ρ h).toS ρ fun t h1 => if t then a ρ h1 else b ρ h1
def sSet (i : Nat) (f : ME) : MS := fun ρ h => (f ρ h).toS ρ fun d h1 => .nx (ρ.set i (some d)) h1
section
variable {X : Cx} {Γ : G} {W : WX}
theorem fss_nil : FSs X Γ W [] sNil := by
  refine ⟨pss_nil.imp fun N σ H q => ?_⟩
  obtain ⟨ρ, h, μ, he, hr, q⟩ := q
  exact q σ H μ (Ext.refl _ _) he hr
theorem fss_cons {st : Stmt} {r : List Stmt} {f g : MS} (h1 : FS X Γ W st f) (h2 : FSs X Γ W r g) : FSs X Γ W (st :: r) (sSeq f g) := by
  refine ⟨(pss_cons h1.ok h2.ok).imp fun N σ H q => ?_⟩
  obtain ⟨ρ, h, μ, he, hr, q⟩ := q
  refine ⟨ρ, h, μ, he, hr, ?_⟩
  unfold sSeq at q
  cases e : f ρ h with
  | nx ρ1 h1 =>
    rw [e] at q
    exact fun σ' H' μ' e1 he1 hr1 => ⟨ρ1, h1, μ', he1, hr1, GoodS.mono e1 q⟩
  | rt d h1 => rw [e] at q; exact q
  | bk d h1 => rw [e] at q; exact q
  | ct d h1 => rw [e] at q; exact q
  | err d h1 => rw [e] at q; exact q
  | stuck => rw [e] at q; exact q
theorem fss_one {st : Stmt} {f : MS} (h1 : FS X Γ W st f) : FSs X Γ W [st] f := ⟨pss_one h1.ok⟩
theorem fs_pass {pos : Pos} : FS X Γ W (.Pass pos) sNil := by
  refine ⟨ps_pass.imp fun N σ H q => ?_⟩
  obtain ⟨ρ, h, μ, he, hr, q⟩ := q
  exact q σ H μ (Ext.refl _ _) he hr
theorem fs_break {pos : Pos} : FS X Γ W (.Break pos) sBreak := by
  refine ⟨ps_break.imp fun N σ H q => ?_⟩
  obtain ⟨ρ, h, μ, he, hr, q⟩ := q
  exact q σ H μ (Ext.refl _ _) he hr
theorem fs_cont {pos : Pos} : FS X Γ W (.Continue pos) sCont := by
  refine ⟨ps_continue.imp fun N σ H q => ?_⟩
  obtain ⟨ρ, h, μ, he, hr, q⟩ := q
  exact q σ H μ (Ext.refl _ _) he hr
theorem fs_expr {e : Expr} {f : ME} {pos : Pos} (he : FE X Γ W e f) (hs : swapsWith e none pos.line X.env = pure false := by rfl) : FS X Γ W (.Expr e pos) (sExpr f) := by
  refine ⟨(ps_expr he.ok hs).imp fun N σ H q => ?_⟩
  obtain ⟨ρ, h, μ, he, hr, q⟩ := q
  exact ⟨ρ, h, μ, he, hr, GoodS.bind he q fun a h1 v H1 μ1 z1 e1 r1 d1 q1 => q1 σ H1 μ1 (Ext.refl _ _) (he.mono e1) r1⟩
theorem fs_ret {e : Expr} {f : ME} {pos : Pos} (he : FE X Γ W e f) : FS X Γ W (.Return (some e) pos) (sRet f) := by
  refine ⟨(ps_ret he.ok).imp fun N σ H q => ?_⟩
  obtain ⟨ρ, h, μ, he, hr, q⟩ := q
  exact ⟨ρ, h, μ, he, hr, GoodS.bind he q fun a h1 v H1 μ1 z1 e1 r1 d1 q1 => q1 v H1 μ1 (Ext.refl _ _) r1 d1⟩
theorem fs_retN {pos : Pos} : FS X Γ W (.Return none pos) sRetN := by
  refine ⟨ps_retN.imp fun N σ H q => ?_⟩
  obtain ⟨ρ, h, μ, he, hr, q⟩ := q
  exact q .non H μ (Ext.refl _ _) hr rfl
theorem fs_if {c : Expr} {a b : List Stmt} {fc : MT} {fa fb : MS} {pos : Pos} (hc : FT X Γ W c fc) (ha : FSs X Γ W a fa) (hb : FSs X Γ W b fb) : FS X Γ W (.If c a b pos) (sIf fc fa fb) := by
  refine ⟨(ps_if hc.ok ha.ok hb.ok).imp fun N σ H q => ?_⟩
  obtain ⟨ρ, h, μ, he, hr, q⟩ := q
  refine ⟨ρ, h, μ, he, hr, GoodS.bind he q fun a h1 v H1 μ1 z1 e1 r1 d1 q1 => ?_⟩
  cases (show v = a from d1)
  cases a with
  | true => exact ⟨ρ, h1, μ1, he.mono e1, r1, q1⟩
  | false => exact ⟨ρ, h1, μ1, he.mono e1, r1, q1⟩
theorem fs_set {i : Nat} {x : Str} {e : Expr} {f : ME} {pos pos' : Pos} (hN : X.N.Nodup) (hi : X.N[i]? = some x) (hx : Loc X.env.scope x) (he : FE X Γ W e f) (hs : swapsWith e (some (.Name x pos')) pos.line X.env = pure false := by rfl)
    (hf : X.fn x = true ∨ X.env.scope.names.lookup x = some .local := by first | exact .inl rfl | exact .inr rfl | assumption) : FS X Γ W (.Assign [.Name x pos'] e pos) (sSet i f) := by
  refine ⟨(ps_set hN hi hx he.ok hs hf).imp fun N σ H q => ?_⟩
  obtain ⟨ρ, h, μ, he, hr, q⟩ := q
  exact ⟨ρ, h, μ, he, hr, GoodS.bind he q fun a h1 v H1 μ1 z1 e1 r1 d1 q1 => q1 _ H1 μ1 (Ext.refl _ _) ((he.mono e1).set d1 i) r1⟩

/-! ### targets -/
/-- a name's slot, or a tuple of targets -/
inductive Pat where
  | nm (i : Nat) | tp (ps : List Pat)
mutual
def bindP : Pat → D → Rho → Option Rho
  | .nm i, d, ρ => some (ρ.set i (some d))
  | .tp ps, .tup ds, ρ => bindPs ps ds ρ
  | .tp _, _, _ => none
def bindPs : List Pat → List D → Rho → Option Rho
  | [], [], ρ => some ρ
  | p :: ps, d :: ds, ρ => match bindP p d ρ with
    | some ρ1 => bindPs ps ds ρ1
    | none => none
  | _, _, _ => none
end
mutual
def patS : Pat → List Nat
  | .nm i => [i]
  | .tp ps => patSs ps
def patSs : List Pat → List Nat
  | [] => []
  | p :: ps => patS p ++ patSs ps
end
/-- what is known behind the target's store -/
def PatEnd (Γ : G) (H : Hp) (μ : List Addr) (sl : List Nat) (σ σ' : L2.St) (ρ' : Rho) : Prop := EnvOk Γ μ H σ' ρ' ∧ ∀ vs : List Nat, (∀ i ∈ sl, i ∈ vs) → wipe σ' vs = wipe σ vs
structure FP (X : Cx) (Γ : G) (tg : Expr) (p : Pat) : Prop where
  ok : ∃ t, PG X tg t ∧ ∀ (v : V) (d : D) (σ : L2.St) (ρ ρ' : Rho) (H : Hp) (μ : List Addr) (Q : L2.St → Hp → Prop), Den Γ μ H v d → EnvOk Γ μ H σ ρ → bindP p d ρ = some ρ' → (∀ σ', PatEnd Γ H μ (patS p) σ σ' ρ' → Q σ' H) → t v σ H Q
structure FPs (X : Cx) (Γ : G) (tg : List Expr) (p : List Pat) : Prop where
  ok : p.length = tg.length ∧ ∃ t, PGs X tg t ∧ ∀ (vs : List V) (ds : List D) (σ : L2.St) (ρ ρ' : Rho) (H : Hp) (μ : List Addr) (Q : L2.St → Hp → Prop), Dens Γ μ H vs ds → EnvOk Γ μ H σ ρ → bindPs p ds ρ = some ρ' → (∀ σ', PatEnd Γ H μ (patSs p) σ σ' ρ' → Q σ' H) → t vs σ H Q
theorem wipe_set {σ : L2.St} {i : Nat} {x : Option V} : ∀ {vs : List Nat}, i ∈ vs → wipe (σ.set i x) vs = wipe σ vs
  | [], h => by cases h
  | v :: vs, h => by
    unfold wipe
    by_cases e : i ∈ vs
    · rw [wipe_set e]
    · have e2 : i = v := by
        rcases List.mem_cons.mp h with h | h
        · exact h
        · exact absurd h e
      subst e2
      have key : ∀ (us : List Nat), i ∉ us → wipe (σ.set i x) us = (wipe σ us).set i x := by
        intro us
        induction us with
        | nil => intro _; rfl
        | cons u us ih =>
          intro hn
          unfold wipe
          rw [ih fun z => hn (List.mem_cons_of_mem _ z), List.set_comm]
          exact fun z => hn (z ▸ List.mem_cons_self)
      rw [key vs e, List.set_set]
theorem fp_name {i : Nat} {x : Str} {pos : Pos} (hN : X.N.Nodup) (hi : X.N[i]? = some x) (hx : Loc X.env.scope x) (hf : X.fn x = true ∨ X.env.scope.names.lookup x = some .local := by first | exact .inl rfl | exact .inr rfl | assumption) : FP X Γ (.Name x pos) (.nm i) := by
  refine ⟨_, pg_name hN hi hx hf, fun v d σ ρ ρ' H μ Q k he e q => ?_⟩
  cases (show some (ρ.set i (some d)) = some ρ' from e)
  exact q _ ⟨he.set k i, fun vs h => wipe_set (h i List.mem_cons_self)⟩
theorem fps_nil : FPs X Γ [] [] := by
  refine ⟨rfl, _, pgs_nil, fun vs ds σ ρ ρ' H μ Q k he e q => ?_⟩
  cases ds with
  | nil =>
    cases (show some ρ = some ρ' from e)
    exact ⟨k, q _ ⟨he, fun _ _ => rfl⟩⟩
  | cons d ds => cases e
theorem fps_cons {e : Expr} {es : List Expr} {p : Pat} {ps : List Pat} (h1 : FP X Γ e p) (h2 : FPs X Γ es ps) (hs : (assignEach (e :: es) X.env).map (·.2) = assign e X.env :: (assignEach es X.env).map (·.2) := by rfl) : FPs X Γ (e :: es) (p :: ps) := by
  obtain ⟨t, pg, h1⟩ := h1.ok
  obtain ⟨hl, u, pgs, h2⟩ := h2.ok
  refine ⟨by rw [List.length_cons, List.length_cons, hl], _, pgs_cons pg pgs hs, fun vs ds σ ρ ρ' H μ Q k he e q => ?_⟩
  cases ds with
  | nil => cases e
  | cons d ds =>
    obtain ⟨v, r, rfl, k1, k2⟩ := k
    have e' : (match bindP p d ρ with | some ρ1 => bindPs ps ds ρ1 | none => none) = some ρ' := e
    cases b : bindP p d ρ with
    | none => rw [b] at e'; cases e'
    | some ρ1 =>
      rw [b] at e'
      refine ⟨v, r, rfl, h1 v d σ ρ ρ1 H μ _ k1 he b fun σ1 ⟨he1, w1⟩ => ?_⟩
      refine h2 r ds σ1 ρ1 ρ' H μ Q k2 he1 e' fun σ2 ⟨he2, w2⟩ => q σ2 ⟨he2, fun vs hv => ?_⟩
      rw [w2 vs fun i hi => hv i (List.mem_append_right _ hi), w1 vs fun i hi => hv i (List.mem_append_left _ hi)]
theorem fp_tup {es : List Expr} {k : Nat} {ps : List Pat} {pos : Pos} (hX : CxG X Γ) (hc : X.calm = true) (h : FPs X Γ es ps)
    (hn : (assignEach es X.env).length = es.length := by rfl) (hst : (assignEach es X.env).findIdx? (·.1) = none := by rfl) : FP X Γ (.Tuple es k pos) (.tp ps) := by
  obtain ⟨hl, t, pgs, h⟩ := h.ok
  refine ⟨_, pg_tup hc pgs hn hst, fun v d σ ρ ρ' H μ Q k he e q => ?_⟩
  cases d with
  | tup ds =>
    obtain ⟨a, vs, rfl, tp, dv⟩ := k
    have e' : bindPs ps ds ρ = some ρ' := e
    have hlen : ∀ (ps : List Pat) (ds : List D) (ρ ρ' : Rho), bindPs ps ds ρ = some ρ' → ps.length = ds.length := by
      intro ps
      induction ps with
      | nil => intro ds ρ ρ' e; cases ds with
        | nil => rfl
        | cons d ds => cases e
      | cons p ps ih => intro ds ρ ρ' e; cases ds with
        | nil => cases e
        | cons d ds =>
          have e' : (match bindP p d ρ with | some ρ1 => bindPs ps ds ρ1 | none => none) = some ρ' := e
          cases b : bindP p d ρ with
          | none => rw [b] at e'; cases e'
          | some ρ1 => rw [b] at e'; rw [List.length_cons, List.length_cons, ih ds ρ1 ρ' e']
    refine ⟨a, vs, rfl, by rw [hX.k]; exact tp.sq, ?_, h vs ds σ ρ ρ' H μ Q dv he e' q⟩
    rw [dv.length, ← hlen ps ds ρ ρ' e', hl]
  | _ => cases e
/-- target = e -/
def sAsg (p : Pat) (f : ME) : MS := fun ρ h => (f ρ h).toS ρ fun d h1 => match bindP p d ρ with
  | some ρ1 => .nx ρ1 h1
  | none => .stuck
theorem fs_asg {tg e : Expr} {f : ME} {p : Pat} {pos : Pos} (he : FE X Γ W e f) (hp : FP X Γ tg p) (hs : swapsWithSole [tg] e pos.line X.env = pure false := by rfl) (hw : swappedStores [tg] e X.env = pure none := by rfl)
    (h1 : (assignEach [tg] X.env).map (·.2) = [assign tg X.env] := by rfl) : FS X Γ W (.Assign [tg] e pos) (sAsg p f) := by
  obtain ⟨t, pg, hp⟩ := hp.ok
  refine ⟨(ps_asg he.ok pg hs hw h1).imp fun N σ H q => ?_⟩
  obtain ⟨ρ, h, μ, he, hr, q⟩ := q
  refine ⟨ρ, h, μ, he, hr, GoodS.bind he q fun a h1 v H1 μ1 z1 e1 r1 d1 q1 => ?_⟩
  split at q1
  · rename_i ρ1 b
    exact hp v a σ ρ ρ1 H1 μ1 _ d1 (he.mono e1) b fun σ' hx => q1 σ' H1 μ1 (Ext.refl _ _) hx.1 r1
  · exact False.elim q1
/-- a, b = x, y -/
def sPar (i j : Nat) (f : MA) : MS := fun ρ h => (f ρ h).toS ρ fun ds h1 => match ds with
  | [a, b] => .nx ((ρ.set i (some a)).set j (some b)) h1
  | _ => .stuck
def sPar3 (i j l : Nat) (f : MA) : MS := fun ρ h => (f ρ h).toS ρ fun ds h1 => match ds with
  | [a, b, c] => .nx (((ρ.set i (some a)).set j (some b)).set l (some c)) h1
  | _ => .stuck
theorem fs_par {i j : Nat} {x y : Str} {a b : Expr} {f : MA} {px py pt pos : Pos} {kt k2 pt2} (hc : X.calm = true) (hN : X.N.Nodup) (hi : X.N[i]? = some x) (hj : X.N[j]? = some y) (hij : i ≠ j)
    (hx : X.env.scope.names.lookup x = some .local) (hy : X.env.scope.names.lookup y = some .local) (ha : FA X Γ W [a, b] f)
    (hw : swappedStores [.Tuple [.Name x px, .Name y py] kt pt] (.Tuple [a, b] k2 pt2) X.env = pure (some [x, y]))
    (hs : swapsWithSole [.Tuple [.Name x px, .Name y py] kt pt] (.Tuple [a, b] k2 pt2) pos.line X.env = pure false := by rfl) :
    FS X Γ W (.Assign [.Tuple [.Name x px, .Name y py] kt pt] (.Tuple [a, b] k2 pt2) pos) (sPar i j f) := by
  refine ⟨(ps_par hc hN hi hj hij hx hy ha.ok hw hs).imp fun N σ H q => ?_⟩
  obtain ⟨ρ, h, μ, he, hr, q⟩ := q
  refine ⟨ρ, h, μ, he, hr, GoodS.bind he q fun a h1 v H1 μ1 z1 e1 r1 d1 q1 => ?_⟩
  split at q1
  · obtain ⟨v, w', rfl, k1, k2⟩ := dens2 d1
    exact ⟨v, w', rfl, q1 _ H1 μ1 (Ext.refl _ _) (((he.mono e1).set k1 i).set k2 j) r1⟩
  · exact False.elim q1
theorem fs_par3 {i j l : Nat} {x y z : Str} {a b c : Expr} {f : MA} {px py pz pt pos : Pos} {kt k2 pt2} (hc : X.calm = true) (hN : X.N.Nodup) (hi : X.N[i]? = some x) (hj : X.N[j]? = some y) (hl : X.N[l]? = some z) (hij : i ≠ j) (hil : i ≠ l) (hjl : j ≠ l)
    (hx : X.env.scope.names.lookup x = some .local) (hy : X.env.scope.names.lookup y = some .local) (hz : X.env.scope.names.lookup z = some .local) (ha : FA X Γ W [a, b, c] f)
    (hw : swappedStores [.Tuple [.Name x px, .Name y py, .Name z pz] kt pt] (.Tuple [a, b, c] k2 pt2) X.env = pure (some [x, y, z]))
    (hs : swapsWithSole [.Tuple [.Name x px, .Name y py, .Name z pz] kt pt] (.Tuple [a, b, c] k2 pt2) pos.line X.env = pure false := by rfl) :
    FS X Γ W (.Assign [.Tuple [.Name x px, .Name y py, .Name z pz] kt pt] (.Tuple [a, b, c] k2 pt2) pos) (sPar3 i j l f) := by
  refine ⟨(ps_par3 hc hN hi hj hl hij hil hjl hx hy hz ha.ok hw hs).imp fun N σ H q => ?_⟩
  obtain ⟨ρ, h, μ, he, hr, q⟩ := q
  refine ⟨ρ, h, μ, he, hr, GoodS.bind he q fun a h1 v H1 μ1 z1 e1 r1 d1 q1 => ?_⟩
  split at q1
  · obtain ⟨v, r, rfl, k1, k2⟩ := d1
    obtain ⟨w1, w2, rfl, k2, k3⟩ := dens2 k2
    exact ⟨v, w1, w2, rfl, q1 _ H1 μ1 (Ext.refl _ _) ((((he.mono e1).set k1 i).set k2 j).set k3 l) r1⟩
  · exact False.elim q1
/-- x op= e -/
def sAug (i : Nat) (g : D → D → List MO → Res D) (f : ME) : MS := fun ρ h => match ρ[i]? with
  | some (some d) => (f ρ h).toS ρ fun e h1 => (g d e h1).toS ρ fun z h2 => .nx (ρ.set i (some z)) h2
  | _ => .stuck
def rAugI (K : PySem.W.Frag) : R2 := fun x y H Q => rI0 (fun i j => .int (i + j)) x y H Q ∨ (∃ i j, x = .str i ∧ y = .str j ∧ i.length + j.length ≤ sizeLine ∧ Q (.str (i ++ j)) H)
theorem fs_aug {i : Nat} {x : Str} {e : Expr} {f : ME} {op : Operator} {r : R2} {g : D → D → List MO → Res D} {pos pos' : Pos} (hN : X.N.Nodup) (hi : X.N[i]? = some x) (hx : Loc X.env.scope x) (he : FE X Γ W e f) (ho : OpR X (inplaceOp op) r) (hg : Op2 Γ r g)
    (hf : X.fn x = true ∨ X.env.scope.names.lookup x = some .local := by first | exact .inl rfl | exact .inr rfl | assumption) : FS X Γ W (.AugAssign (.Name x pos') op e pos) (sAug i g f) := by
  refine ⟨(ps_aug (ti := r) hN hi hx he.ok ho hf).imp fun N σ H q => ?_⟩
  obtain ⟨ρ, h, μ, he, hr, q⟩ := q
  unfold sAug at q
  split at q
  · rename_i d ed
    obtain ⟨v, a, b⟩ := he.get ed
    refine ⟨v, a, ρ, h, μ, he, hr, GoodS.bind he q fun b1 h1 y H1 μ1 z1 e1 r1 d1 q1 => ?_⟩
    refine hg W σ H1 μ1 h1 v y d b1 _ r1 (b.mono e1) d1 (GoodS.bind (he.mono e1) q1 fun z h2 zv H2 μ2 z2 e2 r2 d2 q2 => ?_)
    exact q2 _ H2 μ2 (Ext.refl _ _) (((he.mono e1).mono e2).set d2 i) r2
  · exact False.elim q
/-- l[i] = e, l a list of the mini heap -/
def sSub (f fo fi : ME) : MS := fun ρ h => (f ρ h).toS ρ fun d h1 => (fo ρ h1).toS ρ fun o h2 => (fi ρ h2).toS ρ fun i h3 => match o, i with
  | .ref a, .int k => match hl h3 a with
    | some ds => match ixN ds.length k with
      | some j => .nx ρ (h3.set a (.lst (ds.set j d)))
      | none => .stuck
    | none => .stuck
  | _, _ => .stuck
theorem fs_sub {e o i : Expr} {f fo fi : ME} {spos pos : Pos} (he : FE X Γ W e f) (ho : FE X Γ W o fo) (hi : FE X Γ W i fi)
    (ha : ∀ v, assign (.Subscript o i spos) X.env v = (do
      let ov ← holding [v] (eval o X.env)
      let iv ← holding [v, ov] (eval i X.env)
      standAt spos
      holding [v, ov, iv] (setItem ov iv v)
      release [v, ov, iv] []) := by intro _; rfl) (hs : swapsWithSole [.Subscript o i spos] e pos.line X.env = pure false := by rfl) (hw : swappedStores [.Subscript o i spos] e X.env = pure none := by rfl)
    (h1 : (assignEach [.Subscript o i spos] X.env).map (·.2) = [assign (.Subscript o i spos) X.env] := by rfl) : FS X Γ W (.Assign [.Subscript o i spos] e pos) (sSub f fo fi) := by
  refine ⟨(ps_asg he.ok (pg_sub ho.ok hi.ok set_list ha) hs hw h1).imp fun N σ H q => ?_⟩
  obtain ⟨ρ, h, μ, he, hr, q⟩ := q
  refine ⟨ρ, h, μ, he, hr, GoodS.bind he q fun d h1 v H1 μ1 z1 e1 r1 d1 q1 => ?_⟩
  refine ⟨ρ, h1, μ1, he.mono e1, r1, GoodS.bind (he.mono e1) q1 fun o h2 ov H2 μ2 z2 e2 r2 d2 q2 => ?_⟩
  refine ⟨ρ, h2, μ2, (he.mono e1).mono e2, r2, GoodS.bind ((he.mono e1).mono e2) q2 fun i h3 iv H3 μ3 z3 e3 r3 d3 q3 => ?_⟩
  split at q3
  · split at q3
    · rename_i a k _ ds eh
      split at q3
      · rename_i j ej
        obtain ⟨p, rfl, hp⟩ := d2.mono e3
        cases d3
        obtain ⟨vs, w1, w2⟩ := r3.ob a p _ hp (hl_iff.mp eh)
        refine ⟨p, vs, k, j, rfl, rfl, w1, by rw [w2.length]; exact ej, ?_⟩
        have dv : Den Γ μ3 H3 v d := (d1.mono e2).mono e3
        exact q3 σ _ μ3 (ext_write (List.mem_of_getElem? hp)) ((((he.mono e1).mono e2).mono e3).mono (ext_write (List.mem_of_getElem? hp))) (rel_write r3 hp (Dens.set dv j w2))
      · exact False.elim q3
    · exact False.elim q3
  · exact False.elim q3
end
end MP
end
section
set_option Elab.async false
set_option linter.all false
set_option maxRecDepth 100000
set_option maxHeartbeats 1000000
/-! M8: while, for, comprehensions. -/
namespace MP
open PySem PySem.Spec PyProof.Rows L2

/-! ### while -/
def loopW (c : MT) (b : MS) : Nat → MS
  | 0 => fun _ _ => .stuck
  | n + 1 => fun ρ h => (c ρ h).toS ρ fun t h1 => if t then (match b ρ h1 with
      | .nx ρ2 h2 => loopW c b n ρ2 h2
      | .ct ρ2 h2 => loopW c b n ρ2 h2
      | .bk ρ2 h2 => .nx ρ2 h2
      | r => r) else .nx ρ h1
section
variable {X : Cx} {Γ : G} {W : WX}
theorem fs_while {c : Expr} {body : List Stmt} {fc : MT} {fb : MS} {n : Nat} {pos : Pos} (hp : PassesOwn (model X.prog X.w) X.A X.env X.xe) (hc : FT X Γ W c fc) (hb : FSs X Γ W body fb) : FS X Γ W (.While c body [] pos) (loopW fc fb n) := by
  refine ⟨(ps_while hp hc.ok hb.ok).imp fun N σ H q => ?_⟩
  obtain ⟨ρ, h, μ, he, hr, q⟩ := q
  refine ⟨fun m σ H => ∃ ρ h μ, EnvOk Γ μ H σ ρ ∧ Rel Γ H μ h ∧ GoodS Γ W H μ N (loopW fc fb m ρ h), ⟨n, ρ, h, μ, he, hr, q⟩, ?_⟩
  rintro m σ H ⟨ρ, h, μ, he, hr, q⟩
  cases m with
  | zero => exact False.elim q
  | succ m =>
    refine ⟨ρ, h, μ, he, hr, GoodS.bind he q fun a h1 v H1 μ1 _ e1 r1 d1 q1 => ?_⟩
    cases (show v = a from d1)
    cases a with
    | false => exact q1 σ H1 μ1 (Ext.refl _ _) (he.mono e1) r1
    | true =>
      rw [if_pos rfl] at q1 ⊢
      refine ⟨fun σ' H' => ∃ ρ h μ, EnvOk Γ μ H' σ' ρ ∧ Rel Γ H' μ h ∧ GoodS Γ W H' μ N (loopW fc fb m ρ h), fun σ' H' z => ⟨m, Nat.lt_succ_self m, z⟩, ρ, h1, μ1, he.mono e1, r1, ?_⟩
      cases eb : fb ρ h1 with
      | nx ρ2 h2 => rw [eb] at q1; exact fun σ' H' μ' e2 he2 hr2 => ⟨ρ2, h2, μ', he2, hr2, GoodS.mono e2 q1⟩
      | ct ρ2 h2 => rw [eb] at q1; exact fun σ' H' μ' e2 he2 hr2 => ⟨ρ2, h2, μ', he2, hr2, GoodS.mono e2 q1⟩
      | bk ρ2 h2 => rw [eb] at q1; exact q1
      | rt d h2 => rw [eb] at q1; exact q1
      | err ex ρ2 h2 => rw [eb] at q1; exact q1
      | stuck => rw [eb] at q1; exact q1
end

/-! ### what is walked -/
structure IterD where
  items : List D
  ck : Option (Nat × List D)
def ckOk (it : IterD) (h : List MO) : Bool := match it.ck with
  | none => true
  | some (i, l) => decide (hl h i = some l)
/-- the iterator J gives the items -/
def Yields (Γ : G) (H1 : Hp) (μ1 : List Addr) (J : It) (it : IterD) : Prop := ∀ (H : Hp) (μ : List Addr) (h : List MO), Ext H1 μ1 H μ → Rel Γ H μ h → ckOk it h = true →
  (∀ (i : Nat) (d : D), it.items[i]? = some d → J.go i H ∧ ∀ x H', J.yld i H x H' → Ext H μ H' μ ∧ Rel Γ H' μ h ∧ Den Γ μ H' x d) ∧ ∀ i : Nat, it.items.length ≤ i → J.stop i H
abbrev MI := Rho → List MO → Res IterD
abbrev denI (Γ : G) : Hp → List Addr → It → IterD → Prop := fun H μ J it => Yields Γ H μ J it
def tI (Γ : G) (W : WX) (f : MI) : TI := fun σ H R => ∃ ρ h μ, EnvOk Γ μ H σ ρ ∧ Rel Γ H μ h ∧ Good Γ W σ H μ (denI Γ) (fun J H1 => R J H1) (f ρ h)
structure FI (X : Cx) (Γ : G) (W : WX) (tg iter : Expr) (f : MI) : Prop where
  ok : PI X tg iter (tI Γ W f)
theorem PIimp {X : Cx} {tg iter : Expr} {t t' : TI} (h : PI X tg iter t) (i : ∀ σ H R, t' σ H R → t σ H R) : PI X tg iter t' := ⟨fun pins s σ H R I q => h.run pins s σ H R I (i _ _ _ q)⟩

/-! ### for -/
def loopF (p : Pat) (b : MS) (it : IterD) : List D → MS
  | [] => fun ρ h => if ckOk it h then .nx ρ h else .stuck
  | d :: ds => fun ρ h => if ckOk it h then match bindP p d ρ with
      | some ρ1 => (match b ρ1 h with
        | .nx ρ2 h2 => loopF p b it ds ρ2 h2
        | .ct ρ2 h2 => loopF p b it ds ρ2 h2
        | .bk ρ2 h2 => .nx ρ2 h2
        | r => r)
      | none => .stuck
    else .stuck
def sFor (fi : MI) (p : Pat) (b : MS) : MS := fun ρ h => (fi ρ h).toS ρ fun it h1 => loopF p b it it.items ρ h1
section
variable {X : Cx} {Γ : G} {W : WX}
theorem fs_for {tg iter : Expr} {body : List Stmt} {fi : MI} {p : Pat} {fb : MS} {pos : Pos} (hp : PassesOwn (model X.prog X.w) X.A X.env X.xe) (hc : X.calm = true) (hi : FI X Γ W tg iter fi) (hg : FP X Γ tg p) (hb : FSs X Γ W body fb)
    (hs : ∀ x, foldedSetIterable iter X.env x = pure x := by intro _; rfl) : FS X Γ W (.For tg iter body [] pos) (sFor fi p fb) := by
  obtain ⟨t, pg, hg⟩ := hg.ok
  refine ⟨(ps_for hp hc hi.ok pg hb.ok hs).imp fun N σ H q => ?_⟩
  obtain ⟨ρ, h, μ, he, hr, q⟩ := q
  refine ⟨ρ, h, μ, he, hr, GoodS.bind he q fun it h1 J H1 μ1 _ e1 r1 y1 q1 => ?_⟩
  refine ⟨fun i m σ H => ∃ ρ h μ, Ext H1 μ1 H μ ∧ EnvOk Γ μ H σ ρ ∧ Rel Γ H μ h ∧ m = it.items.length - i ∧ i ≤ it.items.length ∧ GoodS Γ W H μ N (loopF p fb it (it.items.drop i) ρ h),
    ⟨_, ρ, h1, μ1, Ext.refl _ _, he.mono e1, r1, rfl, Nat.zero_le _, q1⟩, ?_⟩
  rintro i m σ H ⟨ρ, h, μ, ex, he, hr, rfl, hi, q⟩
  by_cases hlt : i < it.items.length
  · have ed : it.items.drop i = it.items[i] :: it.items.drop (i + 1) := List.drop_eq_getElem_cons hlt
    rw [ed] at q
    unfold loopF at q
    split at q
    · rename_i ck
      split at q
      · rename_i ρ1 bp
        obtain ⟨y, _⟩ := y1 H μ h ex hr ck
        obtain ⟨go, yl⟩ := y i _ (List.getElem?_eq_getElem hlt)
        refine .inr ⟨go, fun σ' H' => ∃ ρ h μ, Ext H1 μ1 H' μ ∧ EnvOk Γ μ H' σ' ρ ∧ Rel Γ H' μ h ∧ GoodS Γ W H' μ N (loopF p fb it (it.items.drop (i + 1)) ρ h), fun σ' H' ⟨ρ', h', μ', a, b, c, d⟩ => ⟨it.items.length - (i + 1), by omega, ρ', h', μ', a, b, c, rfl, hlt, d⟩, fun x H' yx => ?_⟩
        obtain ⟨e2, r2, d2⟩ := yl x H' yx
        refine hg x _ σ ρ ρ1 H' μ _ d2 (he.mono e2) bp fun σ2 ⟨he2, _⟩ => ⟨ρ1, h, μ, he2, r2, ?_⟩
        have ex2 := ex.trans e2
        cases eb : fb ρ1 h with
        | nx ρ2 h2 => rw [eb] at q; exact fun σ' H3 μ' e3 he3 hr3 => ⟨ρ2, h2, μ', ex2.trans e3, he3, hr3, GoodS.mono (e2.trans e3) q⟩
        | ct ρ2 h2 => rw [eb] at q; exact fun σ' H3 μ' e3 he3 hr3 => ⟨ρ2, h2, μ', ex2.trans e3, he3, hr3, GoodS.mono (e2.trans e3) q⟩
        | bk ρ2 h2 => rw [eb] at q; exact fun σ' H3 μ' e3 he3 hr3 => q σ' H3 μ' (e2.trans e3) he3 hr3
        | rt d h2 => rw [eb] at q; exact fun v H3 μ' e3 he3 hr3 => q v H3 μ' (e2.trans e3) he3 hr3
        | err exn ρ2 h2 => rw [eb] at q; exact fun c d σ' H3 μ' e3 he3 hr3 => q c d σ' H3 μ' (e2.trans e3) he3 hr3
        | stuck => rw [eb] at q; exact False.elim q
      · exact False.elim q
    · exact False.elim q
  · have e : i = it.items.length := by omega
    subst e
    rw [List.drop_length] at q
    unfold loopF at q
    split at q
    · rename_i ck
      obtain ⟨_, y⟩ := y1 H μ h ex hr ck
      exact .inl ⟨y _ (Nat.le_refl _), q σ H μ (Ext.refl _ _) he hr⟩
    · exact False.elim q
end

/-! ### comprehensions -/
def wipeD (ρ : Rho) : List Nat → Rho
  | [] => ρ
  | v :: vs => (wipeD ρ vs).set v none
theorem wipe_env {Γ : G} {μ : List Addr} {H : Hp} {σ : L2.St} {ρ : Rho} (he : EnvOk Γ μ H σ ρ) : ∀ vs : List Nat, EnvOk Γ μ H (wipe σ vs) (wipeD ρ vs)
  | [] => he
  | v :: vs => (wipe_env he vs).wipe v
/-- the turns of a comprehension: an error within is not carried -/
def loopC (p : Pat) (ft : MT) (fe : ME) (it : IterD) (ρ0 : Rho) : List D → List D → List MO → Res (List D)
  | [], acc, h => if ckOk it h then .ok acc h else .stuck
  | d :: ds, acc, h => if ckOk it h then match bindP p d ρ0 with
      | some ρ1 => (match ft ρ1 h with
        | .ok true h1 => (match fe ρ1 h1 with
          | .ok y h2 => if acc.length < LINE then loopC p ft fe it ρ0 ds (acc ++ [y]) h2 else .stuck
          | _ => .stuck)
        | .ok false h1 => loopC p ft fe it ρ0 ds acc h1
        | _ => .stuck)
      | none => .stuck
    else .stuck
def xLcA (fi : MI) (p : Pat) (ft : MT) (fe : ME) (own : List Nat) : Rho → List MO → Res (List D) := fun ρ h => (fi ρ h).bind fun it h1 => loopC p ft fe it (wipeD ρ own) it.items [] h1
def xLc (fi : MI) (p : Pat) (ft : MT) (fe : ME) (own : List Nat) : ME := fun ρ h => (xLcA fi p ft fe own ρ h).bind fun ds h1 => .ok (.lst ds) h1
def xLcN (fi : MI) (p : Pat) (ft : MT) (fe : ME) (own : List Nat) : ME := fun ρ h => (xLcA fi p ft fe own ρ h).bind fun ds h1 => .ok (.ref h1.length) (h1 ++ [.lst ds])
abbrev W0 : WX := fun _ _ _ _ => False
def xYes : MT := fun _ h => .ok true h
/-- the tests of a clause -/
structure FTs (X : Cx) (Γ : G) (W : WX) (es : List Expr) (f : MT) : Prop where
  ok : PTs X es (tT Γ W f)
section
variable {X : Cx} {Γ : G} {W : WX}
theorem ft_nil : FTs X Γ W [] xYes := ⟨⟨fun pins s σ H Q I q => pts_nil.run pins s σ H Q I (by
  obtain ⟨ρ, h, μ, he, hr, q⟩ := q
  exact q true H μ (Ext.refl _ _) hr rfl)⟩⟩
theorem ft_one {c : Expr} {f : MT} (h : FT X Γ W c f) : FTs X Γ W [c] f := ⟨pts_one h.ok⟩
abbrev blkX (X : Cx) (scope : Scope) (s : Shared) (H : Hp) (C : Addr) (cl : List (Str × Addr)) (fp : List Addr) : Cx := X.blk s H scope (compEnvC scope cl C X.env) fp
/-- what the loop leaves -/
theorem lc_run {fi : MI} {p : Pat} {ft : MT} {fe : ME} {own : List Nat} {t : TG} (hpo : ∀ i ∈ patS p, i ∈ own)
    (hg : ∀ (v : V) (d : D) (σ : L2.St) (ρ ρ' : Rho) (H : Hp) (μ : List Addr) (Q : L2.St → Hp → Prop), Den Γ μ H v d → EnvOk Γ μ H σ ρ → bindP p d ρ = some ρ' → (∀ σ', PatEnd Γ H μ (patS p) σ σ' ρ' → Q σ' H) → t v σ H Q)
    {σ : L2.St} {H : Hp} {Q : VK} {ρ : Rho} {h : List MO} {μ : List Addr} (he : EnvOk Γ μ H σ ρ) (hr : Rel Γ H μ h) {α : Type} {k : List D → List MO → Res α} {den : Hp → List Addr → V → α → Prop} {Qg : V → Hp → Prop}
    (q : Good Γ W σ H μ den Qg ((xLcA fi p ft fe own ρ h).bind k))
    (fin : ∀ ds h1 Hb μb H1 μ1 vs p, Ext H μ Hb μb → Ext Hb μb H1 μ1 → Rel Γ H1 μ1 h1 → Dens Γ μ1 H1 vs ds → Hb p = none → p ∉ μ1 → H1 p = some (.lst vs) → Good Γ W σ Hb μb den Qg (k ds h1) → Q (.ref p) H1) :
    tLc (tI Γ W fi) t (tT Γ W0 ft) (tE Γ W0 fe) own σ H Q := by
  have q' : Good Γ W σ H μ den Qg ((fi ρ h).bind fun it h1 => (loopC p ft fe it (wipeD ρ own) it.items [] h1).bind k) := by
    rw [← Res.bind_assoc]; exact q
  refine ⟨ρ, h, μ, he, hr, Good.bind q' fun it h1 J H1 μ1 _ e1 r1 y1 q1 => ?_⟩
  intro L hL
  have pL : L ∉ μ1 := r1.fresh hL
  refine ⟨fun i m H' => ∃ h μ' acc vs, Ext H1 μ1 H' μ' ∧ Rel Γ H' μ' h ∧ L ∉ μ' ∧ H' L = some (.lst vs) ∧ Dens Γ μ' H' vs acc ∧ m = it.items.length - i ∧ i ≤ it.items.length ∧ Good Γ W σ H1 μ1 den Qg ((loopC p ft fe it (wipeD ρ own) (it.items.drop i) acc h).bind k),
    ⟨_, h1, μ1, [], [], Ext.laid hL, r1.laid hL, pL, upd_same, rfl, rfl, Nat.zero_le _, q1⟩, ?_⟩
  rintro i m H' ⟨h, μ', acc, vs, ex, hr', nL, eL, dv, rfl, hi, q⟩
  have heW : EnvOk Γ μ' H' (wipe σ own) (wipeD ρ own) := wipe_env ((he.mono e1).mono ex) own
  by_cases hlt : i < it.items.length
  · have ed : it.items.drop i = it.items[i] :: it.items.drop (i + 1) := List.drop_eq_getElem_cons hlt
    rw [ed] at q
    unfold loopC at q
    split at q
    · rename_i ck
      split at q
      · rename_i ρ1 bp
        obtain ⟨y, _⟩ := y1 H' μ' h ex hr' ck
        obtain ⟨go, yl⟩ := y i _ (List.getElem?_eq_getElem hlt)
        refine .inr ⟨go, fun H'' => ∃ h μ' acc vs, Ext H1 μ1 H'' μ' ∧ Rel Γ H'' μ' h ∧ L ∉ μ' ∧ H'' L = some (.lst vs) ∧ Dens Γ μ' H'' vs acc ∧ Good Γ W σ H1 μ1 den Qg ((loopC p ft fe it (wipeD ρ own) (it.items.drop (i + 1)) acc h).bind k),
          fun H'' ⟨h2, μ2, acc2, vs2, a, b, c, d, e, f⟩ => ⟨it.items.length - (i + 1), by omega, h2, μ2, acc2, vs2, a, b, c, d, e, rfl, hlt, f⟩, fun x H2 yx => ?_⟩
        obtain ⟨e2, r2, d2⟩ := yl x H2 yx
        refine hg x _ (wipe σ own) (wipeD ρ own) ρ1 H2 μ' _ d2 (heW.mono e2) bp fun σ2 ⟨he2, w2⟩ => ⟨?_, ?_⟩
        · rw [w2 own hpo]
          have ww : ∀ (vs us : List Nat) (σ : L2.St), (∀ i ∈ us, i ∈ vs) → wipe (wipe σ vs) us = wipe σ vs := by
            intro vs us
            induction us with
            | nil => intro σ _; rfl
            | cons u us ih =>
              intro σ hu
              show (wipe (wipe σ vs) us).set u none = wipe σ vs
              rw [ih σ fun i hi => hu i (List.mem_cons_of_mem _ hi)]
              have hm : u ∈ vs := hu u List.mem_cons_self
              have key : ∀ (vs : List Nat), u ∈ vs → (wipe σ vs).set u none = wipe σ vs := by
                intro vs
                induction vs with
                | nil => intro h; cases h
                | cons v vs ih2 =>
                  intro h
                  show ((wipe σ vs).set v none).set u none = (wipe σ vs).set v none
                  by_cases hv : u = v
                  · subst hv
                    rw [List.set_set]
                  · rw [List.set_comm _ _ (Ne.symm hv), ih2 (by rcases List.mem_cons.mp h with h | h; exact absurd h hv; exact h)]
              exact key vs hm
          exact ww own own σ fun _ h => h
        · have ex2 := ex.trans e2
          have eL2 : H2 L = some (.lst vs) := e2.keep _ _ eL nL fun ps z => nomatch z
          refine ⟨ρ1, h, μ', he2, r2, ?_⟩
          cases et : ft ρ1 h with
          | ok b h2 =>
            rw [et] at q
            intro b' H3 μ3 e3 r3 hb
            cases (show b' = b from hb)
            have ex3 := ex2.trans e3
            have eL3 : H3 L = some (.lst vs) := e3.keep _ _ eL2 nL fun ps z => nomatch z
            have nL3 : L ∉ μ3 := e3.out eL2 nL
            cases b with
            | false =>
              rw [if_neg Bool.false_ne_true]
              exact ⟨h2, μ3, acc, vs, ex3, r3, nL3, eL3, (dv.mono e2).mono e3, q⟩
            | true =>
              rw [if_pos rfl]
              refine ⟨ρ1, h2, μ3, he2.mono e3, r3, ?_⟩
              have q : Good Γ W σ H1 μ1 den Qg ((match fe ρ1 h2 with
                | .ok y h2 => if acc.length < LINE then loopC p ft fe it (wipeD ρ own) (it.items.drop (i + 1)) (acc ++ [y]) h2 else .stuck
                | _ => .stuck).bind k) := q
              cases ee : fe ρ1 h2 with
              | ok y h4 =>
                rw [ee] at q
                simp only at q
                split at q
                · rename_i hl
                  intro yv H4 μ4 e4 r4 dy
                  have eL4 : H4 L = some (.lst vs) := e4.keep _ _ eL3 nL3 fun ps z => nomatch z
                  have nL4 : L ∉ μ4 := e4.out eL3 nL3
                  have dv4 : Dens Γ μ4 H4 vs acc := ((dv.mono e2).mono e3).mono e4
                  have el : Ext H1 μ1 (upd H4 L (.lst (vs ++ [yv]))) μ4 := by
                    have e0 := ex3.trans e4
                    exact ⟨e0.pre, fun a u ea na t => by rw [upd_ne (ne_of_none ea hL)]; exact e0.keep a u ea na t, fun a ps ea na => by rw [upd_ne (ne_of_none ea hL)]; exact e0.keepT a ps ea na, e0.new⟩
                  have dn : Dens Γ μ4 (upd H4 L (.lst (vs ++ [yv]))) (vs ++ [yv]) (acc ++ [y]) := (dv4.append (Dens.one dy)).mono0 (Ext0.off eL4 nL4)
                  refine ⟨vs, eL4, by rw [line_eq, dv4.length]; exact hl, h4, μ4, acc ++ [y], vs ++ [yv], el, r4.off eL4 nL4, nL4, upd_same, dn, q⟩
                · exact False.elim q
              | err ex2 h4 => rw [ee] at q; exact False.elim q
              | stuck => rw [ee] at q; exact False.elim q
          | err ex2 h4 => rw [et] at q; exact False.elim q
          | stuck => rw [et] at q; exact False.elim q
      · exact False.elim q
    · exact False.elim q
  · have e : i = it.items.length := by omega
    subst e
    rw [List.drop_length] at q
    unfold loopC at q
    split at q
    · rename_i ck
      obtain ⟨_, y⟩ := y1 H' μ' h ex hr' ck
      refine .inl ⟨y _ (Nat.le_refl _), ?_⟩
      exact fin acc h H1 μ1 H' μ' vs L e1 ex hr' dv hL nL eL q
    · exact False.elim q
end
end MP
end
section
set_option Elab.async false
set_option linter.all false
set_option maxRecDepth 100000
set_option maxHeartbeats 1000000
/-! M9: comprehensions as expressions, what they walk. -/
namespace L2
open PySem PySem.Spec PyProof.Rows
def Ends.fz (D : Ends) : Ends := { D with nx := fun σ H => D.nx σ H ∨ ∃ p xs, H p = some (.lst xs) ∧ ∀ o, D.nx σ (upd H p (.frz o (.lst xs))) }
theorem PS.fz {X : Cx} {e : Stmt} {t : TS} (h : PS X e t) : PS X e fun D σ H => t D.fz σ H := ⟨fun pins s σ H D I q => wpAny_mono (h.run pins s σ H _ I q) (fun f s' z => by
  cases f with
  | next =>
    obtain ⟨σ', H', I', q⟩ := z
    rcases q with q | ⟨p, xs, e, q⟩
    · exact ⟨σ', H', I', q⟩
    · obtain ⟨o, I2⟩ := I'.frz e
      exact ⟨_, _, I2, q o⟩
  | _ => exact z) fun _ _ x => x⟩
theorem PG.imp {X : Cx} {e : Expr} {t t' : TG} (h : PG X e t) (i : ∀ v σ H Q, t' v σ H Q → t v σ H Q) : PG X e t' := ⟨fun pins s σ H v u Q I r q => h.run pins s σ H v u Q I r (i _ _ _ _ q)⟩
end L2
namespace MP
open PySem PySem.Spec PyProof.Rows L2
def tP (Γ : G) (p : Pat) : TG := fun v σ H Q => ∃ d ρ ρ' μ, Den Γ μ H v d ∧ EnvOk Γ μ H σ ρ ∧ bindP p d ρ = some ρ' ∧ ∀ σ', PatEnd Γ H μ (patS p) σ σ' ρ' → Q σ' H
theorem FP.pg {X : Cx} {Γ : G} {tg : Expr} {p : Pat} (h : FP X Γ tg p) : PG X tg (tP Γ p) := by
  obtain ⟨t, pg, q⟩ := h.ok
  exact pg.imp fun v σ H Q ⟨d, ρ, ρ', μ, a, b, c, k⟩ => q v d σ ρ ρ' H μ Q a b c k
section
variable {X : Cx} {Γ : G} {W : WX}
theorem lc_t {fi : MI} {p : Pat} {ft : MT} {fe : ME} {own : List Nat} (hpo : ∀ i ∈ patS p, i ∈ own) {σ : L2.St} {H : Hp} {Q : VK} {ρ : Rho} {h : List MO} {μ : List Addr} (he : EnvOk Γ μ H σ ρ) (hr : Rel Γ H μ h)
    {α : Type} {k : List D → List MO → Res α} {den : Hp → List Addr → V → α → Prop} {Qg : V → Hp → Prop} (q : Good Γ W σ H μ den Qg ((xLcA fi p ft fe own ρ h).bind k))
    (fin : ∀ ds h1 Hb μb H1 μ1 vs p, Ext H μ Hb μb → Ext Hb μb H1 μ1 → Rel Γ H1 μ1 h1 → Dens Γ μ1 H1 vs ds → Hb p = none → p ∉ μ1 → H1 p = some (.lst vs) → Good Γ W σ Hb μb den Qg (k ds h1) → Q (.ref p) H1) :
    tLc (tI Γ W fi) (tP Γ p) (tT Γ W0 ft) (tE Γ W0 fe) own σ H Q :=
  lc_run hpo (fun v d σ ρ ρ' H μ Q a b c k => ⟨d, ρ, ρ', μ, a, b, c, k⟩) he hr q fin
/-- the list is known from now on -/
theorem lc_frz {σ : L2.St} {H : Hp} {μ : List Addr} {Q : VK} {ds : List D} {h1 : List MO} {H1 : Hp} {μ1 : List Addr} {vs : List V} {p : Addr} (e : Ext H μ H1 μ1) (r : Rel Γ H1 μ1 h1) (d : Dens Γ μ1 H1 vs ds) (hp : H p = none) (hm : p ∉ μ1) (hl : H1 p = some (.lst vs))
    (q : ∀ v H' μ', Ext H μ H' μ' → Rel Γ H' μ' h1 → Den Γ μ' H' v (.lst ds) → Q v H') (o : Obj) : Q (.ref p) (upd H1 p (.frz o (.lst vs))) := by
  refine q _ _ μ1 ?_ (r.off hl hm) ⟨p, vs, rfl, .inl ⟨hm, o, upd_same⟩, d.mono0 (Ext0.off hl hm)⟩
  exact ⟨e.pre, fun a u ea na t => by rw [upd_ne (ne_of_none ea hp)]; exact e.keep a u ea na t, fun a ps ea na => by rw [upd_ne (ne_of_none ea hp)]; exact e.keepT a ps ea na, e.new⟩
/-- the list comes to the mini heap -/
theorem lc_new {H : Hp} {μ : List Addr} {Q : VK} {ds : List D} {h1 : List MO} {H1 : Hp} {μ1 : List Addr} {vs : List V} {p : Addr} (e : Ext H μ H1 μ1) (r : Rel Γ H1 μ1 h1) (d : Dens Γ μ1 H1 vs ds) (hp : H p = none) (hm : p ∉ μ1) (hl : H1 p = some (.lst vs))
    (q : ∀ v H' μ', Ext H μ H' μ' → Rel Γ H' μ' (h1 ++ [.lst ds]) → Den Γ μ' H' v (.ref h1.length) → Q v H') : Q (.ref p) H1 := by
  have e0 : Ext0 H1 μ1 H1 (μ1 ++ [p]) := ⟨List.prefix_append _ _, fun a u ea _ _ _ => ea, fun a ps ea _ => ⟨ps, ea⟩, fun a m => by
    rcases List.mem_append.mp m with m | m
    · exact .inl m
    · rw [List.mem_singleton.mp m]; exact .inr (.inr ⟨vs, hl⟩)⟩
  refine q _ _ (μ1 ++ [p]) ?_ ?_ ⟨p, rfl, by rw [← r.len, List.getElem?_append_right (Nat.le_refl _), Nat.sub_self]; rfl⟩
  · exact ⟨e.pre.trans (List.prefix_append _ _), e.keep, e.keepT, fun a m => by
      rcases List.mem_append.mp m with m | m
      · exact e.new a m
      · rw [List.mem_singleton.mp m]; exact .inr hp⟩
  · exact {
      len := by rw [List.length_append, List.length_append, r.len]; rfl
      nd := List.nodup_append.mpr ⟨r.nd, by simp, fun a m b m2 z => by
        rw [List.mem_singleton.mp m2] at z
        rw [z] at m
        exact hm m⟩
      ob := fun i a o h1 h2 => by
        by_cases hi : i < μ1.length
        · rw [List.getElem?_append_left hi] at h1
          rw [List.getElem?_append_left (by rw [← r.len]; exact hi)] at h2
          have x := r.ob i a o h1 h2
          cases o with
          | lst es => obtain ⟨us, q, z⟩ := x; exact ⟨us, q, z.mono0 e0⟩
          | dead => exact x
        · have hi2 : i = μ1.length := by
            have := (List.getElem?_eq_some_iff.mp h1).1
            rw [List.length_append] at this
            simp at this
            omega
          subst hi2
          rw [List.getElem?_append_right (Nat.le_refl _), Nat.sub_self] at h1
          rw [r.len, List.getElem?_append_right (Nat.le_refl _), Nat.sub_self] at h2
          cases h1; cases h2
          exact ⟨vs, hl, d.mono0 e0⟩
      tabs := r.tabs
      j := Γ.Jm r.j e0 }
section
variable {elt tg iter : Expr} {ifs : List Expr} {scope : Scope} {own : List (Str × Nat)} {pos : Pos} {fi : MI} {p : Pat} {ft : MT} {fe : ME}
theorem fe_lc (hc : X.calm = true) (hN : X.N.Nodup) (hi : FI X Γ W tg iter fi) (ok : BlkOk X.N X.env.scope scope own) (hpo : ∀ i ∈ patS p, i ∈ own.map (·.2))
    (hg : ∀ s H C cl fp, FP (blkX X scope s H C cl fp) Γ tg p) (ht : ∀ s H C cl fp, FTs (blkX X scope s H C cl fp) Γ W0 ifs ft)
    (he : ∀ s H C cl fp, FE (blkX X scope s H C cl fp) Γ W0 elt fe) (hs : ∀ x, foldedSetIterable iter X.env x = pure x := by intro _; rfl) : FE X Γ W (.ListComp elt [⟨tg, iter, ifs, 0⟩] scope pos) (xLc fi p ft fe (own.map (·.2))) := by
  refine ⟨(pe_lc hc hN hi.ok ok (fun s H C cl fp => (hg s H C cl fp).pg) (fun s H C cl fp => (ht s H C cl fp).ok) (fun s H C cl fp => (he s H C cl fp).ok) hs).fz.imp fun σ H Q q => ?_⟩
  obtain ⟨ρ, h, μ, he, hr, q⟩ := q
  exact lc_t hpo he hr q fun ds h1 Hb μb H1 μ1 vs p eb e r d hp hm hl q => .inr ⟨p, vs, rfl, hl, fun o => lc_frz (σ := σ) e r d hp hm hl q o⟩
theorem fe_lcN (hc : X.calm = true) (hN : X.N.Nodup) (hi : FI X Γ W tg iter fi) (ok : BlkOk X.N X.env.scope scope own) (hpo : ∀ i ∈ patS p, i ∈ own.map (·.2))
    (hg : ∀ s H C cl fp, FP (blkX X scope s H C cl fp) Γ tg p) (ht : ∀ s H C cl fp, FTs (blkX X scope s H C cl fp) Γ W0 ifs ft)
    (he : ∀ s H C cl fp, FE (blkX X scope s H C cl fp) Γ W0 elt fe) (hs : ∀ x, foldedSetIterable iter X.env x = pure x := by intro _; rfl) : FE X Γ W (.ListComp elt [⟨tg, iter, ifs, 0⟩] scope pos) (xLcN fi p ft fe (own.map (·.2))) := by
  refine ⟨(pe_lc hc hN hi.ok ok (fun s H C cl fp => (hg s H C cl fp).pg) (fun s H C cl fp => (ht s H C cl fp).ok) (fun s H C cl fp => (he s H C cl fp).ok) hs).imp fun σ H Q q => ?_⟩
  obtain ⟨ρ, h, μ, he, hr, q⟩ := q
  exact lc_t hpo he hr q fun ds h1 Hb μb H1 μ1 vs p eb e r d hp hm hl q => lc_new e r d hp hm hl q
theorem fs_setLc {i : Nat} {y : Str} {py spos : Pos} (hc : X.calm = true) (hN : X.N.Nodup) (hy : X.N[i]? = some y) (hyl : X.env.scope.names.lookup y = some .local)
    (hsw : swapsWith (.ListComp elt [⟨tg, iter, ifs, 0⟩] scope pos) (some (.Name y py)) spos.line X.env = pure true) (hi : FI X Γ W tg iter fi) (ok : BlkOk X.N X.env.scope scope own) (hpo : ∀ i ∈ patS p, i ∈ own.map (·.2))
    (hg : ∀ s H C cl fp, FP (blkX X scope s H C cl fp) Γ tg p) (ht : ∀ s H C cl fp, FTs (blkX X scope s H C cl fp) Γ W0 ifs ft)
    (he : ∀ s H C cl fp, FE (blkX X scope s H C cl fp) Γ W0 elt fe) (hs : ∀ x, foldedSetIterable iter X.env x = pure x := by intro _; rfl) : FS X Γ W (.Assign [.Name y py] (.ListComp elt [⟨tg, iter, ifs, 0⟩] scope pos) spos) (sSet i (xLc fi p ft fe (own.map (·.2)))) := by
  refine ⟨(ps_setLc hc hN hy hyl hsw hi.ok ok (fun s H C cl fp => (hg s H C cl fp).pg) (fun s H C cl fp => (ht s H C cl fp).ok) (fun s H C cl fp => (he s H C cl fp).ok) hs).fz.imp fun N σ H q => ?_⟩
  obtain ⟨ρ, h, μ, he, hr, q⟩ := q
  have g : Good Γ W σ H μ (denE Γ) (fun x H1 => N.nx (σ.set i (some x)) H1) (xLc fi p ft fe (own.map (·.2)) ρ h) := GoodS.bind he q fun a h1 v H1 μ1 z1 e1 r1 d1 q1 => q1 _ H1 μ1 (Ext.refl _ _) ((he.mono e1).set d1 i) r1
  exact lc_t hpo he hr g fun ds h1 Hb μb H1 μ1 vs p eb e r d hp hm hl q => .inr ⟨p, vs, hl, fun o => lc_frz (σ := σ) (Q := fun x H1 => N.nx (σ.set i (some x)) H1) e r d hp hm hl q o⟩
theorem fs_setLcN {i : Nat} {y : Str} {py spos : Pos} (hc : X.calm = true) (hN : X.N.Nodup) (hy : X.N[i]? = some y) (hyl : X.env.scope.names.lookup y = some .local)
    (hsw : swapsWith (.ListComp elt [⟨tg, iter, ifs, 0⟩] scope pos) (some (.Name y py)) spos.line X.env = pure true) (hi : FI X Γ W tg iter fi) (ok : BlkOk X.N X.env.scope scope own) (hpo : ∀ i ∈ patS p, i ∈ own.map (·.2))
    (hg : ∀ s H C cl fp, FP (blkX X scope s H C cl fp) Γ tg p) (ht : ∀ s H C cl fp, FTs (blkX X scope s H C cl fp) Γ W0 ifs ft)
    (he : ∀ s H C cl fp, FE (blkX X scope s H C cl fp) Γ W0 elt fe) (hs : ∀ x, foldedSetIterable iter X.env x = pure x := by intro _; rfl) : FS X Γ W (.Assign [.Name y py] (.ListComp elt [⟨tg, iter, ifs, 0⟩] scope pos) spos) (sSet i (xLcN fi p ft fe (own.map (·.2)))) := by
  refine ⟨(ps_setLc hc hN hy hyl hsw hi.ok ok (fun s H C cl fp => (hg s H C cl fp).pg) (fun s H C cl fp => (ht s H C cl fp).ok) (fun s H C cl fp => (he s H C cl fp).ok) hs).imp fun N σ H q => ?_⟩
  obtain ⟨ρ, h, μ, he, hr, q⟩ := q
  have g : Good Γ W σ H μ (denE Γ) (fun x H1 => N.nx (σ.set i (some x)) H1) (xLcN fi p ft fe (own.map (·.2)) ρ h) := GoodS.bind he q fun a h1 v H1 μ1 z1 e1 r1 d1 q1 => q1 _ H1 μ1 (Ext.refl _ _) ((he.mono e1).set d1 i) r1
  exact lc_t hpo he hr g fun ds h1 Hb μb H1 μ1 vs p eb e r d hp hm hl q => lc_new (Q := fun x H1 => N.nx (σ.set i (some x)) H1) e r d hp hm hl q
end
end
end MP
end
section
set_option Elab.async false
set_option linter.all false
set_option maxRecDepth 100000
set_option maxHeartbeats 1000000
/-! M10: what is walked. -/
namespace MP
open PySem PySem.Spec PyProof.Rows L2

/-- a list, a tuple or a text -/
def iSq (K : PySem.W.Frag) (te : TE) : TI := fun σ H R => te σ H fun x H1 => (∃ a, x = .ref a ∧ (∃ xs, SqL K H1 a xs) ∧ R (Itl K a) H1) ∨ (∃ a, x = .ref a ∧ (∃ xs, SqT K H1 a xs) ∧ R (Itt K a) H1) ∨ ∃ z, x = .str z ∧ R (Its z) H1
theorem pi_sq {X : Cx} {tg e : Expr} {te : TE} (he : PE X e te) : PI X tg e (iSq X.K te) := by
  refine ⟨fun pins s σ H R I h => ?_⟩
  refine thn (he.run pins s σ H _ I h) fun v s1 ⟨x, H1, I1, r1, q1⟩ => ?_
  rcases q1 with ⟨a, e, ⟨xs, hq⟩, q⟩ | ⟨a, e, ⟨xs, hq⟩, q⟩ | ⟨z, e, q⟩
  · subst e
    cases r1
    obtain ⟨its, rv, p, hz⟩ := I1.list hq
    exact wpAny_pyIter_list p.isList (pi_one (tk := s1.toks) I1 _ (turn_list a _) ⟨_, Heap.get?_push_size _ rfl, rfl, rfl⟩ q)
  · subst e
    cases r1
    obtain ⟨its, rv, p, hz⟩ := I1.tuple hq
    exact wpAny_pyIter_tuple (show s1.heap.IsTuple a its.toArray from p) (pi_one (tk := s1.toks) I1 _ (turn_tuple a _) ⟨_, Heap.get?_push_size _ rfl, rfl, rfl⟩ q)
  · subst e
    obtain ⟨t, rfl⟩ := r1
    cases ha : z.cps.all (· < 128)
    · exact wpAny_pyIter_wide ha (pi_one (tk := s1.toks) I1 _ (turn_str _ z t "str_iterator" (.inr rfl)) ⟨_, Heap.get?_push_size _ rfl, rfl, rfl⟩ q)
    · exact wpAny_pyIter_ascii ha (pi_one (tk := s1.toks) I1 _ (turn_str _ z t "str_ascii_iterator" (.inl rfl)) ⟨_, Heap.get?_push_size _ rfl, rfl, rfl⟩ q)

/-- what a value gives when it is walked -/
def itemsD (h : List MO) : D → Option IterD
  | .lst ds => some ⟨ds, none⟩
  | .tup ds => some ⟨ds, none⟩
  | .str l => some ⟨l.map fun c => .str [c], none⟩
  | .ref i => (hl h i).map fun ds => ⟨ds, some (i, ds)⟩
  | _ => none
def xIt (f : ME) : MI := fun ρ h => (f ρ h).bind fun d h1 => match itemsD h1 d with
  | some it => .ok it h1
  | none => .stuck
section
variable {X : Cx} {Γ : G} {W : WX}
theorem fi_it {tg e : Expr} {f : ME} (hX : CxG X Γ) (he : FE X Γ W e f) : FI X Γ W tg e (xIt f) := by
  refine ⟨PIimp (pi_sq he.ok) fun σ H R q => ?_⟩
  obtain ⟨ρ, h, μ, he, hr, q⟩ := q
  refine ⟨ρ, h, μ, he, hr, Good.bind q fun d h1 v H1 μ1 _ e1 r1 d1 q1 => ?_⟩
  rw [hX.k]
  split at q1
  · rename_i it ei
    cases d with
    | lst ds =>
      cases ei
      obtain ⟨a, vs, rfl, tp, dv⟩ := d1
      refine .inl ⟨a, rfl, ⟨vs, tp.sq⟩, q1 _ _ _ (Ext.refl _ _) r1 ?_⟩
      intro H μ h e r c
      have sq := (tp.mono0 e.to0).sq
      have dv := dv.mono e
      refine ⟨fun i d ed => ?_, fun i hi => ⟨vs, sq, by rw [dv.length]; exact hi⟩⟩
      obtain ⟨v, ev, dvv⟩ := dv.get ed
      refine ⟨⟨vs, v, sq, ev⟩, fun x H' y => ?_⟩
      obtain ⟨rfl, y⟩ := y
      refine ⟨Ext.refl _ _, r, ?_⟩
      have := y vs sq
      rw [ev] at this; cases this
      exact dvv
    | tup ds =>
      cases ei
      obtain ⟨a, vs, rfl, tp, dv⟩ := d1
      refine .inr (.inl ⟨a, rfl, ⟨vs, tp.sq⟩, q1 _ _ _ (Ext.refl _ _) r1 ?_⟩)
      intro H μ h e r c
      have sq := (tp.mono0 e.to0).sq
      have dv := dv.mono e
      refine ⟨fun i d ed => ?_, fun i hi => ⟨vs, sq, by rw [dv.length]; exact hi⟩⟩
      obtain ⟨v, ev, dvv⟩ := dv.get ed
      refine ⟨⟨vs, v, sq, ev⟩, fun x H' y => ?_⟩
      obtain ⟨rfl, y⟩ := y
      refine ⟨Ext.refl _ _, r, ?_⟩
      have := y vs sq
      rw [ev] at this; cases this
      exact dvv
    | str l =>
      cases ei
      cases (show v = _ from d1)
      refine .inr (.inr ⟨S l, rfl, q1 _ _ _ (Ext.refl _ _) r1 ?_⟩)
      intro H μ h e r c
      have hs : (S l).cps.size = l.length := by simp
      refine ⟨fun i d ed => ?_, fun i hi => ?_⟩
      · have hi : i < l.length := by
          have := (List.getElem?_eq_some_iff.mp ed).1
          simpa using this
        refine ⟨by show i < (S l).cps.size; rw [hs]; exact hi, fun x H' y => ?_⟩
        obtain ⟨rfl, c, ec, rfl⟩ := y
        refine ⟨Ext.refl _ _, r, ?_⟩
        have e1 : l[i]? = some c := by simpa using ec
        have e2 : (l.map fun c => D.str [c])[i]? = some d := ed
        rw [List.getElem?_map, e1] at e2
        cases e2
        rfl
      · show (S l).cps.size ≤ i
        rw [hs]
        simpa using hi
    | ref j =>
      have ei' : (hl h1 j).map (fun ds => (⟨ds, some (j, ds)⟩ : IterD)) = some it := ei
      cases q2 : hl h1 j with
      | none => rw [q2] at ei'; cases ei'
      | some ds =>
        rw [q2] at ei'
        cases ei'
        obtain ⟨a, rfl, hm⟩ := d1
        obtain ⟨vs, q3, q4⟩ := r1.ob j a _ hm (hl_iff.mp q2)
        refine .inl ⟨a, rfl, ⟨vs, SqL.of q3⟩, q1 _ _ _ (Ext.refl _ _) r1 ?_⟩
        intro H μ h e r c
        have c' : hl h j = some ds := of_decide_eq_true c
        obtain ⟨t, rfl⟩ := e.pre
        have hm' : (μ1 ++ t)[j]? = some a := by
          rw [List.getElem?_append_left (List.getElem?_eq_some_iff.mp hm).1]; exact hm
        obtain ⟨vs, q5, dv⟩ := r.ob j a _ hm' (hl_iff.mp c')
        have sq : SqL Γ.K H a vs := SqL.of q5
        refine ⟨fun i d ed => ?_, fun i hi => ⟨vs, sq, by rw [dv.length]; exact hi⟩⟩
        obtain ⟨v, ev, dvv⟩ := dv.get ed
        refine ⟨⟨vs, v, sq, ev⟩, fun x H' y => ?_⟩
        obtain ⟨rfl, y⟩ := y
        refine ⟨Ext.refl _ _, r, ?_⟩
        have := y vs sq
        rw [ev] at this; cases this
        exact dvv
    | _ => cases ei
  · exact False.elim q1

/-! ### ranges -/
abbrev big62 (i : Int) : Prop := -4611686018427387904 ≤ i ∧ i < 4611686018427387904
def rangeD (lo : Int) (n : Nat) : List D := (List.range n).map fun (i : Nat) => .int (lo + (i : Int))
def rangeC (lo c : Int) (n : Nat) : List D := (List.range n).map fun (i : Nat) => .int (lo + (i : Int) * c)
def xRange1 (f : MA) : MI := fun ρ h => (f ρ h).bind fun ds h1 => match ds with
  | [.int j] => if big62 j then .ok ⟨rangeD 0 j.toNat, none⟩ h1 else .stuck
  | _ => .stuck
def xRange2 (f : MA) : MI := fun ρ h => (f ρ h).bind fun ds h1 => match ds with
  | [.int i, .int j] => if big62 i ∧ big62 j then .ok ⟨rangeD i (j - i).toNat, none⟩ h1 else .stuck
  | _ => .stuck
/-- how many items range(i, j, c) has -/
def rgN (i j c : Int) : Nat := if 0 < c then (if i < j then ((j - i - 1) / c + 1).toNat else 0) else (if j < i then ((i - j - 1) / (-c) + 1).toNat else 0)
def xRange3 (f : MA) : MI := fun ρ h => (f ρ h).bind fun ds h1 => match ds with
  | [.int i, .int j, .int c] => if decide (c ≠ 0) && decide (c.natAbs < 1073741824) && Builtin.Range.small i j c && decide (Builtin.Range.rangeSize i j c = rgN i j c) then .ok ⟨rangeC i c (rgN i j c), none⟩ h1 else .stuck
  | _ => .stuck
theorem yields_r {H1 : Hp} {μ1 : List Addr} {lo : Int} {n : Nat} : Yields Γ H1 μ1 (Itr lo n) ⟨rangeD lo n, none⟩ := by
  intro H μ h e r c
  refine ⟨fun i d ed => ?_, fun i hi => ?_⟩
  · have hi : i < n := by
      have := (List.getElem?_eq_some_iff.mp ed).1
      simpa [rangeD] using this
    refine ⟨hi, fun x H' y => ?_⟩
    obtain ⟨rfl, rfl⟩ := y
    refine ⟨Ext.refl _ _, r, ?_⟩
    have e2 : ((List.range n).map fun (i : Nat) => D.int (lo + (i : Int)))[i]? = some d := ed
    rw [List.getElem?_map, List.getElem?_range hi] at e2
    cases e2
    rfl
  · show n ≤ i
    simpa [rangeD] using hi
theorem yields_c {H1 : Hp} {μ1 : List Addr} {lo c : Int} {n : Nat} : Yields Γ H1 μ1 (Itc lo c n) ⟨rangeC lo c n, none⟩ := by
  intro H μ h e r ck
  refine ⟨fun i d ed => ?_, fun i hi => ?_⟩
  · have hi : i < n := by
      have := (List.getElem?_eq_some_iff.mp ed).1
      simpa [rangeC] using this
    refine ⟨hi, fun x H' y => ?_⟩
    obtain ⟨rfl, rfl⟩ := y
    refine ⟨Ext.refl _ _, r, ?_⟩
    have e2 : ((List.range n).map fun (i : Nat) => D.int (lo + (i : Int) * c))[i]? = some d := ed
    rw [List.getElem?_map, List.getElem?_range hi] at e2
    cases e2
    rfl
  · show n ≤ i
    simpa [rangeC] using hi
theorem fi_range1 {tg a : Expr} {f : MA} {p pos : Pos} (hg : Gl X "range") (hm : X.mg "range" = none) (ha : FA X Γ W [a] f) (hs : starEach [a] X.env = [(false, eval a X.env)] := by rfl) : FI X Γ W tg (.Call (.Name "range" p) [a] [] pos) (xRange1 f) := by
  refine ⟨PIimp (pi_range1 hg hm ha.ok hs) fun σ H R q => ?_⟩
  obtain ⟨ρ, h, μ, he, hr, q⟩ := q
  refine ⟨ρ, h, μ, he, hr, Good.bind q fun ds h1 vs H1 μ1 z1 e1 r1 d1 q1 => ?_⟩
  split at q1
  · split at q1
    · rename_i hb
      obtain ⟨v, rfl, k1⟩ := dens1 d1
      cases k1
      exact ⟨_, rfl, hb.1, hb.2, q1 _ _ _ (Ext.refl _ _) r1 yields_r⟩
    · exact False.elim q1
  · exact False.elim q1
theorem fi_range2 {tg a b : Expr} {f : MA} {p pos : Pos} (hg : Gl X "range") (hm : X.mg "range" = none) (ha : FA X Γ W [a, b] f) (hs : starEach [a, b] X.env = [(false, eval a X.env), (false, eval b X.env)] := by rfl) (hs2 : starEach [b] X.env = [(false, eval b X.env)] := by rfl) : FI X Γ W tg (.Call (.Name "range" p) [a, b] [] pos) (xRange2 f) := by
  refine ⟨PIimp (pi_range2 hg hm ha.ok hs hs2) fun σ H R q => ?_⟩
  obtain ⟨ρ, h, μ, he, hr, q⟩ := q
  refine ⟨ρ, h, μ, he, hr, Good.bind q fun ds h1 vs H1 μ1 z1 e1 r1 d1 q1 => ?_⟩
  split at q1
  · split at q1
    · rename_i hb
      obtain ⟨v, w, rfl, k1, k2⟩ := dens2 d1
      cases k1; cases k2
      exact ⟨_, _, rfl, ⟨hb.1.1, hb.1.2, hb.2.1, hb.2.2⟩, q1 _ _ _ (Ext.refl _ _) r1 yields_r⟩
    · exact False.elim q1
  · exact False.elim q1
theorem fi_range3 {tg a b c : Expr} {f : MA} {p pos : Pos} (hg : Gl X "range") (hm : X.mg "range" = none) (ha : FA X Γ W [a, b, c] f)
    (hs : starEach [a, b, c] X.env = (false, eval a X.env) :: starEach [b, c] X.env := by rfl) (hpl : (backTo pos (starEach [b, c] X.env)).any (·.1) = false := by rfl) : FI X Γ W tg (.Call (.Name "range" p) [a, b, c] [] pos) (xRange3 f) := by
  refine ⟨PIimp (pi_range3 hg hm ha.ok hs hpl) fun σ H R q => ?_⟩
  obtain ⟨ρ, h, μ, he, hr, q⟩ := q
  refine ⟨ρ, h, μ, he, hr, Good.bind q fun ds h1 vs H1 μ1 z1 e1 r1 d1 q1 => ?_⟩
  split at q1
  · split at q1
    · rename_i hb
      simp only [Bool.and_eq_true, decide_eq_true_eq] at hb
      obtain ⟨⟨⟨b1, b2⟩, b3⟩, b4⟩ := hb
      obtain ⟨v, r, rfl, k1, k2⟩ := d1
      obtain ⟨w, w2, rfl, k2, k3⟩ := dens2 k2
      cases k1; cases k2; cases k3
      exact ⟨_, _, _, _, rfl, ⟨b1, b2, b3, b4⟩, q1 _ _ _ (Ext.refl _ _) r1 yields_c⟩
    · exact False.elim q1
  · exact False.elim q1

/-! ### enumerate -/
def enumD (n : Nat) : List D → List D
  | [] => []
  | d :: ds => .tup [.int (n : Int), d] :: enumD (n + 1) ds
theorem enumD_get : ∀ (ds : List D) (n i : Nat), (enumD n ds)[i]? = ds[i]?.map fun d => .tup [.int ((n + i : Nat) : Int), d]
  | [], n, i => by simp [enumD]
  | d :: ds, n, 0 => by simp [enumD]
  | d :: ds, n, i + 1 => by
    have : n + 1 + i = n + (i + 1) := by omega
    simp [enumD, enumD_get ds (n + 1) i, this]
theorem enumD_len : ∀ (ds : List D) (n : Nat), (enumD n ds).length = ds.length
  | [], n => rfl
  | d :: ds, n => by simp [enumD, enumD_len ds]
/-- enumerate(list) -/
def xEnum (f : MA) : MI := fun ρ h => (f ρ h).bind fun ds h1 => match ds with
  | [.lst es] => .ok ⟨enumD 0 es, none⟩ h1
  | [.ref i] => match hl h1 i with
    | some es => .ok ⟨enumD 0 es, some (i, es)⟩ h1
    | none => .stuck
  | _ => .stuck
theorem fi_enum {e : Expr} {f : MA} {p pos tpos : Pos} {elts : List Expr} {kk : Nat} (hX : CxG X Γ) (hg : Gl X "enumerate") (hm : X.mg "enumerate" = none) (ha : FA X Γ W [e] f) (hs : starEach [e] X.env = [(false, eval e X.env)] := by rfl) :
    FI X Γ W (.Tuple elts kk tpos) (.Call (.Name "enumerate" p) [e] [] pos) (xEnum f) := by
  refine ⟨PIimp (pi_enum hg hm ha.ok hs) fun σ H R q => ?_⟩
  obtain ⟨ρ, h, μ, he, hr, q⟩ := q
  refine ⟨ρ, h, μ, he, hr, Good.bind q fun ds h1 vs H1 μ1 z1 e1 r1 d1 q1 => ?_⟩
  rw [hX.k]
  split at q1
  · rename_i es
    obtain ⟨v, rfl, k1⟩ := dens1 d1
    obtain ⟨a, vs, rfl, tp, dv⟩ := k1
    refine ⟨a, vs, rfl, tp.sq, q1 _ _ _ (Ext.refl _ _) r1 ?_⟩
    intro H μ h e r c
    have sq := (tp.mono0 e.to0).sq
    have dv := dv.mono e
    refine ⟨fun i d ed => ?_, fun i hi => ⟨vs, sq, by rw [dv.length]; rw [enumD_len] at hi; exact hi⟩⟩
    have ed' : (enumD 0 es)[i]? = some d := ed
    rw [enumD_get] at ed'
    cases eg : es[i]? with
    | none => rw [eg] at ed'; cases ed'
    | some d0 =>
      rw [eg] at ed'
      cases ed'
      obtain ⟨v, ev, dvv⟩ := dv.get eg
      refine ⟨⟨vs, v, sq, ev⟩, fun x H' y => ?_⟩
      obtain ⟨T, z, rfl, hT, rfl, y⟩ := y
      have := y vs sq
      rw [ev] at this; cases this
      refine ⟨Ext.laid hT, r.laid hT, T, _, rfl, .inl ⟨r.fresh hT, .inl upd_same⟩, _, _, rfl, ?_, _, _, rfl, dvv.mono (Ext.laid hT), rfl⟩
      show V.int _ = V.int _
      rw [Nat.zero_add]
  · rename_i j
    split at q1
    · rename_i es eh
      obtain ⟨v, rfl, k1⟩ := dens1 d1
      obtain ⟨a, rfl, hm⟩ := k1
      obtain ⟨vs0, q3, q4⟩ := r1.ob j a _ hm (hl_iff.mp eh)
      refine ⟨a, vs0, rfl, SqL.of q3, q1 _ _ _ (Ext.refl _ _) r1 ?_⟩
      intro H μ h e r c
      have c' : hl h j = some es := of_decide_eq_true c
      obtain ⟨t, rfl⟩ := e.pre
      have hm' : (μ1 ++ t)[j]? = some a := by
        rw [List.getElem?_append_left (List.getElem?_eq_some_iff.mp hm).1]; exact hm
      obtain ⟨vs, q5, dv⟩ := r.ob j a _ hm' (hl_iff.mp c')
      have sq : SqL Γ.K H a vs := SqL.of q5
      refine ⟨fun i d ed => ?_, fun i hi => ⟨vs, sq, by rw [dv.length]; rw [enumD_len] at hi; exact hi⟩⟩
      have ed' : (enumD 0 es)[i]? = some d := ed
      rw [enumD_get] at ed'
      cases eg : es[i]? with
      | none => rw [eg] at ed'; cases ed'
      | some d0 =>
        rw [eg] at ed'
        cases ed'
        obtain ⟨v, ev, dvv⟩ := dv.get eg
        refine ⟨⟨vs, v, sq, ev⟩, fun x H' y => ?_⟩
        obtain ⟨T, z, rfl, hT, rfl, y⟩ := y
        have := y vs sq
        rw [ev] at this; cases this
        refine ⟨Ext.laid hT, r.laid hT, T, _, rfl, .inl ⟨r.fresh hT, .inl upd_same⟩, _, _, rfl, ?_, _, _, rfl, dvv.mono (Ext.laid hT), rfl⟩
        show V.int _ = V.int _
        rw [Nat.zero_add]
    · exact False.elim q1
  · exact False.elim q1

/-! ### zip -/
def zipD : List D → List D → List D
  | d :: ds, e :: es => .tup [d, e] :: zipD ds es
  | _, _ => []
theorem zipD_get : ∀ (ds es : List D) (i : Nat) (d : D), (zipD ds es)[i]? = some d → ∃ a b, ds[i]? = some a ∧ es[i]? = some b ∧ d = .tup [a, b]
  | [], _, i, d, h => by simp [zipD] at h
  | a :: ds, [], i, d, h => by simp [zipD] at h
  | a :: ds, b :: es, 0, d, h => by
    simp [zipD] at h
    exact ⟨a, b, rfl, rfl, h.symm⟩
  | a :: ds, b :: es, i + 1, d, h => by
    obtain ⟨x, y, h1, h2, h3⟩ := zipD_get ds es i d (by simpa [zipD] using h)
    exact ⟨x, y, by simpa using h1, by simpa using h2, h3⟩
theorem zipD_len : ∀ (ds es : List D), (zipD ds es).length = min ds.length es.length
  | [], _ => by simp [zipD]
  | a :: ds, [] => by simp [zipD]
  | a :: ds, b :: es => by simp [zipD, zipD_len ds es]
def xZip (f : MA) : MI := fun ρ h => (f ρ h).bind fun ds h1 => match ds with
  | [.lst a, .lst b] => .ok ⟨zipD a b, none⟩ h1
  | [.tup a, .tup b] => .ok ⟨zipD a b, none⟩ h1
  | _ => .stuck
theorem fi_zip {e e2 : Expr} {f : MA} {p pos tpos : Pos} {elts : List Expr} {kk : Nat} (hX : CxG X Γ) (hg : Gl X "zip") (hm : X.mg "zip" = none) (ha : FA X Γ W [e, e2] f)
    (hs : starEach [e, e2] X.env = (false, eval e X.env) :: starEach [e2] X.env := by rfl) (hpl : (backTo pos (starEach [e2] X.env)).any (·.1) = false := by rfl) :
    FI X Γ W (.Tuple elts kk tpos) (.Call (.Name "zip" p) [e, e2] [] pos) (xZip f) := by
  refine ⟨PIimp (RZ.pi_zipA hg hm ha.ok hs hpl) fun σ H R q => ?_⟩
  obtain ⟨ρ, h, μ, he, hr, q⟩ := q
  refine ⟨ρ, h, μ, he, hr, Good.bind q fun ds h1 vs H1 μ1 z1 e1 r1 d1 q1 => ?_⟩
  rw [hX.k]
  have core : ∀ {vs us : List V} {ds es : List D} {μ : List Addr} {H : Hp} {h : List MO}, Dens Γ μ H vs ds → Dens Γ μ H us es → Rel Γ H μ h → ∀ (i : Nat) (d : D), (zipD ds es)[i]? = some d →
      (∃ x y : V, vs[i]? = some x ∧ us[i]? = some y) ∧ ∀ x H', (∃ T x' y', x = .ref T ∧ H T = none ∧ H' = upd H T (.tup [x', y']) ∧ vs[i]? = some x' ∧ us[i]? = some y') → Ext H μ H' μ ∧ Rel Γ H' μ h ∧ Den Γ μ H' x d := by
    intro vs us ds es μ H h dv du r i d ed
    obtain ⟨p, q, e1, e2, rfl⟩ := zipD_get ds es i d ed
    obtain ⟨v, ev, k1⟩ := dv.get e1
    obtain ⟨w, ew, k2⟩ := du.get e2
    refine ⟨⟨v, w, ev, ew⟩, fun x H' ⟨T, x', y', ex, hT, eH, f1, f2⟩ => ?_⟩
    subst ex eH
    rw [ev] at f1; cases f1
    rw [ew] at f2; cases f2
    exact ⟨Ext.laid hT, r.laid hT, T, _, rfl, .inl ⟨r.fresh hT, .inl upd_same⟩, _, _, rfl, k1.mono (Ext.laid hT), _, _, rfl, k2.mono (Ext.laid hT), rfl⟩
  split at q1
  · rename_i a b
    obtain ⟨v, w, rfl, k1, k2⟩ := dens2 d1
    obtain ⟨p1, vs, rfl, tp1, dv⟩ := k1
    obtain ⟨p2, us, rfl, tp2, du⟩ := k2
    refine ⟨p1, p2, vs, us, rfl, .inl ⟨tp1.sq, tp2.sq, q1 _ _ _ (Ext.refl _ _) r1 ?_⟩⟩
    intro H μ h e r c
    have sq1 := (tp1.mono0 e.to0).sq
    have sq2 := (tp2.mono0 e.to0).sq
    have dv := dv.mono e
    have du := du.mono e
    refine ⟨fun i d ed => ?_, fun i hi => ⟨vs, us, sq1, sq2, ?_⟩⟩
    · obtain ⟨⟨x, y, ex, ey⟩, k⟩ := core dv du r i d ed
      exact ⟨⟨vs, us, x, y, sq1, sq2, ex, ey⟩, fun x H' ⟨T, x', y', ex, hT, eH, f1, f2⟩ => k x H' ⟨T, x', y', ex, hT, eH, f1 vs sq1, f2 us sq2⟩⟩
    · rw [zipD_len] at hi
      rw [dv.length, du.length]
      omega
  · rename_i a b
    obtain ⟨v, w, rfl, k1, k2⟩ := dens2 d1
    obtain ⟨p1, vs, rfl, tp1, dv⟩ := k1
    obtain ⟨p2, us, rfl, tp2, du⟩ := k2
    refine ⟨p1, p2, vs, us, rfl, .inr ⟨tp1.sq, tp2.sq, q1 _ _ _ (Ext.refl _ _) r1 ?_⟩⟩
    intro H μ h e r c
    have sq1 := (tp1.mono0 e.to0).sq
    have sq2 := (tp2.mono0 e.to0).sq
    have dv := dv.mono e
    have du := du.mono e
    refine ⟨fun i d ed => ?_, fun i hi => ⟨vs, us, sq1, sq2, ?_⟩⟩
    · obtain ⟨⟨x, y, ex, ey⟩, k⟩ := core dv du r i d ed
      exact ⟨⟨vs, us, x, y, sq1, sq2, ex, ey⟩, fun x H' ⟨T, x', y', ex, hT, eH, f1, f2⟩ => k x H' ⟨T, x', y', ex, hT, eH, f1 vs sq1, f2 us sq2⟩⟩
    · rw [zipD_len] at hi
      rw [dv.length, du.length]
      omega
  · exact False.elim q1
end
end MP
end
section
set_option Elab.async false
set_option linter.all false
set_option maxRecDepth 100000
set_option maxHeartbeats 1000000
/-! M11: defs, calls. -/
namespace L2
open PySem PySem.Spec PyProof.Rows
/-- what is wanted, some lists known from now on -/
inductive Fz (Q : VK) (v : V) : Hp → Prop
  | ok {H : Hp} : Q v H → Fz Q v H
  | frz {H : Hp} (p : Addr) (xs : List V) : H p = some (.lst xs) → (∀ o, Fz Q v (upd H p (.frz o (.lst xs)))) → Fz Q v H
theorem HOk.frz {P : Program} {w : World} {H : Hp} {h : Heap} {p : Addr} {xs : List V} {o : Obj} (k : HOk P w H h) (e : H p = some (.lst xs)) (g : h.get? p = some o) : HOk P w (upd H p (.frz o (.lst xs))) h := fun b u q => by
  by_cases hb : b = p
  · subst hb
    rw [upd_same] at q; cases q
    exact ⟨g, k b _ e⟩
  · rw [upd_ne hb] at q
    exact (k b u q).stay (fun c v _ k => k) (fun c k => by rw [upd_ne (ne_of k e (by intro z; cases z))]; exact k) fun c ys k => by rw [upd_ne (ne_of k e (by intro z; cases z))]; exact k
theorem Un.frz {fs ex : List Addr} {H H' : Hp} {h h' : Heap} {p : Addr} {xs : List V} {o : Obj} (u : Un fs ex H H' h h') (e : H' p = some (.lst xs)) : Un fs ex H (upd H' p (.frz o (.lst xs))) h h' where
  keep := u.keep
  slot := u.slot
  free := fun b ob q n hx => by
    have z := u.free b ob q n hx
    rw [upd_ne (fun y => by rw [y, e] at z; cases z)]; exact z
  there := u.there
  tups := fun b ys q => by
    have k := u.tups b ys q
    rw [upd_ne (ne_of k e (by intro z; cases z))]; exact k
  frzs := fun b o u' q => by
    have k := u.frzs b o u' q
    rw [upd_ne (ne_of k e (by intro z; cases z))]; exact k
  tbls := fun b ps q => by
    obtain ⟨more, k⟩ := u.tbls b ps q
    exact ⟨more, by rw [upd_ne (ne_of k e (by intro z; cases z))]; exact k⟩
theorem CE.fz {outer : List Env} {P : Program} {w : World} {H : Hp} {s s' : Shared} {Q : VK} {u : Value} (c : CE outer P w H s (Fz Q) u s') : CE outer P w H s Q u s' := by
  obtain ⟨v, H', os, bare, un, hok, r, q⟩ := c
  induction q with
  | ok q => exact ⟨v, _, os, bare, un, hok, r, q⟩
  | frz p xs e q ih =>
    obtain ⟨z, its, n, rr, g⟩ := hok p _ e
    exact ih _ (un.frz e) (hok.frz e g)
theorem FnOk.fz {P : Program} {w : World} {K : PySem.W.Frag} {mg : Str → Option Value} {base : Heap} {CX : CXT} {k : Nat} {f : Addr} {fd : FuncData} {ps : List Str} {sp : Sp} (F : FnOk P w K mg base CX k f fd ps sp) :
    FnOk P w K mg base CX k f fd ps fun vs H Q E => sp vs H (Fz Q) E :=
  ⟨fun vs H Q E q => F.len vs H _ E q, fun A outer s H args us vs Q E hr he hb hv hs => codeAny_mono (F.run A outer s H args us vs _ E hr he hb hv hs) fun r s' q => by
    cases r with
    | error e => exact q
    | ok fl => cases fl with
      | ret u => exact CE.fz q
      | _ => exact q⟩
end L2
namespace MP
open PySem PySem.Spec PyProof.Rows L2

/-! ### a def by its mirror -/
abbrev MF := List D → List MO → Res D
def runF (n : Nat) (b : MS) : MF := fun ds h => match b (ds.map some ++ List.replicate (n - ds.length) none) h with
  | .nx _ h1 => .ok .non h1
  | .rt d h1 => .ok d h1
  | .err e _ h1 => .err e h1
  | _ => .stuck
abbrev wE (E : XK) : WX := fun c d _ H => E c d H
def spF (Γ : G) (n : Nat) (f : MF) : Sp := fun vs H Q E => vs.length = n ∧ ∃ ds h μ, Dens Γ μ H vs ds ∧ Rel Γ H μ h ∧ Good Γ (wE E) [] H μ (denE Γ) Q (f ds h)
theorem env_start {Γ : G} {μ : List Addr} {H : Hp} {N : List Str} : ∀ {vs : List V} {ds : List D}, Dens Γ μ H vs ds → EnvOk Γ μ H (L2.start N vs) (ds.map some ++ List.replicate (N.length - ds.length) none) := by
  intro vs ds k
  have hl := k.length
  unfold L2.start
  rw [hl]
  generalize N.length - ds.length = m
  induction ds generalizing vs with
  | nil =>
    rw [show vs = [] from k]
    show EnvOk Γ μ H (List.replicate m none) (List.replicate m none)
    induction m with
    | zero => trivial
    | succ m ih => exact ⟨trivial, ih⟩
  | cons d ds ih =>
    obtain ⟨v, r, rfl, k1, k2⟩ := k
    exact ⟨⟨v, rfl, k1⟩, ih k2 k2.length⟩
theorem fn_mir {Γ : G} {CX : CXT} {P : Program} {w : World} {K : PySem.W.Frag} {mg : Str → Option Value} {base : Heap} {k : Nat} {f : Addr} {name qual : Str} {params : Arguments} {body : List Stmt} {scope : Scope} {dV kV doc pm cdv ct oc : Value} {an od : Option Addr}
    {osl : Array (Option Value)} {N ps : List Str} {b : MS} (lk : K.lookup f = some ⟨oc, od, .func (PySem.W.fnOf name qual params body scope dV kV doc pm an cdv ct), osl⟩) (hcd : PySem.W.codeIn K cdv qual = true) (S : FnScope N ps scope)
    (hbody : ∀ (A : Around) (outer : List Env) (s : Shared) (H : Hp) (E : XK), Room k (A.deeper (envOfC qual scope s.heap.objs.size f cdv)) → FSs (cxOf CX P w K mg base N qual scope f cdv A outer s H E) Γ (wE E) body b) :
    FnOk P w K mg base CX (k + 1) f (PySem.W.fnOf name qual params body scope dV kV doc pm an cdv ct) ps (spF Γ ps.length (runF N.length b)) := by
  refine fn_of lk hcd S (fun vs H Q E h => h.1) fun A outer s H vs Q E hr h => ⟨_, (hbody A outer s H E hr).ok, ?_⟩
  obtain ⟨hl, ds, h, μ, dv, r, q⟩ := h
  refine ⟨_, h, μ, env_start dv, r, ?_⟩
  unfold runF at q
  cases eb : b (ds.map some ++ List.replicate (N.length - ds.length) none) h with
  | nx ρ h1 => rw [eb] at q; exact fun σ' H' μ' e1 he1 hr1 => q .non H' μ' e1 hr1 rfl
  | rt d h1 => rw [eb] at q; exact q
  | err e ρ h1 => rw [eb] at q; exact fun c d σ' H' μ' e1 he1 hr1 x => q c d H' μ' e1 hr1 x
  | bk _ _ => rw [eb] at q; exact False.elim q
  | ct _ _ => rw [eb] at q; exact False.elim q
  | stuck => rw [eb] at q; exact False.elim q

/-! ### values below a mark; lists made known -/
mutual
def belowD (n : Nat) : D → Bool
  | .ref i => decide (i < n)
  | .tup ds => belowDs n ds
  | .lst ds => belowDs n ds
  | .clo _ cs => belowDs n cs
  | _ => true
def belowDs (n : Nat) : List D → Bool
  | [] => true
  | d :: ds => belowD n d && belowDs n ds
end
/-- the lists at as are known in H2 -/
structure FrzOf (as : List Addr) (H H2 : Hp) : Prop where
  off : ∀ b, b ∉ as → H2 b = H b
  on : ∀ b ∈ as, ∃ o xs, H b = some (.lst xs) ∧ H2 b = some (.frz o (.lst xs))
theorem fz_all {Q : VK} {v : V} : ∀ (as : List Addr) {H : Hp}, as.Nodup → (∀ a ∈ as, ∃ xs, H a = some (.lst xs)) → (∀ H2, FrzOf as H H2 → Q v H2) → Fz Q v H
  | [], H, _, _, q => .ok (q H ⟨fun _ _ => rfl, fun _ h => nomatch h⟩)
  | a :: as, H, nd, h, q => by
    obtain ⟨xs, e⟩ := h a List.mem_cons_self
    have na := (List.nodup_cons.mp nd).1
    refine .frz a xs e fun o => fz_all as (List.nodup_cons.mp nd).2 (fun b hb => ?_) fun H2 f => q H2 ⟨fun b hb => ?_, fun b hb => ?_⟩
    · obtain ⟨ys, e2⟩ := h b (List.mem_cons_of_mem _ hb)
      exact ⟨ys, by rw [upd_ne (fun (z : b = a) => na (z ▸ hb))]; exact e2⟩
    · rw [f.off b fun z => hb (List.mem_cons_of_mem _ z), upd_ne fun (z : b = a) => hb (z ▸ List.mem_cons_self)]
    · by_cases z : b = a
      · subst z
        refine ⟨o, xs, e, ?_⟩
        rw [f.off b na, upd_same]
      · rcases List.mem_cons.mp hb with hb | hb
        · exact absurd hb z
        · obtain ⟨o2, ys, e1, e2⟩ := f.on b hb
          rw [upd_ne z] at e1
          exact ⟨o2, ys, e1, e2⟩
section
variable {Γ : G} {μ : List Addr} {n : Nat}
/-- beneath the mark nothing is lost when the later lists become known -/
theorem frz_ext {as : List Addr} {H H2 : Hp} (f : FrzOf as H H2) : Ext0 H μ H2 μ where
  pre := List.prefix_refl _
  keep0 := fun a u h _ _ l => by
    by_cases m : a ∈ as
    · obtain ⟨o, xs, e, _⟩ := f.on a m
      rw [e] at h; cases h; exact absurd rfl (l xs)
    · rw [f.off a m]; exact h
  keepT := fun a ps h _ => by
    by_cases m : a ∈ as
    · obtain ⟨o, xs, e, _⟩ := f.on a m
      rw [e] at h; cases h
    · exact ⟨ps, by rw [f.off a m]; exact h⟩
  new := fun a m => .inl m
mutual
theorem Den.take (hn : n ≤ μ.length) : ∀ {d : D} {H : Hp} {v : V}, Den Γ μ H v d → belowD n d = true → Den Γ (μ.take n) H v d
  | .non, _, _, h, _ => h
  | .bl _, _, _, h, _ => h
  | .int _, _, _, h, _ => h
  | .str _, _, _, h, _ => h
  | .tup ds, _, _, h, b => by
    obtain ⟨a, vs, e1, q, r⟩ := h
    refine ⟨a, vs, e1, ?_, Dens.takeN hn r b⟩
    rcases q with ⟨q1, q2⟩ | q
    · exact .inl ⟨fun z => q1 (List.mem_of_mem_take z), q2⟩
    · exact .inr q
  | .lst ds, _, _, h, b => by
    obtain ⟨a, vs, e1, q, r⟩ := h
    refine ⟨a, vs, e1, ?_, Dens.takeN hn r b⟩
    rcases q with ⟨q1, q2⟩ | q
    · exact .inl ⟨fun z => q1 (List.mem_of_mem_take z), q2⟩
    · exact .inr q
  | .ref i, _, _, h, b => by
    obtain ⟨a, e1, q⟩ := h
    have hi : i < n := of_decide_eq_true b
    exact ⟨a, e1, by rw [List.getElem?_take_of_lt hi]; exact q⟩
  | .glo _, _, _, h, _ => h
  | .clo k cs, _, _, h, b => by
    obtain ⟨f, cells, vs, e1, q, r⟩ := h
    refine ⟨f, cells, vs, e1, ?_, Dens.takeN hn r b⟩
    obtain ⟨I, clos, pm, ctv, c', h1, h2, h3, h4, h5, h6, h7⟩ := q.obj
    exact ⟨⟨I, clos, pm, ctv, c', h1, h2, h3, h4, h5, h6, fun z => h7 (List.mem_of_mem_take z)⟩, ⟨fun z => q.fm.1 (List.mem_of_mem_take z), q.fm.2⟩, q.nd, fun c hc z => q.cm c hc (List.mem_of_mem_take z), q.len, q.val⟩
theorem Dens.takeN (hn : n ≤ μ.length) : ∀ {ds : List D} {H : Hp} {vs : List V}, Dens Γ μ H vs ds → belowDs n ds = true → Dens Γ (μ.take n) H vs ds
  | [], _, _, h, _ => h
  | d :: ds, _, _, h, b => by
    obtain ⟨v, r, e1, q, t⟩ := h
    have b' : (belowD n d && belowDs n ds) = true := b
    rw [Bool.and_eq_true] at b'
    exact ⟨v, r, e1, Den.take hn q b'.1, Dens.takeN hn t b'.2⟩
end
/-- a value with the later lists put in -/
def deF (n : Nat) (h : List MO) : Nat → D → Option D
  | 0, _ => none
  | k + 1, d => match d with
    | .ref i => if i < n then some (.ref i) else match hl h i with
      | some ds => (ds.mapM (deF n h k)).map .lst
      | none => none
    | .tup ds => (ds.mapM (deF n h k)).map .tup
    | .lst ds => (ds.mapM (deF n h k)).map .lst
    | d => if belowD n d then some d else none
def deD (n : Nat) (h : List MO) (d : D) : Option D := if belowD n d then some d else deF n h 9 d
theorem deF_ok {H H2 : Hp} {h : List MO} (r : Rel Γ H μ h) (hn : n ≤ μ.length) (f : FrzOf (μ.drop n) H H2) : ∀ (k : Nat) (d d2 : D) (v : V), Den Γ μ H v d → deF n h k d = some d2 → Den Γ (μ.take n) H2 v d2
  | 0, _, _, _, _, e => by unfold deF at e; cases e
  | k + 1, d, d2, v, q, e => by
    have lists : ∀ (ds es : List D) (vs : List V), Dens Γ μ H vs ds → ds.mapM (deF n h k) = some es → Dens Γ (μ.take n) H2 vs es := by
      intro ds
      induction ds with
      | nil => intro es vs q e; simp at e; subst e; exact q
      | cons d ds ih =>
        intro es vs q e
        obtain ⟨v, t, rfl, q1, q2⟩ := q
        rw [List.mapM_cons] at e
        cases e1 : deF n h k d with
        | none => rw [e1] at e; cases e
        | some x =>
          rw [e1] at e
          cases e2 : ds.mapM (deF n h k) with
          | none => simp [e2] at e
          | some xs =>
            simp [e2] at e
            subst e
            exact ⟨v, t, rfl, deF_ok r hn f k d x v q1 e1, ih xs t q2 e2⟩
    have ext : Ext0 H (μ.take n) H2 (μ.take n) := frz_ext f
    have low : ∀ d, Den Γ μ H v d → (if belowD n d then some d else none) = some d2 → Den Γ (μ.take n) H2 v d2 := fun d q e => by
      split at e
      · rename_i b
        cases e
        exact (q.take hn b).mono0 ext
      · cases e
    unfold deF at e
    cases d with
    | ref i =>
      obtain ⟨a, rfl, hm⟩ := q
      simp only at e
      split at e
      · rename_i hi
        cases e
        exact ⟨a, rfl, by rw [List.getElem?_take_of_lt hi]; exact hm⟩
      · rename_i hi
        split at e
        · rename_i ds eh
          cases em : ds.mapM (deF n h k) with
          | none => rw [em] at e; cases e
          | some es =>
            rw [em] at e; cases e
            obtain ⟨vs, q1, q2⟩ := r.ob i a _ hm (hl_iff.mp eh)
            have md : a ∈ μ.drop n := by
              refine List.mem_of_getElem? (i := i - n) ?_
              rw [List.getElem?_drop]
              have : n + (i - n) = i := by omega
              rw [this]; exact hm
            obtain ⟨o, xs, e1, e2⟩ := f.on a md
            rw [q1] at e1; cases e1
            refine ⟨a, vs, rfl, .inl ⟨fun z => ?_, o, e2⟩, lists ds es vs q2 em⟩
            have nd := r.nd
            rw [← List.take_append_drop n μ] at nd
            exact (List.nodup_append.mp nd).2.2 a z a md rfl
        · cases e
    | tup ds =>
      obtain ⟨a, vs, rfl, tp, dv⟩ := q
      cases em : ds.mapM (deF n h k) with
      | none => simp [em] at e
      | some es =>
        simp [em] at e
        subst e
        refine ⟨a, vs, rfl, ?_, lists ds es vs dv em⟩
        have tp2 : TupM Γ H (μ.take n) a vs := by
          rcases tp with ⟨q1, q2⟩ | q
          · exact .inl ⟨fun z => q1 (List.mem_of_mem_take z), q2⟩
          · exact .inr q
        exact tp2.mono0 ext
    | lst ds =>
      obtain ⟨a, vs, rfl, tp, dv⟩ := q
      cases em : ds.mapM (deF n h k) with
      | none => simp [em] at e
      | some es =>
        simp [em] at e
        subst e
        refine ⟨a, vs, rfl, ?_, lists ds es vs dv em⟩
        have tp2 : LstM Γ H (μ.take n) a vs := by
          rcases tp with ⟨q1, q2⟩ | q
          · exact .inl ⟨fun z => q1 (List.mem_of_mem_take z), q2⟩
          · exact .inr q
        exact tp2.mono0 ext
    | non => exact low _ q e
    | bl _ => exact low _ q e
    | int _ => exact low _ q e
    | str _ => exact low _ q e
    | glo _ => exact low _ q e
    | clo _ _ => exact low _ q e
theorem deD_ok {H H2 : Hp} {h : List MO} (r : Rel Γ H μ h) (hn : n ≤ μ.length) (f : FrzOf (μ.drop n) H H2) {d d2 : D} {v : V} (q : Den Γ μ H v d) (e : deD n h d = some d2) : Den Γ (μ.take n) H2 v d2 := by
  unfold deD at e
  split at e
  · rename_i b
    cases e
    exact (q.take hn b).mono0 (frz_ext f)
  · exact deF_ok r hn f 9 d d2 v q e
end
/-! ### what a call leaves is cut off -/
def belowM (n : Nat) : MO → Bool
  | .lst ds => belowDs n ds
  | .dead => true
theorem below_get {n : Nat} : ∀ {h : List MO} {i : Nat} {o : MO}, h.all (belowM n) = true → h[i]? = some o → belowM n o = true := fun {h i o} a e => List.all_eq_true.mp a o (List.mem_of_getElem? e)
section
variable {Γ : G} {H H' : Hp} {μ μ' : List Addr} {h h' : List MO}
theorem cut_pre (r : Rel Γ H μ h) (e : Ext H μ H' μ') : μ'.take h.length = μ := by
  obtain ⟨t, rfl⟩ := e.pre
  rw [← r.len, List.take_left]
theorem cut_ext (e : Ext H μ H' μ') : Ext H μ H' μ := ⟨List.prefix_refl _, e.keep, e.keepT, fun _ m => .inl m⟩
theorem cut_rel (r : Rel Γ H μ h) (e : Ext H μ H' μ') (r' : Rel Γ H' μ' h') (b : (h'.take h.length).all (belowM h.length) = true) : Rel Γ H' μ (h'.take h.length) := by
  have ep := cut_pre r e
  have hn : h.length ≤ μ'.length := by rw [← r.len]; exact e.pre.length_le
  exact {
    len := by rw [List.length_take, ← r'.len, r.len]; omega
    nd := r.nd
    ob := fun i a o h1 h2 => by
      rw [← ep] at h1
      have hi : i < h.length := by
        have := (List.getElem?_eq_some_iff.mp h1).1
        rw [List.length_take] at this
        omega
      rw [List.getElem?_take_of_lt hi] at h1
      have x := r'.ob i a o h1 (by rw [List.getElem?_take_of_lt hi] at h2; exact h2)
      have bo := below_get b h2
      cases o with
      | lst ds =>
        obtain ⟨vs, q, z⟩ := x
        refine ⟨vs, q, ?_⟩
        rw [← ep]
        exact z.takeN hn bo
      | dead => exact x
    tabs := r'.tabs
    j := Γ.Jm r.j (cut_ext e).to0 }
theorem cut_new (r : Rel Γ H μ h) (e : Ext H μ H' μ') (r' : Rel Γ H' μ' h') : ∀ a ∈ μ'.drop h.length, H a = none ∧ a ∉ μ := fun a m => by
  have ep := cut_pre r e
  have nd := r'.nd
  rw [← List.take_append_drop h.length μ', ep] at nd
  have na : a ∉ μ := fun z => (List.nodup_append.mp nd).2.2 a z a m rfl
  exact ⟨(e.new a (List.mem_of_mem_drop m)).resolve_left na, na⟩
theorem frz_rel {as : List Addr} {H2 : Hp} (r : Rel Γ H μ h) (f : FrzOf as H H2) (na : ∀ a ∈ as, a ∉ μ) : Rel Γ H2 μ h where
  len := r.len
  nd := r.nd
  ob := fun i a o h1 h2 => by
    have x := r.ob i a o h1 h2
    have m : a ∉ as := fun z => na a z (List.mem_of_getElem? h1)
    cases o with
    | lst ds => obtain ⟨vs, q, z⟩ := x; exact ⟨vs, by rw [f.off a m]; exact q, z.mono0 (frz_ext f)⟩
    | dead => obtain ⟨vs, q⟩ := x; exact ⟨vs, by rw [f.off a m]; exact q⟩
  tabs := fun q hq => by
    obtain ⟨ps, h1, h2, h3⟩ := r.tabs q hq
    have nn : ∀ b o, H b = some o → (∀ vs, o ≠ .lst vs) → b ∉ as := fun b o e t z => by
      obtain ⟨o', xs, e1, _⟩ := f.on b z
      rw [e] at e1; cases e1; exact t xs rfl
    refine ⟨ps, by rw [f.off _ (nn _ _ h1 fun vs z => nomatch z)]; exact h1, h2, fun pos cv hc => ?_⟩
    obtain ⟨c, e1, e2⟩ := h3 pos cv hc
    exact ⟨c, e1, by rw [f.off _ (nn _ _ e2 fun vs z => nomatch z)]; exact e2⟩
  j := Γ.Jm r.j (frz_ext f)
theorem frz_ext1 {as : List Addr} {H2 : Hp} (e : Ext H μ H' μ) (f : FrzOf as H' H2) (na : ∀ a ∈ as, H a = none) : Ext H μ H2 μ where
  pre := List.prefix_refl _
  keep := fun a u h1 n t => by
    rw [f.off a fun z => by rw [na a z] at h1; cases h1]; exact e.keep a u h1 n t
  keepT := fun a ps h1 n => by
    rw [f.off a fun z => by rw [na a z] at h1; cases h1]; exact e.keepT a ps h1 n
  new := fun a m => .inl m
end
/-- the callee's own lists fall away -/
def cutF (f : MF) : MF := fun ds h => match f ds h with
  | .ok d h1 => match deD h.length h1 d with
    | some d2 => if (h1.take h.length).all (belowM h.length) then .ok d2 (h1.take h.length) else .stuck
    | none => .stuck
  | .err e h1 => if (h1.take h.length).all (belowM h.length) && belowDs h.length (e.fs.map (·.2)) then .err e (h1.take h.length) else .stuck
  | .stuck => .stuck
/-- on a heap of its own -/
def pureF (f : MF) : MF := fun ds h => if belowDs 0 ds then match f ds [] with
  | .ok d h1 => match deD 0 h1 d with
    | some d2 => .ok d2 h
    | none => .stuck
  | .err e h1 => if belowDs 0 (e.fs.map (·.2)) then .err e h else .stuck
  | .stuck => .stuck
  else .stuck
theorem spF_cut {Γ : G} {n : Nat} {f : MF} {vs : List V} {H : Hp} {Q : VK} {E : XK} (q : spF Γ n (cutF f) vs H Q E) : spF Γ n f vs H (Fz Q) E := by
  obtain ⟨hl, ds, h, μ, dv, r, q⟩ := q
  refine ⟨hl, ds, h, μ, dv, r, ?_⟩
  unfold cutF at q
  cases ef : f ds h with
  | ok d h1 =>
    rw [ef] at q
    simp only at q
    split at q
    · rename_i d2 e2
      split at q
      · rename_i hb
        intro v H' μ' e r' dd
        have nw := cut_new r e r'
        have ep := cut_pre r e
        have hn : h.length ≤ μ'.length := by rw [← r.len]; exact e.pre.length_le
        refine fz_all (μ'.drop h.length) (r'.nd.sublist (List.drop_sublist _ _)) (fun a m => r'.mem (List.mem_of_mem_drop m)) fun H2 f2 => ?_
        refine q v H2 μ (frz_ext1 (cut_ext e) f2 fun a m => (nw a m).1) (frz_rel (cut_rel r e r' hb) f2 fun a m => (nw a m).2) ?_
        have := deD_ok r' hn f2 dd e2
        rw [ep] at this
        exact this
      · exact False.elim q
    · exact False.elim q
  | err ex h1 =>
    rw [ef] at q
    simp only at q
    split at q
    · rename_i hb
      rw [Bool.and_eq_true] at hb
      intro cls dd H' μ' e r' x
      have ep := cut_pre r e
      have hn : h.length ≤ μ'.length := by rw [← r.len]; exact e.pre.length_le
      refine q cls dd H' μ (cut_ext e) (cut_rel r e r' hb.1) ?_
      obtain ⟨C, dx, us, e1, e2, e3, e4, e5⟩ := x
      have := e5.takeN hn hb.2
      rw [ep] at this
      exact ⟨C, dx, us, e1, e2, e3, e4, this⟩
    · exact False.elim q
  | stuck => rw [ef] at q; exact False.elim q
theorem up {Γ : G} {H : Hp} {μ : List Addr} {h : List MO} (r : Rel Γ H μ h) : Ext0 H [] H μ := ⟨List.nil_prefix, fun _ _ h _ _ _ => h, fun _ ps h _ => ⟨ps, h⟩, fun a m => .inr (.inr (r.mem m))⟩
theorem spF_pure {Γ : G} {n : Nat} {f : MF} {vs : List V} {H : Hp} {Q : VK} {E : XK} (q : spF Γ n (pureF f) vs H Q E) : spF Γ n f vs H (Fz Q) E := by
  obtain ⟨hl, ds, h, μ, dv, r, q⟩ := q
  unfold pureF at q
  split at q
  · rename_i hb
    have dv0 : Dens Γ [] H vs ds := by
      have := dv.takeN (n := 0) (Nat.zero_le _) hb
      exact this
    have r0 : Rel Γ H [] [] := ⟨rfl, List.nodup_nil, fun i a o h1 _ => by simp at h1, r.tabs, Γ.Jd r.j fun _ m => nomatch m⟩
    have back : ∀ {H'' : Hp}, Ext H [] H'' [] → LamX.Tabs Γ.T H'' → Rel Γ H'' μ h ∧ Ext H μ H'' μ := fun {H''} e t => by
      have e' : Ext H μ H'' μ := ⟨List.prefix_refl _, (fun a u h1 _ t => e.keep a u h1 (fun m => nomatch m) t), (fun a ps h1 _ => e.keepT a ps h1 (fun m => nomatch m)), (fun _ m => .inl m)⟩
      exact ⟨r.grow e' (fun a m => by
        obtain ⟨vs, q⟩ := r.mem m
        rw [q]
        exact e.keep a _ q (fun m => nomatch m) fun ps z => nomatch z) t, e'⟩
    refine ⟨hl, ds, [], [], dv0, r0, ?_⟩
    cases ef : f ds [] with
    | ok d h1 =>
      rw [ef] at q
      simp only at q
      split at q
      · rename_i d2 e2
        intro v H' μ' e r' dd
        have nw := cut_new r0 e r'
        refine fz_all μ' r'.nd (fun a m => r'.mem m) fun H2 f2 => ?_
        have eH : Ext H [] H2 [] := frz_ext1 (cut_ext e) f2 fun a m => (nw a m).1
        have r2 : Rel Γ H2 [] [] := frz_rel (cut_rel r0 e r' (by rfl)) f2 fun a m z => nomatch z
        obtain ⟨rr, ee⟩ := back eH r2.tabs
        refine q v H2 μ ee rr ?_
        have k := deD_ok (n := 0) r' (Nat.zero_le _) f2 dd e2
        exact k.mono0 (up rr)
      · exact False.elim q
    | err ex h1 =>
      rw [ef] at q
      simp only at q
      split at q
      · rename_i hb2
        intro cls dd H' μ' e r' x
        obtain ⟨rr, ee⟩ := back (cut_ext e) r'.tabs
        refine q cls dd H' μ ee rr ?_
        obtain ⟨C, dx, us, e1, e2, e3, e4, e5⟩ := x
        have k := e5.takeN (n := 0) (Nat.zero_le _) hb2
        exact ⟨C, dx, us, e1, e2, e3, e4, Dens.mono0 (μ := []) k (up rr)⟩
      · exact False.elim q
    | stuck => rw [ef] at q; exact False.elim q
  · exact False.elim q
end MP
end
section
set_option Elab.async false
set_option linter.all false
set_option maxRecDepth 100000
set_option maxHeartbeats 1000000
/-! M12: calls of defs. -/
namespace MP
open PySem PySem.Spec PyProof.Rows L2

/-- a list of arguments has m values -/
def LenA (f : MA) (m : Nat) : Prop := ∀ ρ h ds h1, f ρ h = .ok ds h1 → ds.length = m
theorem len_nil : LenA aNil 0 := fun ρ h ds h1 e => by cases e; rfl
theorem len_cons {f : ME} {g : MA} {m : Nat} (k : LenA g m) : LenA (aCons f g) (m + 1) := fun ρ h ds h1 e => by
  unfold aCons Res.bind at e
  cases ef : f ρ h with
  | ok d h2 =>
    rw [ef] at e
    simp only at e
    cases eg : g ρ h2 with
    | ok es h3 =>
      rw [eg] at e
      cases e
      rw [List.length_cons, k _ _ _ _ eg]
    | err _ _ => rw [eg] at e; cases e
    | stuck => rw [eg] at e; cases e
  | err _ _ => rw [ef] at e; cases e
  | stuck => rw [ef] at e; cases e
/-- keywords' values -/
structure FK (X : Cx) (Γ : G) (W : WX) (kws : List Keyword) (f : MA) : Prop where
  ok : PK X kws (tA Γ W f)
def xCall (g : MF) (dds : List D) (fa : MA) : ME := fun ρ h => (fa ρ h).bind fun ds h1 => g (ds ++ dds) h1
/-- where a parameter's value comes from -/
inductive Src where
  | pos (i : Nat) | kw (i : Nat) | df (d : D)
def Src.pick (ds es : List D) : Src → D
  | .pos i => ds.getD i .non
  | .kw i => es.getD i .non
  | .df d => d
def xCallK (g : MF) (src : List Src) (fa fk : MA) : ME := fun ρ h => (fa ρ h).bind fun ds h1 => (fk ρ h1).bind fun es h2 => g (src.map (Src.pick ds es)) h2
theorem takes0 {X : Cx} : Takes X W0 := fun _ _ ⟨_, _, _, _, _, _, _, _, _, _, _, _, _, _, _, _, w⟩ => False.elim w
section
variable {X : Cx} {Γ : G} {W : WX} {k n : Nat} {f : Addr} {fd : FuncData} {ps ks : List Str} {sp : Sp} {x : Str} {p pos : Pos} {e : Expr} {es : List Expr} {kws : List Keyword} {fa fk : MA} {dvs : List V} {ds : List Value} {dds : List D} {fm : MF}
theorem fk_nil : FK X Γ W [] aNil := ⟨⟨fun pos pins s σ H Q I q => pk_nil.run pos pins s σ H Q I (by
  obtain ⟨ρ, h, μ, he, hr, q⟩ := q
  exact q [] H μ (Ext.refl _ _) hr rfl)⟩⟩
theorem fk_cons {nm : Option Str} {kpos : Pos} {fe : ME} (he : FE X Γ W e fe) (hk : FK X Γ W kws fk) : FK X Γ W (⟨nm, e, kpos⟩ :: kws) (aCons fe fk) := ⟨⟨fun pos pins s σ H Q I q => (pk_cons he.ok hk.ok).run pos pins s σ H Q I (by
  obtain ⟨ρ, h, μ, he, hr, q⟩ := q
  refine ⟨ρ, h, μ, he, hr, Good.bind q fun a h1 v H1 μ1 z1 e1 r1 d1 q1 => ?_⟩
  refine ⟨ρ, h1, μ1, he.mono e1, r1, Good.bind q1 fun b h2 w H2 μ2 z2 e2 r2 d2 q2 => ?_⟩
  exact q2 _ _ _ (Ext.refl _ _) r2 ⟨v, w, rfl, d1.mono e2, d2⟩)⟩⟩
/-- the callee runs -/
theorem run_fnW {pins : List (Addr × Obj)} {σ : L2.St} {H : Hp} {s : Shared} {Q : VK} {us : List Value} {vs : List V} {args : Args} (F : FnOk X.prog X.w X.K X.mg X.base (CX X.prog X.w) k f fd ps sp) (hr : Room k X.A) (tk : Takes X W)
    (I : Inv X pins σ H s) (hb : BindsTo s fd args (ps.zip us)) (r : Vals vs us) (h : sp vs H Q fun c d H' => W c d σ H') : wpAny (model X.prog X.w) X.A (call (.ref f) args.pos args.kw) (EP X pins σ Q) X.xe s := by
  refine wpAny_call (codeAny_mono (F.run X.A X.stack s H args us vs Q _ hr I.env0 hb r h) fun r s' hq => ?_)
  cases r with
  | error e => exact tk e s' (XE.of_call I (fun _ _ _ h => h) hq)
  | ok fl =>
    cases fl with
    | ret u => exact I.after hq
    | next => exact False.elim hq
    | brk => exact False.elim hq
    | cont => exact False.elim hq
theorem fe_call (F : FnOk X.prog X.w X.K X.mg X.base (CX X.prog X.w) k f fd ps (spF Γ ps.length fm)) (hr : Room k X.A) (tk : Takes X W) (hg : Gl X x) (hm : X.mg x = some (.ref f)) (hk : PySem.W.keepIn X.K (.ref f) = true) (hb : Binds X.K fd ps ds) (hd : Vals dvs ds) (hdd : ∀ μ H, Dens Γ μ H dvs dds)
    (ha : FA X Γ W (e :: es) fa) {m : Nat} (hl : LenA fa m) (hn : m + dds.length = ps.length) (hdb : (x == ("__debug__" : Str)) = false := by decide) (he : starEach (e :: es) X.env = (false, eval e X.env) :: starEach es X.env := by rfl) (hpl : (backTo pos (starEach es X.env)).any (·.1) = false := by rfl) :
    FE X Γ W (.Call (.Name x p) (e :: es) [] pos) (xCall fm dds fa) := by
  refine ⟨⟨fun pins s σ H Q I q => ?_⟩⟩
  obtain ⟨ρ, h, μ, heq, hrr, q⟩ := q
  refine wpAny_Call_Name_kw (ld_glob I hg hm ?_ hdb)
  have tq : tA Γ W fa σ H fun vs H1 => vs.length = m ∧ spF Γ ps.length fm (vs ++ dvs) H1 Q fun c d H' => W c d σ H' := by
    refine ⟨ρ, h, μ, heq, hrr, Good.bind q fun a h1 v H1 μ1 z1 e1 r1 d1 q1 => ?_⟩
    have l := hl _ _ _ _ z1
    have l2 := d1.length
    have l3 := (hdd μ1 H1).length
    exact ⟨l2.trans l, by rw [List.length_append]; omega, a ++ dds, h1, μ1, d1.append (hdd μ1 H1), r1, q1⟩
  refine PySem.W.callWith_K (h₀ := X.base) I.ok.mod.kin hk (thn (ha.ok.run pos pins s σ H _ I tq) fun us s1 ⟨vs, H1, I1, r, l, q⟩ => ⟨I1.kIn, ?_⟩) he hpl
  have r2 : Vals (vs ++ dvs) (us ++ ds) := r.append hd
  exact run_fnW (args := ⟨us, []⟩) F hr tk I1 (hb s1 us I1.kIn (by rw [← r2.length]; exact q.1)) r2 q
theorem fe_call0 (F : FnOk X.prog X.w X.K X.mg X.base (CX X.prog X.w) k f fd ps (spF Γ ps.length fm)) (hr : Room k X.A) (tk : Takes X W) (hg : Gl X x) (hm : X.mg x = some (.ref f)) (hk : PySem.W.keepIn X.K (.ref f) = true) (hb : Binds X.K fd ps ds) (hd : Vals dvs ds) (hdd : ∀ μ H, Dens Γ μ H dvs dds)
    (hn : dds.length = ps.length) (hdb : (x == ("__debug__" : Str)) = false := by decide) :
    FE X Γ W (.Call (.Name x p) [] [] pos) (xCall fm dds aNil) := by
  refine ⟨⟨fun pins s σ H Q I q => ?_⟩⟩
  obtain ⟨ρ, h, μ, heq, hrr, q⟩ := q
  refine wpAny_Call_Name_kw (ld_glob I hg hm ?_ hdb)
  have q' : spF Γ ps.length fm ([] ++ dvs) H Q fun c d H' => W c d σ H' := ⟨by rw [List.nil_append, (hdd μ H).length]; exact hn, [] ++ dds, h, μ, Dens.append (vs := []) (ds := []) rfl (hdd μ H), hrr, q⟩
  have r2 : Vals ([] ++ dvs) ([] ++ ds) := hd
  exact PySem.W.callWith_K0 I.kIn hk (run_fnW (args := ⟨[], []⟩) F hr tk I (hb s [] I.kIn (by rw [← r2.length]; exact q'.1)) r2 q')
/-- what a call with keywords binds: n positional values us, the keywords' values ws -/
structure KB (Γ : G) (K : PySem.W.Frag) (fd : FuncData) (ps : List Str) (n : Nat) (ks : List Str) (src : List Src) where
  g : List Value → List Value → List Value
  gV : List V → List V → List V
  to : ∀ (s : Shared) (us ws : List Value), K.In s.heap → us.length = n → ws.length = ks.length → BindsTo s fd ⟨us, ks.zip ws⟩ (ps.zip (g us ws))
  rel : ∀ {vs : List V} {us : List Value} {zs : List V} {ws : List Value}, Vals vs us → Vals zs ws → vs.length = n → zs.length = ks.length → Vals (gV vs zs) (g us ws)
  den : ∀ {μ H vs zs ds es}, Dens Γ μ H vs ds → Dens Γ μ H zs es → vs.length = n → zs.length = ks.length → Dens Γ μ H (gV vs zs) (src.map (Src.pick ds es))
theorem fe_callK0 {src : List Src} (F : FnOk X.prog X.w X.K X.mg X.base (CX X.prog X.w) k f fd ps (spF Γ ps.length fm)) (hr : Room k X.A) (tk : Takes X W) (hg : Gl X x) (hm : X.mg x = some (.ref f)) (hk : PySem.W.keepIn X.K (.ref f) = true) (hb : KB Γ X.K fd ps 0 ks src)
    (hkw : FK X Γ W kws fk) (hl : LenA fk ks.length) (hn : src.length = ps.length) (hall : (backToKw pos (keywordEach kws X.env)).all (·.1.isSome) = true := by rfl) (hks : (backToKw pos (keywordEach kws X.env)).filterMap (·.1) = ks := by rfl)
    (hdb : (x == ("__debug__" : Str)) = false := by decide) (hpl : ((backTo pos (starEach [] X.env)).any (·.1) || (backToKw pos (keywordEach kws X.env)).any (·.1.isNone)) = false := by rfl) :
    FE X Γ W (.Call (.Name x p) [] kws pos) (xCallK fm src aNil fk) := by
  refine ⟨⟨fun pins s σ H Q I q => ?_⟩⟩
  obtain ⟨ρ, h, μ, heq, hrr, q⟩ := q
  refine wpAny_Call_Name_kw (ld_glob I hg hm ?_ hdb)
  have tq : tA Γ W fk σ H fun zs H1 => zs.length = ks.length ∧ spF Γ ps.length fm (hb.gV [] zs) H1 Q fun c d H' => W c d σ H' := by
    refine ⟨ρ, h, μ, heq, hrr, Good.bind q fun a h1 v H1 μ1 z1 e1 r1 d1 q1 => ?_⟩
    have l := hl _ _ _ _ z1
    have l2 := d1.length
    have dd := hb.den (show Dens Γ μ1 H1 [] [] from rfl) d1 rfl (l2.trans l)
    exact ⟨l2.trans l, by rw [dd.length, List.length_map]; exact hn, _, h1, μ1, dd, r1, q1⟩
  refine PySem.W.callWith_KW0 (h₀ := X.base) I.ok.mod.kin hk hall ?_ hpl
  refine thn (hkw.ok.run pos pins s σ H _ I tq) fun ws s1 ⟨zs, H1, I1, rz, l, q⟩ => ⟨I1.kIn, ?_⟩
  rw [hks]
  exact run_fnW (args := ⟨[], ks.zip ws⟩) F hr tk I1 (hb.to s1 [] ws I1.kIn rfl (rz.length.symm.trans l)) (hb.rel .nil rz rfl l) q
theorem fe_callK {src : List Src} (F : FnOk X.prog X.w X.K X.mg X.base (CX X.prog X.w) k f fd ps (spF Γ ps.length fm)) (hr : Room k X.A) (tk : Takes X W) (hg : Gl X x) (hm : X.mg x = some (.ref f)) (hk : PySem.W.keepIn X.K (.ref f) = true) (hb : KB Γ X.K fd ps n ks src)
    (ha : FA X Γ W (e :: es) fa) (hkw : FK X Γ W kws fk) (hla : LenA fa n) (hl : LenA fk ks.length) (hn : src.length = ps.length) (hall : (backToKw pos (keywordEach kws X.env)).all (·.1.isSome) = true := by rfl) (hks : (backToKw pos (keywordEach kws X.env)).filterMap (·.1) = ks := by rfl)
    (hdb : (x == ("__debug__" : Str)) = false := by decide) (he : starEach (e :: es) X.env = (false, eval e X.env) :: starEach es X.env := by rfl)
    (hpl : ((backTo pos (starEach (e :: es) X.env)).any (·.1) || (backToKw pos (keywordEach kws X.env)).any (·.1.isNone)) = false := by rfl) :
    FE X Γ W (.Call (.Name x p) (e :: es) kws pos) (xCallK fm src fa fk) := by
  refine ⟨⟨fun pins s σ H Q I q => ?_⟩⟩
  obtain ⟨ρ, h, μ, heq, hrr, q⟩ := q
  refine wpAny_Call_Name_kw (ld_glob I hg hm ?_ hdb)
  have tq : tA Γ W fa σ H fun vs H1 => vs.length = n ∧ tA Γ W fk σ H1 fun zs H2 => zs.length = ks.length ∧ spF Γ ps.length fm (hb.gV vs zs) H2 Q fun c d H' => W c d σ H' := by
    refine ⟨ρ, h, μ, heq, hrr, Good.bind q fun a h1 v H1 μ1 z1 e1 r1 d1 q1 => ?_⟩
    have l := hla _ _ _ _ z1
    have l2 := d1.length
    refine ⟨l2.trans l, ρ, h1, μ1, heq.mono e1, r1, Good.bind q1 fun b h2 w H2 μ2 z2 e2 r2 d2 q2 => ?_⟩
    have l3 := hl _ _ _ _ z2
    have l4 := d2.length
    have dd := hb.den (d1.mono e2) d2 (l2.trans l) (l4.trans l3)
    exact ⟨l4.trans l3, by rw [dd.length, List.length_map]; exact hn, _, h2, μ2, dd, r2, q2⟩
  refine PySem.W.callWith_KW (h₀ := X.base) I.ok.mod.kin hk hall (thn (ha.ok.run pos pins s σ H _ I tq) fun us s1 ⟨vs, H1, I1, r, la, q⟩ => ?_) hpl he
  refine thn (hkw.ok.run pos pins s1 σ H1 _ I1 q) fun ws s2 ⟨zs, H2, I2, rz, l, q2⟩ => ⟨I2.kIn, ?_⟩
  rw [hks]
  exact run_fnW (args := ⟨us, ks.zip ws⟩) F hr tk I2 (hb.to s2 us ws I2.kIn (r.length.symm.trans la) (rz.length.symm.trans l)) (hb.rel r rz la l) q2
end
end MP
end
section
set_option Elab.async false
set_option linter.all false
set_option maxRecDepth 100000
set_option maxHeartbeats 4000000
/-! M13: exceptions of the package are made. -/
namespace MX
open PySem PySem.Spec PyProof.Rows PySem.HandSPX
abbrev eTail : List Value := [.type "Exception", .type "BaseException", .type "object"]
def refsE : List Value → Bool
  | .ref _ :: r => refsE r
  | l => l == eTail
theorem refsE_cases : ∀ l : List Value, refsE l = true → (∃ c r, l = .ref c :: r ∧ refsE r = true) ∨ l = eTail
  | [], e => .inr (beq_iff_eq.mp e)
  | .ref c :: r, e => .inl ⟨c, r, rfl, e⟩
  | .none :: _, e => .inr (beq_iff_eq.mp e)
  | .ellipsis :: _, e => .inr (beq_iff_eq.mp e)
  | .notImplemented :: _, e => .inr (beq_iff_eq.mp e)
  | .bool _ :: _, e => .inr (beq_iff_eq.mp e)
  | .int _ _ :: _, e => .inr (beq_iff_eq.mp e)
  | .float _ _ :: _, e => .inr (beq_iff_eq.mp e)
  | .str _ _ :: _, e => .inr (beq_iff_eq.mp e)
  | .bytes _ _ :: _, e => .inr (beq_iff_eq.mp e)
  | .type _ :: _, e => .inr (beq_iff_eq.mp e)
  | .builtin _ :: _, e => .inr (beq_iff_eq.mp e)
theorem refsE_pass (self : Value) : ∀ l : List Value, refsE l = true → refuseLoop self "__setattr__" l = pure () := by
  intro l
  induction l with
  | nil => intro e; exact absurd e (by decide)
  | cons a r ih =>
    intro e
    rcases refsE_cases (a :: r) e with ⟨c, r', q, h⟩ | q
    · obtain ⟨rfl, rfl⟩ := List.cons.inj q
      rw [refuseLoop_ref]; exact ih h
    · rw [q]; exact F.store_Exception.passes self
theorem refsE_contains (X : String) : ∀ l : List Value, refsE l = true → l.contains (.type X) = eTail.contains (.type X) := by
  intro l
  induction l with
  | nil => intro e; exact absurd e (by decide)
  | cons a r ih =>
    intro e
    rcases refsE_cases (a :: r) e with ⟨c, r', q, h⟩ | q
    · obtain ⟨rfl, rfl⟩ := List.cons.inj q
      rw [List.contains_cons, ih h]; rfl
    · rw [q]
theorem refsE_ne {l : List Value} (e : refsE l = true) : l.isEmpty = false := by
  cases l with
  | nil => exact absurd e (by decide)
  | cons _ _ => rfl
section
open Builtin Builtin.ObjectAttr
variable {prog : Program} {w : World} {A : Around} {E : Value → Shared → Prop} {R : Result → Shared → Prop} {hp : Heap} {g : Array GenState} {d : Drawn} {t : Nat} {os : OsState}
theorem osa_any {K : W.Frag} {name : Str} {tk : Tok} {v : Value} {x C : Addr} {ox : Obj} {od : Option Obj} {cd : ClassData}
    (X : K.In hp) (I : W.InstAt hp x ox C od) (hcd : W.clsIn K C = some cd) (hm : refsE cd.mro = true) (ha : W.findIn K (.ref C) name = some none)
    (hq : wpAny (model prog w) A.in1 (storeInOwnDict (.ref x) (.ref C) (.str name tk) name v false)
      (fun fin s' => match fin with | .done f => R (.ok f) s' | .again c' => c'.quiet = true ∧ codeAny (model prog w) A c' R s') (fun e s' => R (.error e) s') ⟨hp, g, d, t, os⟩) :
    codeAny (model prog w) A (.call (.builtin "object.__setattr__") ⟨[.ref x, .str name tk, v], []⟩) R ⟨hp, g, d, t, os⟩ := by
  have SF := F.store_object
  have ne := refsE_ne hm
  have hob : cd.mro.contains (.type "object") = true := (refsE_contains "object" _ hm).trans (by decide +kernel)
  have sub : W.Looks (model prog w) hp (isInstance (.ref x) (.type "object")) true := I.type.andThen (W.looks_mroIn X (by unfold W.mroIn; rw [hcd, Option.bind_some, if_neg (by rw [ne]; decide), hob]))
  refine codeAny_call_builtin SF.slot.plain SF.entry (@W.check_slot (model prog w) _ _ ⟨hp, g, d, t, os⟩ "object.__setattr__" "object" "__setattr__" (.ref x) [.str name tk, v] [] _ SF.kind SF.split sub (SF.args (.ref x) (.str name tk) v) ?_)
  have hmr : W.Looks (model prog w) hp (mroOf (.ref C)) cd.mro := (W.looks_clsIn X hcd).andThen .now
  have L3 : W.Looks (model prog w) hp (storeTaker? none) none := .now
  rw [W.osa_eq, refuse_eq]
  refine wpAny_bind (wpAny_bind (I.type.at (wpAny_bind (hmr.at ?_))))
  rw [refsE_pass _ _ hm]
  refine wpAny_pure (wpAny_bind (I.type.at (wpAny_bind ((W.looks_findIn X ha).at (wpAny_bind (L3.at ?_))))))
  exact hq
theorem osa_new {K : W.Frag} {name : Str} {tk : Tok} {v : Value} {x C : Addr} {fv : Array Value} {cd : ClassData}
    (X : K.In hp) (hx : hp.get? x = some { cls := .ref C, data := .fields fv }) (hcd : W.clsIn K C = some cd) (hm : refsE cd.mro = true) (hh : cd.hasDict = true) (ha : W.findIn K (.ref C) name = some none)
    (hq : ∀ h' tk' dx, (∀ b o, b ≠ x → hp.get? b = some o → h'.get? b = some o) → hp.objs.size ≤ dx → dx ≠ x → h'.get? x = some { cls := .ref C, dict := some dx, data := .fields fv } →
      h'.Ns1 dx (fun y => if y = name then some v else none) → R (.ok (.ret .none)) ⟨h', g, d, tk', os⟩) :
    codeAny (model prog w) A (.call (.builtin "object.__setattr__") ⟨[.ref x, .str name tk, v], []⟩) R ⟨hp, g, d, t, os⟩ := by
  have I : W.InstAt hp x { cls := .ref C, data := .fields fv } C none := ⟨hx, rfl, rfl, trivial⟩
  have hxs : x ≠ hp.objs.size := Nat.ne_of_lt (Heap.lt_size hx)
  refine osa_any X I hcd hm ha ?_
  have hcls : W.Looks (model prog w) hp (classData C) cd := W.looks_clsIn X hcd
  obtain ⟨nm, bs, mro, ns, qn, hd, sn, sb, ab, col, del⟩ := cd
  dsimp only at hh
  subst hh
  unfold storeInOwnDict ownDictForStores
  repeat (first | with_reducible refine HandSPX.store_in_new ?_ ?_ | with_reducible refine wpAny_loadPart_at hx ?_ | with_reducible refine hcls.at ?_ | wp_step)
  · exact ⟨_, #[], _, (Heap.get?_update_ne _ _ _ _ hxs.symm).trans (Heap.get?_push_at rfl rfl), rfl, fun e he => absurd he (by simp), fun _ => rfl⟩
  · intro h' tk' hn' hs
    have hx₁ : (hp.push { cls := .type "dict", data := .dict #[] }).get? x = some { cls := .ref C, data := .fields fv } := Heap.get?_push_of_some _ hx
    refine hq h' tk' hp.objs.size (fun b o hb ho => ?_) (Nat.le_refl _) hxs.symm ?_ hn'
    · exact (hs.2 b (Nat.ne_of_lt (Heap.lt_size ho))).trans ((Heap.get?_update_ne _ _ _ _ hb).trans (Heap.get?_push_of_some _ ho))
    · exact (hs.2 x hxs).trans (Heap.get?_update_self _ hx₁ rfl)
theorem osa_old {K : W.Frag} {name : Str} {tk : Tok} {v : Value} {x C dx : Addr} {fv : Array Value} {cd : ClassData} {m0 : Str → Option Value} {nl : List Str}
    (X : K.In hp) (hx : hp.get? x = some { cls := .ref C, dict := some dx, data := .fields fv }) (hns : hp.Ns1 dx m0) (hw : Within m0 nl) (hz : nl.length ≤ 1000) (hcd : W.clsIn K C = some cd) (hm : refsE cd.mro = true) (hh : cd.hasDict = true)
    (ha : W.findIn K (.ref C) name = some none)
    (hq : ∀ h' tk', (∀ b o, b ≠ dx → hp.get? b = some o → h'.get? b = some o) → h'.Ns1 dx (fun y => if y = name then some v else m0 y) → R (.ok (.ret .none)) ⟨h', g, d, tk', os⟩) :
    codeAny (model prog w) A (.call (.builtin "object.__setattr__") ⟨[.ref x, .str name tk, v], []⟩) R ⟨hp, g, d, t, os⟩ := by
  obtain ⟨oD, esD, epD, hoD, hdD, _⟩ := hns.count hw
  have I : W.InstAt hp x { cls := .ref C, dict := some dx, data := .fields fv } C (some oD) := ⟨hx, rfl, rfl, hoD⟩
  refine osa_any X I hcd hm ha ?_
  have hcls : W.Looks (model prog w) hp (classData C) cd := W.looks_clsIn X hcd
  obtain ⟨nm, bs, mro, ns, qn, hd, sn, sb, ab, col, del⟩ := cd
  dsimp only at hh
  subst hh
  unfold storeInOwnDict ownDictForStores
  repeat (first | with_reducible refine ESX.store_in_old hns hw hz ?_ | with_reducible refine wpAny_loadPart_at hx ?_ | with_reducible refine hcls.at ?_ | wp_step)
  intro h' tk' hn' hs
  exact hq h' tk' (fun b o hb ho => (hs.2 b hb).trans ho) hn'
end

/-- what the written part says of an exception's class and its __init__ -/
structure XiC (prog : Program) (K : W.Frag) (C fI : Addr) (qual : Str) (params : Arguments) (body : List Stmt) (scope : Scope) : Prop where
  cls : ∃ nm q N bs bm sn sub ab col dd k0 k1 k2 k3 k5, K.lookup C = some (excClassObj nm q C N bs bm true sn sub ab col dd k0 k1 k2 k3 k5 "Exception.__new__") ∧ refsE bm = true ∧ W.alongIn K "__init__" bm = some (some (.builtin "Exception.__init__"))
  sa : W.findIn K (.ref C) "__setattr__" = some (some (.builtin "object.__setattr__"))
  exC : W.subIn K (.ref C) (.type "BaseException") = some true
  exE : W.subIn K (.ref C) (.type "Exception") = some true
  mro : W.mroIn K C (.ref C) = some true
  tyC : W.typeIn K (.ref C) = some (.type "type")
  kC : W.keepIn K (.ref C) = true
  iC : W.findIn K (.ref C) "__init__" = some (some (.ref fI))
  tI : W.typeIn K (.ref fI) = some (.type "function")
  fn : ∃ name kV doc pm an cda ct cc oc od osl ccl cdd vs ccs file tf cl cld csl, K.lookup fI = some ⟨oc, od, .func (W.ksFn name qual params body scope .none kV doc pm an (.ref cda) ct cc), osl⟩ ∧ W.codeIn K (.ref cda) qual = true ∧
    K.lookup cda = some ⟨ccl, cdd, .fields vs, ccs⟩ ∧ vs[2]? = some (.str file tf) ∧ ((prog.main.file : Str) == file) = true ∧ K.lookup cc = some ⟨cl, cld, .cell (some (.ref C)), csl⟩
  thi : W.nsIn K cStatics "thirdparty.any" = some none
  top : (prog.main.scope.names.lookup ("super" : Str)).isSome = false

section
open PySem.W PySem.Calls
variable {prog : Program} {w : World} {A : Around} {s : Shared} {K : Frag} {mg : Str → Option Value} {C fI a t0 : Addr} {qual : Str} {scope : Scope} {R : Result → Shared → Prop}
/-- super().__init__(..) -/
theorem init_super {params : Arguments} {body : List Stmt} {ar : PySem.Arg} {c0 : List Stmt} {A : Around} {p0 p1 p2 p3 p4 : Pos} {L : Addr} {m : Str → Option Value} {es : List Expr} {e : Expr} {us : List Value} {cda cc : Addr} {Q : Flow → Shared → Prop} {E : Value → Shared → Prop} {base : Heap}
    (T : XiC prog K C fI qual params body scope) (hM : L2.Mod K mg base) (bk : ∀ b o, base.get? b = some o → s.heap.get? b = some o) (hms : mg "super" = none)
    (hfn : ∃ name dV kV doc pm an ct oc od osl, K.lookup fI = some ⟨oc, od, .func (ksFn name qual params body scope dV kV doc pm an (.ref cda) ct cc), osl⟩)
    (hcd : ∃ ccl cdd vs ccs file tf, K.lookup cda = some ⟨ccl, cdd, .fields vs, ccs⟩ ∧ vs[2]? = some (.str file tf) ∧ ((prog.main.file : Str) == file) = true) (hcc : ∃ cl cld csl, K.lookup cc = some ⟨cl, cld, .cell (some (.ref C)), csl⟩)
    (hp : (params.posonlyargs ++ params.args).head? = some ar) (har : ar.arg = ("self" : Str)) (hns : s.heap.Ns L m) (hself : m "self" = some (.ref a)) (ha : s.heap.get? a = some (excO C t0))
    (hk : scope.kind = .function) (hks : scope.names.lookup ("super" : Str) = some .globalImplicit) (hkc : scope.names.lookup ("__class__" : Str) = some .free) (hka : scope.names.lookup ("self" : Str) = some .local)
    (hargs : ∀ (s' : Shared) (Q' : List Value → Shared → Prop), s'.heap.Ns L m → Q' us s' → wpAny (model prog w) A (spliced (backTo p3 (starEach (e :: es) (ksEnv qual scope L fI (.ref cda) cc)))) Q' E s') (hl : us.length ≤ sizeLine)
    (hplain : (backTo p3 (starEach es (ksEnv qual scope L fI (.ref cda) cc))).any (·.1) = false := by rfl) (hse : starEach (e :: es) (ksEnv qual scope L fI (.ref cda) cc) = (false, eval e (ksEnv qual scope L fI (.ref cda) cc)) :: starEach es (ksEnv qual scope L fI (.ref cda) cc) := by rfl)
    (hev : ∃ pl, eval (.Call (.Attribute (.Call (.Name "super" p0) [] [] p1) "__init__" p2) (e :: es) [] p3) (ksEnv qual scope L fI (.ref cda) cc) = (do
      let ov ← attributeBase (.Call (.Name "super" p0) [] [] p1) "__init__" (ksEnv qual scope L fI (.ref cda) cc) (eval (.Call (.Name "super" p0) [] [] p1) (ksEnv qual scope L fI (.ref cda) cc))
      standAt p2.atName
      let (f, first) ← holding [ov] (getMethod ov "__init__" pl)
      callWith p3 f first (backTo p3 (starEach (e :: es) (ksEnv qual scope L fI (.ref cda) cc))) []) := by exact ⟨_, rfl⟩)
    (h : ∀ h' tk' t1, h'.Ns L m → (∀ b o, b ≠ a → s.heap.get? b = some o → h'.get? b = some o) → h'.get? a = some (excO C t1) → Q .next { s with heap := h', toks := tk' }) :
    _root_.PySem.wpAt (model prog w) A (.func c0 (ksEnv qual scope L fI (.ref cda) cc)) (exec (.Expr (.Call (.Attribute (.Call (.Name "super" p0) [] [] p1) "__init__" p2) (e :: es) [] p3) p4) (ksEnv qual scope L fI (.ref cda) cc)) Q E s := by
  obtain ⟨name, dV, kV, doc, pm, an, ct, oc, od, osl, lf⟩ := hfn
  obtain ⟨ccl, cdd, vs, ccs, file, tf, lc, hvs, hfile⟩ := hcd
  obtain ⟨cl, cld, csl, lcc⟩ := hcc
  obtain ⟨nm, q, N, bs, bm, sn, sub, ab, col, dd, k0, k1, k2, k3, k5, hC, hbm, hal⟩ := T.cls
  obtain ⟨mb, hb1, hb2⟩ := hM.blt
  obtain ⟨pl, hev⟩ := hev
  have X : K.In s.heap := hM.kin.keeps bk
  have hxL : L ≠ a := fun z => by
    obtain ⟨oL, es, ep, e1, e2, _⟩ := hns
    rw [z, ha] at e1
    cases e1
    cases e2
  obtain ⟨hh, g, d, t, os⟩ := s
  refine ks_wpAt_Expr_any (ks_wpAt_MethodCall (pl := pl) ?_ hev) (by show (scope.kind == .module && _) = false; rw [hk]; rfl) (by rfl)
  refine ks_wpAt_super_base (env := ksEnv qual scope L fI (.ref cda) cc) hks hkc (by decide) rfl (X _ _ lf) rfl hp rfl (X _ _ lc) rfl hvs hfile T.top ?_
  refine ks_loadName_global hk hks (loadGlobal_builtin (env := ksEnv qual scope L fI (.ref cda) cc) (hM.glob.keeps bk) hms (hb1.keeps bk) ((hb2 _ (by decide)).trans (by first | rfl | decide +kernel)) ⟨rfl, ?_⟩)
  refine wpAny_loadName_free hk hkc rfl ⟨_, X _ _ lcc, rfl⟩ ?_
  rw [har]
  refine wpAny_loadName_local hk hka hns hself ?_
  have hCh : hh.get? C = some _ := X _ _ hC
  refine ks_wpAny_isType_cls hCh rfl ⟨rfl, ?_⟩
  refine ks_wpAny_call_super hCh rfl ha rfl (fun c e => by cases e) (looks_mroIn X T.mro) (fun h1 e1 k1 => ?_)
  have X1 : K.In h1 := X.keeps k1
  have hcl : clsIn K C = some { name := nm, bases := bs, mro := .ref C :: bm, ns := N, qualname := q, hasDict := true, slotNames := sn, subclasses := sub, abstract := ab, collection := col, hasDel := false } := by unfold clsIn; rw [hC] <;> rfl
  have I1 : InstAt h1 a (excO C t0) C none := ⟨k1 _ _ ha, rfl, rfl, trivial⟩
  have hI : Looks (model prog w) h1 (isInstance (.ref a) (.type "Exception")) true := I1.type.andThen (looks_subIn X1 T.exE)
  have hne : a ≠ C := ks_ne X1 I1 hcl
  refine ESX.getMethod_super (l₀ := .ref C :: bm) (l := bm) e1 (looks_opaque X1 T.thi) (fun A Q E s k q => wpAny_bind ((looks_clsIn X1 hcl) A _ E s k (wpAny_pure q))) (by simp [List.dropWhile_cons]) X1 hal hne (by decide) hI ?_
  have k2 : ∀ b o, h1.get? b = some o → (h1.push (ESX.bw a)).get? b = some o := fun b o e => Heap.get?_push_of_some _ e
  have hns2 : (h1.push (ESX.bw a)).Ns L m := (hns.keeps k1).keeps k2
  refine ESX.callWith_bound (x := a) (first := []) (hargs _ _ hns2 ⟨Heap.get?_push_size _ rfl, ?_⟩) hse hplain
  refine ESX.call_bw (k2 _ _ (k1 _ _ hCh)) (k2 _ _ (k1 _ _ ha)) (Heap.get?_push_size _ rfl) hl fun h3 t1 k3 e3 => ?_
  refine h h3 _ t1 ?_ (fun b o hb ho => k3 b o hb (k2 b o (k1 b o ho))) e3
  obtain ⟨oL, esL, ep, eL, r⟩ := hns2
  exact ⟨oL, esL, ep, k3 _ _ hxL eL, r⟩

abbrev excD (C t : Addr) (dx : Addr) : Obj := { cls := .ref C, dict := some dx, data := .fields #[.ref t, .none, .none, .none, .bool false, .none] }
/-- self.f = v on the exception at a: the first one -/
theorem set_first {name : Str} {v : Value} {Q : Unit → Shared → Prop} {E : Value → Shared → Prop} {A : Around} {params : Arguments} {body : List Stmt} (T : XiC prog K C fI qual params body scope) (X : K.In s.heap) (ha : s.heap.get? a = some (excO C t0)) (hno : findIn K (.ref C) name = some none)
    (h : ∀ h' tk' dx, (∀ b o, b ≠ a → s.heap.get? b = some o → h'.get? b = some o) → (∀ b o, s.heap.get? b = some o → b ≠ dx) → dx ≠ a → h'.get? a = some (excD C t0 dx) → h'.Ns1 dx (fun y => if y = name then some v else none) → Q () { s with heap := h', toks := tk' }) :
    wpAny (model prog w) A (setAttr (.ref a) name v) Q E s := by
  obtain ⟨nm, q, N, bs, bm, sn, sub, ab, col, dd, k0, k1, k2, k3, k5, hC, hbm, hal⟩ := T.cls
  have hcl : clsIn K C = some { name := nm, bases := bs, mro := .ref C :: bm, ns := N, qualname := q, hasDict := true, slotNames := sn, subclasses := sub, abstract := ab, collection := col, hasDel := false } := by unfold clsIn; rw [hC] <;> rfl
  obtain ⟨hh, g, d, t, os⟩ := s
  refine set_plain X (ox := excO C t0) (od := none) ⟨ha, rfl, rfl, trivial⟩ T.sa ?_
  refine osa_new X ha hcl (show refsE (.ref C :: bm) = true from hbm) rfl hno (fun h' tk' dx k dn dne hx hn => ?_)
  exact h h' tk' dx k (fun b o e => Nat.ne_of_lt (Nat.lt_of_lt_of_le (Heap.lt_size e) dn)) dne hx hn
theorem set_next {name : Str} {v : Value} {dx : Addr} {m0 : Str → Option Value} {nl : List Str} {Q : Unit → Shared → Prop} {E : Value → Shared → Prop} {A : Around} {params : Arguments} {body : List Stmt} (T : XiC prog K C fI qual params body scope) (X : K.In s.heap) (ha : s.heap.get? a = some (excD C t0 dx)) (hns : s.heap.Ns1 dx m0) (hw : Within m0 nl) (hz : nl.length ≤ 1000) (hno : findIn K (.ref C) name = some none)
    (h : ∀ h' tk', (∀ b o, b ≠ dx → s.heap.get? b = some o → h'.get? b = some o) → h'.Ns1 dx (fun y => if y = name then some v else m0 y) → Q () { s with heap := h', toks := tk' }) :
    wpAny (model prog w) A (setAttr (.ref a) name v) Q E s := by
  obtain ⟨nm, q, N, bs, bm, sn, sub, ab, col, dd, k0, k1, k2, k3, k5, hC, hbm, hal⟩ := T.cls
  have hcl : clsIn K C = some { name := nm, bases := bs, mro := .ref C :: bm, ns := N, qualname := q, hasDict := true, slotNames := sn, subclasses := sub, abstract := ab, collection := col, hasDel := false } := by unfold clsIn; rw [hC] <;> rfl
  obtain ⟨hh, g, d, t, os⟩ := s
  obtain ⟨oD, esD, epD, hoD, hdD, _⟩ := hns.count hw
  refine set_plain X (ox := excD C t0 dx) (od := some oD) ⟨ha, rfl, rfl, hoD⟩ T.sa ?_
  exact osa_old X ha hns hw hz hcl (show refsE (.ref C :: bm) = true from hbm) rfl hno (fun h' tk' k hn => h h' tk' k hn)

/-- the names of an __init__ -/
structure XiS (ps : List Str) (scope : Scope) : Prop where
  kind : scope.kind = .function
  co : scope.isCoroutine = false
  gen : scope.isGenerator = false
  sup : scope.names.lookup ("super" : Str) = some .globalImplicit
  cls : scope.names.lookup ("__class__" : Str) = some .free
  par : ∀ x ∈ ps, scope.names.lookup x = some .local
  nocell : ∀ x ∈ scope.names, x.2 ≠ .cell
def xiS (ps : List Str) (scope : Scope) : Bool := (match scope.kind with | .function => true | _ => false) && !scope.isCoroutine && !scope.isGenerator && decide (scope.names.lookup ("super" : Str) = some .globalImplicit) && decide (scope.names.lookup ("__class__" : Str) = some .free) &&
  (ps.all fun x => decide (scope.names.lookup x = some .local)) && scope.names.all fun x => decide (x.2 ≠ .cell)
theorem xiS_ok {ps : List Str} {scope : Scope} (h : xiS ps scope = true) : XiS ps scope := by
  unfold xiS at h
  simp only [Bool.and_eq_true, List.all_eq_true, decide_eq_true_eq, Bool.not_eq_true'] at h
  obtain ⟨⟨⟨⟨⟨⟨h1, h2⟩, h3⟩, h4⟩, h5⟩, h6⟩, h7⟩ := h
  refine ⟨?_, h2, h3, h4, h5, h6, h7⟩
  split at h1
  · assumption
  · cases h1

/-- the call of super()'s __init__ is asked so (its positions lie on one line) -/
def SupCall (fI : Addr) (qual : Str) (scope : Scope) (p0 p1 p2 p3 : Pos) (es : List Expr) : Prop := ∀ (L cda cc : Addr), ∃ pl, eval (.Call (.Attribute (.Call (.Name "super" p0) [] [] p1) "__init__" p2) es [] p3) (ksEnv qual scope L fI (.ref cda) cc) = (do
      let ov ← attributeBase (.Call (.Name "super" p0) [] [] p1) "__init__" (ksEnv qual scope L fI (.ref cda) cc) (eval (.Call (.Name "super" p0) [] [] p1) (ksEnv qual scope L fI (.ref cda) cc))
      standAt p2.atName
      let (f, first) ← holding [ov] (getMethod ov "__init__" pl)
      callWith p3 f first (backTo p3 (starEach es (ksEnv qual scope L fI (.ref cda) cc))) [])
theorem supCall {fI : Addr} {qual : Str} {scope : Scope} {p0 p1 p2 p3 : Pos} {es : List Expr} (hl : (p2.endLine == p3.line) = true) (hn : methodCallForm (es.length + 0) [] [] = true)
    (hf : ∀ env, methodCallForm (es.length + 0) (backTo p3 (starEach es env)) [] = true) : SupCall fI qual scope p0 p1 p2 p3 es := fun L cda cc => by
  refine ⟨(do return (← importBound (.Call (.Name "super" p0) [] [] p1) (ksEnv qual scope L fI (.ref cda) cc)).getD true), ?_⟩
  show (do
    let ov ← attributeBase (.Call (.Name "super" p0) [] [] p1) "__init__" (ksEnv qual scope L fI (.ref cda) cc) (eval (.Call (.Name "super" p0) [] [] p1) (ksEnv qual scope L fI (.ref cda) cc))
    standAt p2.atName
    methodCall (.Call (.Name "super" p0) [] [] p1) "__init__" p2 p3 (ksEnv qual scope L fI (.ref cda) cc) ov (es.length + 0) (backTo p3 (starEach es (ksEnv qual scope L fI (.ref cda) cc))) []) = _
  unfold methodCall
  rw [hf]
  unfold methodCallPos calleeOf
  rw [hl]
  rfl
abbrev body1 (f1 : Str) (p0 p1 p2 p3 p4 q0 q1 q2 q3 q4 : Pos) : List Stmt := [.Expr (.Call (.Attribute (.Call (.Name "super" p0) [] [] p1) "__init__" p2) [.Name f1 q0] [] p3) p4, .Assign [.Attribute (.Name "self" q1) f1 q2] (.Name f1 q3) q4]
theorem init1 {f1 : Str} {p0 p1 p2 p3 p4 q0 q1 q2 q3 q4 : Pos} {params : Arguments} {ar : PySem.Arg} {v : Value} {base : Heap} (T : XiC prog K C fI qual params (body1 f1 p0 p1 p2 p3 p4 q0 q1 q2 q3 q4) scope) (S : XiS ["self", f1] scope) (hf1 : f1 ≠ "self") (hd1 : (f1 == ("__debug__" : Str)) = false) (hno : findIn K (.ref C) f1 = some none)
    (hM : L2.Mod K mg base) (bk : ∀ b o, base.get? b = some o → s.heap.get? b = some o) (hba : base.get? a = none) (hms : mg "super" = none) (hp : (params.posonlyargs ++ params.args).head? = some ar) (har : ar.arg = ("self" : Str)) (hroom : A.depth < recursionLimit) (hsc : SupCall fI qual scope p0 p1 p2 p3 [.Name f1 q0])
    (hb : ∀ name kV doc pm an cdv ct cc, BindsTo s (ksFn name qual params (body1 f1 p0 p1 p2 p3 p4 q0 q1 q2 q3 q4) scope .none kV doc pm an cdv ct cc) ⟨[.ref a, v], []⟩ [("self", .ref a), (f1, v)]) (ha : s.heap.get? a = some (excO C t0))
    (h : ∀ h' tk' t1 dx, (∀ b o, b ≠ a → s.heap.get? b = some o → h'.get? b = some o) → (∀ b o, s.heap.get? b = some o → b ≠ dx) → dx ≠ a → h'.get? a = some (excD C t1 dx) → h'.Ns1 dx (fun y => if y = f1 then some v else none) → R (.ok (.ret .none)) { s with heap := h', toks := tk' }) :
    codeAny (model prog w) A (.call (.ref fI) ⟨[.ref a, v], []⟩) R s := by
  obtain ⟨name, kV, doc, pm, an, cda, ct, cc, oc, od, osl, ccl, cdd, vs, ccs, file, tf, cl, cld, csl, lf, hcode, lc, hvs, hfile, lcc⟩ := T.fn
  have X : K.In s.heap := hM.kin.keeps bk
  have lim : s.heap.NoLimit := hM.nolimit.keeps bk
  have hloc : ∀ y ∈ [(("self" : Str), Value.ref a), (f1, v)], scope.names.lookup y.1 = some .local := fun y hy => by
    rcases List.mem_cons.mp hy with e | hy
    · rw [e]; exact S.par _ (by simp)
    · rw [List.mem_singleton.mp hy]; exact S.par _ (by simp)
  refine ks_codeAny_call_defAt (fd := ksFn name qual params _ scope .none kV doc pm an (.ref cda) ct cc) hroom (X _ _ lf) rfl lim (codeRec_of X hcode) rfl (hb _ _ _ _ _ _ _ _) S.nocell hloc (fun h₁ hns hk₁ => ?_) S.co S.gen S.kind
  have eS : ([(("self" : Str), Value.ref a), (f1, v)].reverse.lookup ("self" : Str)) = some (.ref a) := by
    show List.lookup ("self" : Str) [(f1, v), (("self" : Str), Value.ref a)] = _
    have e : (("self" : Str) == f1) = false := by simpa using Ne.symm hf1
    simp [List.lookup, e]
  have eF : ([(("self" : Str), Value.ref a), (f1, v)].reverse.lookup f1) = some v := by
    show List.lookup f1 [(f1, v), (("self" : Str), Value.ref a)] = _
    simp [List.lookup]
  have kl : (ksEnv qual scope s.heap.objs.size fI (.ref cda) cc).kindOf f1 = some .local := S.par _ (by simp)
  have ks : (ksEnv qual scope s.heap.objs.size fI (.ref cda) cc).kindOf "self" = some .local := S.par _ (by simp)
  refine ks_wpAt_execs_cons (init_super (E := _) (us := [v]) T hM (fun b o e => hk₁ _ _ (bk b o e)) hms ⟨name, .none, kV, doc, pm, an, ct, oc, od, osl, lf⟩ ⟨ccl, cdd, vs, ccs, file, tf, lc, hvs, hfile⟩ ⟨cl, cld, csl, lcc⟩ hp har hns eS (hk₁ _ _ ha) S.kind S.sup S.cls (S.par _ (by simp))
    (fun s' Q' hn hq => ?_) (by show 1 ≤ sizeLine; decide) rfl rfl ?hevv (fun h2 tk2 t1 hn2 k2 e2 => ?_))
  case hevv => exact hsc _ _ _
  · show wpAny _ _ (spliced ((false, eval (.Name f1 q0) _) :: [])) _ _ _
    exact Calls.spliced_cons (ESX.ldL hn eF (Calls.spliced_nil hq) S.kind kl hd1)
  refine wpAt_of_wpAny (wpAny_execs_cons (plainObj_wpAny_Assign_Attribute (ESX.ldL hn2 eF (ESX.ldL hn2 eS ?_ S.kind ks (by decide)) S.kind kl hd1)))
  have bk2 : ∀ b o, base.get? b = some o → h2.get? b = some o := fun b o e => k2 b o (fun z => by rw [z, hba] at e; cases e) (hk₁ _ _ (bk b o e))
  have X2 : K.In h2 := hM.kin.keeps bk2
  refine set_first T X2 e2 hno fun h3 tk3 dx k3 nd dne e3 n3 => ?_
  refine wpAny_execs_nil (h h3 tk3 t1 dx (fun b o hb e => k3 b o hb (k2 b o hb (hk₁ b o e))) (fun b o e => ?_) dne e3 n3)
  by_cases hb : b = a
  · rw [hb]; exact Ne.symm dne
  · exact nd b o (k2 b o hb (hk₁ b o e))

abbrev body2 (f1 f2 : Str) (p0 p1 p2 p3 p4 q0 q1 q2 q3 q4 r0 r1 r2 r3 r4 : Pos) : List Stmt := [.Expr (.Call (.Attribute (.Call (.Name "super" p0) [] [] p1) "__init__" p2) [.Name f1 q0, .Name f2 r0] [] p3) p4, .Assign [.Attribute (.Name "self" q1) f1 q2] (.Name f1 q3) q4, .Assign [.Attribute (.Name "self" r1) f2 r2] (.Name f2 r3) r4]
theorem init2 {f1 f2 : Str} {p0 p1 p2 p3 p4 q0 q1 q2 q3 q4 r0 r1 r2 r3 r4 : Pos} {params : Arguments} {ar : PySem.Arg} {v u : Value} {base : Heap} (T : XiC prog K C fI qual params (body2 f1 f2 p0 p1 p2 p3 p4 q0 q1 q2 q3 q4 r0 r1 r2 r3 r4) scope) (S : XiS ["self", f1, f2] scope)
    (hf1 : f1 ≠ "self") (hf2 : f2 ≠ "self") (hf12 : f1 ≠ f2) (hd1 : (f1 == ("__debug__" : Str)) = false) (hd2 : (f2 == ("__debug__" : Str)) = false) (hno : findIn K (.ref C) f1 = some none) (hno2 : findIn K (.ref C) f2 = some none)
    (hM : L2.Mod K mg base) (bk : ∀ b o, base.get? b = some o → s.heap.get? b = some o) (hba : base.get? a = none) (hms : mg "super" = none) (hp : (params.posonlyargs ++ params.args).head? = some ar) (har : ar.arg = ("self" : Str)) (hroom : A.depth < recursionLimit) (hsc : SupCall fI qual scope p0 p1 p2 p3 [.Name f1 q0, .Name f2 r0])
    (hb : ∀ name kV doc pm an cdv ct cc, BindsTo s (ksFn name qual params (body2 f1 f2 p0 p1 p2 p3 p4 q0 q1 q2 q3 q4 r0 r1 r2 r3 r4) scope .none kV doc pm an cdv ct cc) ⟨[.ref a, v, u], []⟩ [("self", .ref a), (f1, v), (f2, u)]) (ha : s.heap.get? a = some (excO C t0))
    (h : ∀ h' tk' t1 dx, (∀ b o, b ≠ a → s.heap.get? b = some o → h'.get? b = some o) → (∀ b o, s.heap.get? b = some o → b ≠ dx) → dx ≠ a → h'.get? a = some (excD C t1 dx) → h'.Ns1 dx (fun y => if y = f2 then some u else if y = f1 then some v else none) → R (.ok (.ret .none)) { s with heap := h', toks := tk' }) :
    codeAny (model prog w) A (.call (.ref fI) ⟨[.ref a, v, u], []⟩) R s := by
  obtain ⟨name, kV, doc, pm, an, cda, ct, cc, oc, od, osl, ccl, cdd, vs, ccs, file, tf, cl, cld, csl, lf, hcode, lc, hvs, hfile, lcc⟩ := T.fn
  have X : K.In s.heap := hM.kin.keeps bk
  have lim : s.heap.NoLimit := hM.nolimit.keeps bk
  have hloc : ∀ y ∈ [(("self" : Str), Value.ref a), (f1, v), (f2, u)], scope.names.lookup y.1 = some .local := fun y hy => by
    rcases List.mem_cons.mp hy with e | hy
    · rw [e]; exact S.par _ (by simp)
    · rcases List.mem_cons.mp hy with e | hy
      · rw [e]; exact S.par _ (by simp)
      · rw [List.mem_singleton.mp hy]; exact S.par _ (by simp)
  refine ks_codeAny_call_defAt (fd := ksFn name qual params _ scope .none kV doc pm an (.ref cda) ct cc) hroom (X _ _ lf) rfl lim (codeRec_of X hcode) rfl (hb _ _ _ _ _ _ _ _) S.nocell hloc (fun h₁ hns hk₁ => ?_) S.co S.gen S.kind
  have n1 : (("self" : Str) == f1) = false := by simpa using Ne.symm hf1
  have n2 : (("self" : Str) == f2) = false := by simpa using Ne.symm hf2
  have n3 : (f1 == f2) = false := by simpa using hf12
  have eS : ([(("self" : Str), Value.ref a), (f1, v), (f2, u)].reverse.lookup ("self" : Str)) = some (.ref a) := by
    show List.lookup ("self" : Str) [(f2, u), (f1, v), (("self" : Str), Value.ref a)] = _
    simp [List.lookup, n1, n2]
  have eF : ([(("self" : Str), Value.ref a), (f1, v), (f2, u)].reverse.lookup f1) = some v := by
    show List.lookup f1 [(f2, u), (f1, v), (("self" : Str), Value.ref a)] = _
    simp [List.lookup, n3]
  have eG : ([(("self" : Str), Value.ref a), (f1, v), (f2, u)].reverse.lookup f2) = some u := by
    show List.lookup f2 [(f2, u), (f1, v), (("self" : Str), Value.ref a)] = _
    simp [List.lookup]
  have kl : (ksEnv qual scope s.heap.objs.size fI (.ref cda) cc).kindOf f1 = some .local := S.par _ (by simp)
  have kl2 : (ksEnv qual scope s.heap.objs.size fI (.ref cda) cc).kindOf f2 = some .local := S.par _ (by simp)
  have ks : (ksEnv qual scope s.heap.objs.size fI (.ref cda) cc).kindOf "self" = some .local := S.par _ (by simp)
  refine ks_wpAt_execs_cons (init_super (E := _) (us := [v, u]) T hM (fun b o e => hk₁ _ _ (bk b o e)) hms ⟨name, .none, kV, doc, pm, an, ct, oc, od, osl, lf⟩ ⟨ccl, cdd, vs, ccs, file, tf, lc, hvs, hfile⟩ ⟨cl, cld, csl, lcc⟩ hp har hns eS (hk₁ _ _ ha) S.kind S.sup S.cls (S.par _ (by simp))
    (fun s' Q' hn hq => ?_) (by show 2 ≤ sizeLine; decide) rfl rfl ?hevv (fun h2 tk2 t1 hn2 k2 e2 => ?_))
  case hevv => exact hsc _ _ _
  · show wpAny _ _ (spliced ((false, eval (.Name f1 q0) _) :: (false, eval (.Name f2 r0) _) :: [])) _ _ _
    exact Calls.spliced_cons (ESX.ldL hn eF (Calls.spliced_cons (ESX.ldL hn eG (Calls.spliced_nil hq) S.kind kl2 hd2)) S.kind kl hd1)
  refine wpAt_of_wpAny (wpAny_execs_cons (plainObj_wpAny_Assign_Attribute (ESX.ldL hn2 eF (ESX.ldL hn2 eS ?_ S.kind ks (by decide)) S.kind kl hd1)))
  have bk2 : ∀ b o, base.get? b = some o → h2.get? b = some o := fun b o e => k2 b o (fun z => by rw [z, hba] at e; cases e) (hk₁ _ _ (bk b o e))
  have X2 : K.In h2 := hM.kin.keeps bk2
  refine set_first T X2 e2 hno fun h3 tk3 dx k3 nd dne e3 n3' => ?_
  have bk3 : ∀ b o, base.get? b = some o → h3.get? b = some o := fun b o e => k3 b o (fun z => by rw [z, hba] at e; cases e) (bk2 _ _ e)
  have hLa : s.heap.objs.size ≠ a := Nat.ne_of_gt (Heap.lt_size ha)
  have hn3 : h3.Ns s.heap.objs.size (fun x => [(("self" : Str), Value.ref a), (f1, v), (f2, u)].reverse.lookup x) := by
    obtain ⟨oL, esL, ep, eL, r⟩ := hn2
    exact ⟨oL, esL, ep, k3 _ _ hLa eL, r⟩
  refine wpAny_execs_cons (plainObj_wpAny_Assign_Attribute (ESX.ldL hn3 eG (ESX.ldL hn3 eS ?_ S.kind ks (by decide)) S.kind kl2 hd2))
  have hw : Within (fun y => if y = f1 then some v else none) [f1] := fun y hy => by
    by_cases z : y = f1
    · rw [z]; exact List.mem_singleton.mpr rfl
    · exact absurd (if_neg z) hy
  refine set_next T (hM.kin.keeps bk3) e3 n3' hw (by show 1 ≤ 1000; decide) hno2 fun h4 tk4 k4 n4 => ?_
  have new : ∀ b o, s.heap.get? b = some o → b ≠ dx := fun b o e => by
    by_cases hb : b = a
    · rw [hb]; exact Ne.symm dne
    · exact nd b o (k2 b o hb (hk₁ b o e))
  refine wpAny_execs_nil (h h4 tk4 t1 dx (fun b o hb e => k4 b o (new b o e) (k3 b o hb (k2 b o hb (hk₁ b o e)))) new dne (k4 _ _ (Ne.symm dne) e3) n4)
end
end MX
namespace MX
open PySem PySem.Spec PyProof.Rows PySem.HandSPX L2
theorem objOk_there {P : Program} {w : World} {H : Hp} {h : Heap} {a : Addr} {o : HO} (x : ObjOk P w H h a o) : ∃ ob, h.get? a = some ob := by
  cases o with
  | lst xs => obtain ⟨_, _, _, _, e⟩ := x; exact ⟨_, e⟩
  | tup xs => obtain ⟨_, _, _, ob, e, _⟩ := x; exact ⟨_, e⟩
  | dK kvs => obtain ⟨_, _, _, _, o, _, _, e, _⟩ := x; exact ⟨_, e⟩
  | dT kvs => obtain ⟨_, _, _, _, o, _, _, e, _⟩ := x; exact ⟨_, e⟩
  | set S n => obtain ⟨o, _, _, _, e, _⟩ := x; exact ⟨_, e⟩
  | ins C dx fs => obtain ⟨_, _, _, e, _⟩ := x; exact ⟨_, e⟩
  | own y => obtain ⟨_, e⟩ := x; exact ⟨_, e⟩
  | xd fs => obtain ⟨_, ⟨_, _, _, e, _⟩, _⟩ := x; exact ⟨_, e⟩
  | rng lo hi => obtain ⟨_, _, _, e⟩ := x; exact ⟨_, e⟩
  | frz ob u => obtain ⟨e, _⟩ := x; exact ⟨_, e⟩
  | tbl ps => exact ⟨_, (show h.get? a = some _ from x)⟩
  | met f y => exact ⟨_, (show h.get? a = some _ from x)⟩
  | ext φ => obtain ⟨_, ⟨_, e⟩, _⟩ := x; exact ⟨_, e⟩
/-- the runs of an __init__ end so -/
def InitRun (prog : Program) (w : World) (K : PySem.W.Frag) (mg : Str → Option Value) (C fI : Addr) (n : Nat) (ms : List Value → Str → Option Value) : Prop :=
  ∀ (A : Around) (s : Shared) (a t0 : Addr) (us : List Value) (base : Heap) (R : Result → Shared → Prop), L2.Mod K mg base → (∀ b o, base.get? b = some o → s.heap.get? b = some o) → base.get? a = none → A.depth < recursionLimit → us.length = n → s.heap.get? a = some (excO C t0) →
    (∀ h' tk' t1 dx, (∀ b o, b ≠ a → s.heap.get? b = some o → h'.get? b = some o) → (∀ b o, s.heap.get? b = some o → b ≠ dx) → dx ≠ a → h'.get? a = some (excD C t1 dx) → h'.Ns1 dx (ms us) → R (.ok (.ret .none)) { s with heap := h', toks := tk' }) →
    codeAny (model prog w) A (.call (.ref fI) ⟨.ref a :: us, []⟩) R s
theorem pmk_xi {X : Cx} {x : Str} {C fI : Addr} {k n : Nat} {qual : Str} {params : Arguments} {body : List Stmt} {scope : Scope} {ms : List Value → Str → Option Value} {fs : List V → List (Str × V)} {e : Expr} {es : List Expr} {ta : TA} {p pos : Pos}
    (T : XiC X.prog X.K C fI qual params body scope) (F : InitRun X.prog X.w X.K X.mg C fI n ms) (hfs : ∀ vs us, Vals vs us → vs.length = n → ∀ f, RelO ((fs vs).lookup f) (ms us f)) (hn : n ≤ 1000) (hr : Room (k + 1) X.A) (hg : Gl X x) (hm : X.mg x = some (.ref C)) (ha : PA X (e :: es) ta)
    (hdb : (x == ("__debug__" : Str)) = false := by decide) (he : starEach (e :: es) X.env = (false, eval e X.env) :: starEach es X.env := by rfl) (hpl : (backTo pos (starEach es X.env)).any (·.1) = false := by rfl) :
    PMk X (.Call (.Name x p) (e :: es) [] pos) (fun σ H Q => ta σ H fun vs H1 => vs.length = n ∧ ∀ d, H1 d = none → Q (.ref C) (some d) (upd H1 d (.xd (fs vs)))) := by
  intro pins s σ H Q I h
  obtain ⟨nm, q, N, bs, bm, sn, sub, ab, col, dd, k0, k1, k2, k3, k5, hC, hbm, hal⟩ := T.cls
  refine wpAny_Call_Name_kw (ld_glob I hg hm ?_ hdb)
  refine PySem.W.callWith_K (h₀ := X.base) I.ok.mod.kin T.kC (thn (ha.run pos pins s σ H _ I h) fun us s1 ⟨vs, H1, I1, r1, hz, q1⟩ => ⟨I1.kIn, ?_⟩) he hpl
  show wpAny _ _ (call (.ref C) us) _ _ _
  obtain ⟨hp, g, dr, tk, os⟩ := s1
  have hl : us.length = n := by rw [← r1.length]; exact hz
  have kk : ∀ b o, hp.get? b = some o → ((hp.push (PySem.W.kdv_tup us)).push (PySem.HandSPX.excO C hp.objs.size)).get? b = some o := fun b o e => Heap.get?_push_of_some _ (Heap.get?_push_of_some _ e)
  have hget : ((hp.push (PySem.W.kdv_tup us)).push (PySem.HandSPX.excO C hp.objs.size)).get? (hp.objs.size + 1) = some (PySem.HandSPX.excO C hp.objs.size) := by heap_get
  have hus : us.length ≤ sizeLine := by
    rw [hl, sizeLine_eq]; omega
  have hne : hp.get? (hp.objs.size + 1) = none := Heap.get?_none_of_le (Nat.le_succ _)
  refine wpAny_call (PySem.HandSPX.call_own PySem.F.excBase_Exception (fun Y => refsE_contains Y bm hbm) (I1.kIn _ _ hC) (PySem.W.looks_findIn I1.kIn T.iC) (fun self => PySem.W.bind_fn I1.kIn self T.tI) hus
    (F _ ⟨(hp.push (PySem.W.kdv_tup us)).push (PySem.HandSPX.excO C hp.objs.size), g, dr, tk, os⟩ (hp.objs.size + 1) hp.objs.size us X.base _ I1.ok.mod (fun b o e => kk b o (I1.bk b o e)) (by
      cases z : X.base.get? (hp.objs.size + 1) with
      | none => rfl
      | some o =>
        have := I1.bk _ _ z
        rw [hne] at this; cases this) (hr.make C us []).depth hl hget fun h' tk' t1 dx k nd dne hx hn => ?_))
  refine ⟨rfl, ?_⟩
  obtain ⟨G, g1', g2'⟩ := restrict h' fun b => decide (b ≠ hp.objs.size + 1)
  have gk : ∀ b, b ≠ hp.objs.size + 1 → G.get? b = h'.get? b := fun b hb => g1' b (decide_eq_true hb)
  have ge : G.get? (hp.objs.size + 1) = none := g2' _ (by simp)
  have na : ∀ {b : Addr} {o : Obj}, hp.get? b = some o → b ≠ hp.objs.size + 1 := fun {b o} z y => by rw [y, hne] at z; cases z
  have kG : ∀ b o, hp.get? b = some o → G.get? b = some o := fun b o e => by
    rw [gk b (na e)]
    exact k b o (na e) (kk b o e)
  have hnd : ∀ {b : Addr} {o : Obj}, hp.get? b = some o → b ≠ dx := fun {b o} e => nd b o (kk b o e)
  have hd : H1 dx = none := by
    cases z : H1 dx with
    | none => rfl
    | some o =>
      obtain ⟨o2, z2⟩ := objOk_there (I1.hok _ _ z)
      exact absurd rfl (hnd z2)
  have hns : G.Ns1 dx (ms us) := hn.at fun o y => (gk dx dne).trans y
  have U : Un (frs X.stack) [] H1 (upd H1 dx (.xd (fs vs))) hp G := {
    keep := fun b o z n hf hx => kG b o z
    slot := fun b o z n hf hx => ⟨o.slots, kG b o z⟩
    free := fun b o z n hx => by rw [upd_ne (hnd z)]; exact n
    there := fun b o z hx => ⟨o, kG b o z⟩
    tups := fun b xs z => by rw [upd_ne (ne_of_none z hd)]; exact z
    frzs := fun b o v z => by rw [upd_ne (ne_of_none z hd)]; exact z
    tbls := fun b ps z => ⟨#[], by rw [upd_ne (ne_of_none z hd), z]; simp⟩ }
  have hok3 : HOk X.prog X.w (upd H1 dx (.xd (fs vs))) G := fun b o z => by
    by_cases hbd : b = dx
    · subst hbd
      rw [upd_same] at z
      cases z
      exact ⟨_, hns, hfs vs us r1 hz⟩
    · rw [upd_ne hbd] at z
      exact (I1.hok b o z).stay (fun c v _ y => kG c v y) (fun c hc => by rw [upd_ne (ne_of_none hc hd)]; exact hc) (fun c xs hc => by rw [upd_ne (ne_of_none hc hd)]; exact hc)
  have J : Inv X pins σ (upd H1 dx (.xd (fs vs))) ⟨G, g, dr, tk', os⟩ := I1.call' (ch := []) rfl U hok3 I1.bare (fun b z => absurd z (by simp))
  refine ⟨hp.objs.size + 1, _, _, ⟨G, g, dr, tk', os⟩, _, .ref C, some dx, rfl, J, fun b o z => ?_, ge, hx, ⟨rfl, rfl⟩, rfl, rfl, ?_, rfl, I1.bare, raises_own T.exC T.tyC, q1 dx hd⟩
  · by_cases hba : b = hp.objs.size + 1
    · rw [hba, ge] at z
      cases z
    · exact (gk b hba).symm.trans z
  · rw [upd_ne (Ne.symm dne)]
    exact I1.hok.fresh (Nat.le_succ _)
end MX
end
section
set_option Elab.async false
set_option linter.all false
set_option maxRecDepth 100000
set_option maxHeartbeats 4000000
/-! M14: raise, try. -/
namespace L2
open PySem PySem.Spec PyProof.Rows
/-- what the clauses 'except x as n' wish of an exception of the body, one after the other -/
def wManyAs (K : PySem.W.Frag) (i : Nat) (Wout : WX) (D : Ends) : List (Value × (Addr → Value → Option Addr → TS)) → WX
  | [] => Wout
  | (c, ts) :: r => fun cls d σ H => ∃ b, PySem.W.exmOne K cls c = some b ∧ (b = true → ∀ a, H a = none → ts a cls d { nx := fun σ' H' => D.nx (σ'.set i none) H', rt := D.rt, bk := fun σ' H' => D.bk (σ'.set i none) H', ct := fun σ' H' => D.ct (σ'.set i none) H' } (σ.set i (some (.ref a))) H) ∧
    (b = false → wManyAs K i Wout D r cls d σ H)
inductive HdsAs (X : Cx) (n : Str) : List ExceptHandler → List (Value × (Addr → Value → Option Addr → TS)) → Prop
  | nil : HdsAs X n [] []
  | cons {x : Str} {c : Value} {ts : Addr → Value → Option Addr → TS} {b₀ : Stmt} {suite : List Stmt} {np pos' : Pos} {hds : List ExceptHandler} {l : List (Value × (Addr → Value → Option Addr → TS))} (hc : Names X x c)
      (hsu : ∀ (a : Addr) (oe : Obj) (cls : Value) (d : Option Addr) (pn : List (Addr × Obj)), Zc cls d oe → (∃ vs, oe.data = .fields vs) → PSs (X.suite a ((a, oe) :: pn)) (b₀ :: suite) (ts a cls d)) (r : HdsAs X n hds l) :
      HdsAs X n (.ExceptHandler (some (.Name x np)) (some n) (b₀ :: suite) pos' :: hds) ((c, ts) :: l)
section
variable {X : Cx} {body : List Stmt} {n : Str} {i : Nat} {h₀ : ExceptHandler} {hds : List ExceptHandler} {l : List (Value × (Addr → Value → Option Addr → TS))} {pos : Pos} {tb : WX → TS} {Wout : WX}
theorem ps_try_manyAs (hs : X.stack = X.env :: X.outer) (hf : X.env.frame = some X.env.locals) (hN : X.N.Nodup) (hi : X.N[i]? = some n) (hln : X.env.kindOf n = some .local) (tk : Takes X Wout)
    (hb : ∀ (W : WX) (pn : List (Addr × Obj)) (xe : Value → Shared → Prop), Takes (X.tr pn xe) W → PassesOwn (model X.prog X.w) X.A X.env xe → PSs (X.tr pn xe) body (tb W))
    (hh : HdsAs X n (h₀ :: hds) l) : PS X (.Try body (h₀ :: hds) [] [] pos) (fun D σ H => tb (wManyAs X.K i Wout D l) D σ H) := by
  refine ⟨fun pins s σ H D I h => ?_⟩
  have ok := I.ok
  have hfr : X.A.frames = some (X.env :: X.outer) := by rw [ok.frames, hs]
  have hloc : Loc X.env.scope n := .inl hln
  refine wpAny_Try_except ?_
  refine wpAny_mono ((hb (wManyAs X.K i Wout D l) (X.pn ++ pins) (fun e s₁ => wpAny (model X.prog X.w) X.A (noteFrame e X.env) (fun _ s₂ => wpAny (model X.prog X.w) X.A (setFlight e none) (fun _ s₃ =>
    wpAny (model X.prog X.w) X.A (handleBy e X.env (h₀ :: hds)) (SP X pins D) X.xe s₃) X.xe s₂) X.xe s₁) (fun u s' xx => ?_) PassesOwn.looking).run [] s σ H D (I.toTry _) h) (fun f s1 hsp => ?_) (fun e s1 he => he)
  · -- the catch
    obtain ⟨a, B, sI, pins', σ', H', cls, d, rfl, J', nb, up, sky, na, os, ag, w⟩ := xx
    have J : Inv X pins σ' H' sI := J'.ofTry ok
    have sky' : Sky B (X.env :: X.outer) a (Zc cls d) X.env.locals s'.heap := by rw [← hs]; exact sky
    show wpAny (model X.prog X.w) X.A (noteFrame (.ref a) X.env) _ _ _
    refine Sky.land Zc.steady hfr hf sky' fun h3 fl3 up3 => ?_
    have J3 : Inv X pins σ' H' { s' with heap := h3 } := J.landed nb fl3.1 (up.trans up3) os ag
    obtain ⟨oe3, vs3, he3, hz3, hd3⟩ := fl3.there
    have notFr : ∀ {h : Heap} {o : Obj} {vs : Array Value}, h.FunFrames B (X.env :: X.outer) → h.get? a = some o → o.data = .fields vs → a ∉ frs (X.env :: X.outer) := fun {h o vs} ff e dd hm => by
      obtain ⟨_, o', e', hnf⟩ := ff.mem hm
      rw [e] at e'; cases e'
      exact hnf _ dd
    have nfr := notFr fl3.2.2.1 he3 hd3
    have nL : a ≠ X.env.locals := fun z => nfr (List.mem_filterMap.mpr ⟨X.env, List.mem_cons_self, by rw [hf, z]⟩)
    have nF : a ∉ X.fs := fun hm => by
      obtain ⟨e, he, q⟩ := List.mem_filterMap.mp hm
      exact nfr (List.mem_filterMap.mpr ⟨e, List.mem_cons_of_mem _ he, q⟩)
    have S3 := J3.suite he3 hd3 na nL nF
    have go : ∀ {hds' : List ExceptHandler} {l' : List (Value × (Addr → Value → Option Addr → TS))}, HdsAs X n hds' l' → wManyAs X.K i Wout D l' cls d σ' H' →
        wpAny (model X.prog X.w) X.A (handleBy (.ref a) X.env hds') (SP X pins D) X.xe { s' with heap := h3 } := by
      intro hds' l' hk
      induction hk with
      | nil =>
        intro w
        refine wpAny_handleBy_nil ?_
        obtain ⟨k1, k2, k3, oe, vs, T, oT, ts', he, hz, hd, h1, hr⟩ := id fl3
        unfold PySem.passOn
        refine wpAny_bind (wpAny_field he hd h1 ?_)
        rw [if_neg (show ¬ ((Value.ref T == Value.none) = true) from by simp)]
        have fin : wpAny (model X.prog X.w) X.A (setFlight (.ref a) X.env.frame) (fun _ s4 => wpAny (model X.prog X.w) X.A (throw (.ref a) : Sem Flow) (SP X pins D) X.xe s4) X.xe { s' with heap := h3 } := by
          rw [hf]
          refine HandSPX.setFlight_upZ fl3 fun h4 hh4 up4 => wpAny_throw (tk _ _ ?_)
          exact ⟨a, B, sI, pins, σ', H', cls, d, rfl, J, nb, (up.trans up3).trans up4, .inr (.inr (by rw [hs]; exact hh4)), na, os, ag, w⟩
        first
          | exact wpAny_bind (wpAny_pure (wpAny_bind fin))
          | exact wpAny_bind fin
      | @cons x c ts b₀ suite np pos' hds2 l2 hc hsu r ih =>
        intro w
        obtain ⟨b, hb1, hyes, hno⟩ := w
        refine wpAny_handleBy_cons (codeAny_handlers_test ?_) (by intro q; cases q)
        have LT : PySem.W.Looks (model X.prog X.w) h3 (typeOf (.ref a)) cls := fun A Q E s k q => wpAny_typeOf_ref (k _ _ he3) (by rw [hz3.1]; exact q)
        have LM := PySem.W.exm_one (M := model X.prog X.w) (J3.kIn) LT hb1
        have test : ∀ {Q : Value → Shared → Prop} {E : Value → Shared → Prop}, Q c { s' with heap := h3 } → wpAny (model X.prog X.w) (X.A.mark (some (.ref a))) (eval (.Name x np) X.env) Q E { s' with heap := h3 } := fun {Q E} q => by
          obtain ⟨hg, hdbg, hm | ⟨hm, hv, hnn⟩⟩ := hc
          · exact ld_glob (X := X.suite a ((a, oe3) :: (X.pn ++ pins))) S3 hg hm q hdbg
          · exact ld_blt (X := X.suite a ((a, oe3) :: (X.pn ++ pins))) S3 hg hm hv q hnn hdbg
        refine test (LM.here ?_)
        cases b with
        | true =>
          refine codeAny_handlers_suite_as ?_
          refine HandSPX.lands_againZ fl3 fun h4 fl4 up4 => ?_
          have J4 : Inv X pins σ' H' { s' with heap := h4 } := J.landed nb fl4.1 ((up.trans up3).trans up4) os ag
          obtain ⟨oe4, vs4, he4, hz4, hd4⟩ := fl4.there
          have S4 := J4.suite he4 hd4 na nL nF
          refine store_ok (X := X.suite a ((a, oe4) :: (X.pn ++ pins))) (v := .ref a) S4 hN hi hloc rfl (fun s5 S5 => ?_) (.inr hln)
          refine wpAny_mono ((hsu a oe4 cls d (X.pn ++ pins) hz4 ⟨_, hd4⟩).run [] s5 _ H' _ S5 (hyes rfl a na)) (fun f s6 hsp => ?_) (fun _ _ z => False.elim z)
          have end_ : ∀ {σ6 : St} {H6 : Hp} {Q : Shared → Prop}, Inv (X.suite a ((a, oe4) :: (X.pn ++ pins))) [] σ6 H6 s6 → (∀ s7, Inv X pins (σ6.set i none) H6 s7 → Q s7) →
              wpAny (model X.prog X.w) X.A (do bindName X.env n .none; unbindBehindTheSuite X.env n pos') (fun _ s7 => Q s7) X.xe s6 := fun {σ6 H6 Q} S6 hq => gone_ok (S6.unsuite ok) hN hi hln hq
          cases f with
          | next =>
            obtain ⟨σ6, H6, S6, q6⟩ := hsp
            exact end_ S6 fun s7 J7 => ⟨_, _, J7, q6⟩
          | brk =>
            obtain ⟨σ6, H6, S6, q6⟩ := hsp
            exact end_ S6 fun s7 J7 => ⟨_, _, J7, q6⟩
          | cont =>
            obtain ⟨σ6, H6, S6, q6⟩ := hsp
            exact end_ S6 fun s7 J7 => ⟨_, _, J7, q6⟩
          | ret u =>
            obtain ⟨v6, σ6, H6, S6, r6, q6⟩ := hsp
            exact end_ S6 fun s7 J7 => ⟨_, _, _, J7, r6, q6⟩
        | false =>
          show wpAny _ X.A (handleBy (.ref a) X.env hds2) _ _ _
          exact ih (hno rfl)
    exact go hh w
  · cases f with
    | next =>
      obtain ⟨σ', H', J', q⟩ := hsp
      exact wpAny_execs_nil ⟨σ', H', J'.ofTry ok, q⟩
    | brk =>
      obtain ⟨σ', H', J', q⟩ := hsp
      exact ⟨σ', H', J'.ofTry ok, q⟩
    | cont =>
      obtain ⟨σ', H', J', q⟩ := hsp
      exact ⟨σ', H', J'.ofTry ok, q⟩
    | ret u =>
      obtain ⟨v, σ', H', J', r, q⟩ := hsp
      exact ⟨v, σ', H', J'.ofTry ok, r, q⟩
end
end L2
namespace MP
open PySem PySem.Spec PyProof.Rows L2

/-! ### raise -/
def sRaise (cls : Str) (fs : List Str) (fa : MA) : MS := fun ρ h => (fa ρ h).toS ρ fun ds h1 => if ds.length = fs.length then .err ⟨cls, fs.zip ds⟩ ρ h1 else .stuck
/-- an exception's class can be made: its fields' names -/
def MakesX (X : Cx) (x : Str) (C : Addr) (fs : List Str) (e : Expr) (es : List Expr) (p pos : Pos) : Prop := ∀ (ta : TA), PA X (e :: es) ta →
  PMk X (.Call (.Name x p) (e :: es) [] pos) (fun σ H Q => ta σ H fun vs H1 => vs.length = fs.length ∧ ∀ d, H1 d = none → Q (.ref C) (some d) (upd H1 d (.xd (fs.zip vs))))
section
variable {X : Cx} {Γ : G} {W : WX}
theorem zip_fst {α β : Type} : ∀ {l : List α} {m : List β}, m.length = l.length → (l.zip m).map (·.1) = l
  | [], [], _ => rfl
  | _ :: _, [], h => by cases h
  | [], _ :: _, h => by cases h
  | a :: l, b :: m, h => by rw [List.zip_cons_cons, List.map_cons, zip_fst (Nat.succ.inj h)]
theorem zip_snd {α β : Type} : ∀ {l : List α} {m : List β}, m.length = l.length → (l.zip m).map (·.2) = m
  | [], [], _ => rfl
  | _ :: _, [], h => by cases h
  | [], _ :: _, h => by cases h
  | a :: l, b :: m, h => by rw [List.zip_cons_cons, List.map_cons, zip_snd (Nat.succ.inj h)]
theorem fs_raise {x : Str} {C : Addr} {fs : List Str} {e : Expr} {es : List Expr} {fa : MA} {p pos pos' : Pos} (hX : CxG X Γ) (hc : X.calm = true) (tk : Takes X W) (hm : X.mg x = some (.ref C)) (mk : MakesX X x C fs e es p pos) (ha : FA X Γ W (e :: es) fa) :
    FS X Γ W (.Raise (some (.Call (.Name x p) (e :: es) [] pos)) none pos') (sRaise x fs fa) := by
  refine ⟨(ps_raise hc tk (mk _ ha.ok)).imp fun N σ H q => ?_⟩
  obtain ⟨ρ, h, μ, he, hr, q⟩ := q
  refine ⟨ρ, h, μ, he, hr, GoodS.bind he q fun ds h1 vs H1 μ1 z1 e1 r1 d1 q1 => ?_⟩
  split at q1
  · rename_i hl
    have hl2 : vs.length = fs.length := d1.length.trans hl
    refine ⟨hl2, fun d hd => q1 (.ref C) (some d) σ _ μ1 (Ext.laid hd) ((he.mono e1).mono (Ext.laid hd)) (r1.laid hd) ⟨C, d, vs, rfl, rfl, by rw [← hX.m]; exact hm, ?_, ?_⟩⟩
    · show upd H1 d _ d = some (HO.xd (((fs.zip ds).map (·.1)).zip vs))
      rw [zip_fst hl, upd_same]
    · show Dens Γ μ1 _ vs ((fs.zip ds).map (·.2))
      rw [zip_snd hl]
      exact d1.mono (Ext.laid hd)
  · exact False.elim q1
end

/-! ### try -/
/-- a clause 'except x as n', its table (which exceptions it takes), its suite -/
structure Cls where
  tab : Str → Option Bool
  go : Ex → MS
def unsetS (i : Nat) : RS → RS
  | .nx ρ h => .nx (ρ.set i none) h
  | .bk ρ h => .bk (ρ.set i none) h
  | .ct ρ h => .ct (ρ.set i none) h
  | .err _ _ _ => .stuck
  | r => r
def pickS (i : Nat) (e : Ex) (ρ : Rho) (h : List MO) : List Cls → RS
  | [] => .err e ρ h
  | c :: r => match c.tab e.cls with
  | some true => if i < ρ.length then unsetS i (c.go e (ρ.set i none) h) else .stuck
    | some false => pickS i e ρ h r
    | none => .stuck
def sTry (i : Nat) (b : MS) (cs : List Cls) : MS := fun ρ h => match b ρ h with
  | .err e ρ1 h1 => pickS i e ρ1 h1 cs
  | r => r
section
variable {X : Cx} {Γ : G} {W : WX}
/-- one clause -/
structure FC (X : Cx) (Γ : G) (i : Nat) (n : Str) (hd : ExceptHandler) (c : Cls) : Prop where
  ok : ∃ (x : Str) (np pos' : Pos) (b₀ : Stmt) (suite : List Stmt) (cv : Value) (ts : Addr → Value → Option Addr → TS), hd = .ExceptHandler (some (.Name x np)) (some n) (b₀ :: suite) pos' ∧ Names X x cv ∧
    (∀ (a : Addr) (oe : Obj) (cls : Value) (d : Option Addr) (pn : List (Addr × Obj)), Zc cls d oe → (∃ vs, oe.data = .fields vs) → PSs (X.suite a ((a, oe) :: pn)) (b₀ :: suite) (ts a cls d)) ∧
    (∀ (y : Str) (b : Bool) (C : Addr), c.tab y = some b → Γ.mg y = some (.ref C) → PySem.W.exmOne X.K (.ref C) cv = some b) ∧
    (∀ (e : Ex) (a : Addr) (cls : Value) (d : Option Addr) (σ : L2.St) (ρ : Rho) (H : Hp) (μ : List Addr) (h : List MO) (N : Ends), c.tab e.cls = some true → EnvOk Γ μ H σ ρ → σ[i]? = some (some (.ref a)) → Rel Γ H μ h → ExOk Γ H μ cls d e → GoodS Γ W0 H μ N (c.go e ρ h) → ts a cls d N σ H)
inductive FCs (X : Cx) (Γ : G) (i : Nat) (n : Str) : List ExceptHandler → List Cls → Prop
  | nil : FCs X Γ i n [] []
  | cons {hd : ExceptHandler} {c : Cls} {hds : List ExceptHandler} {cs : List Cls} : FC X Γ i n hd c → FCs X Γ i n hds cs → FCs X Γ i n (hd :: hds) (c :: cs)
theorem good_unset {N : Ends} {H : Hp} {μ : List Addr} {i : Nat} : ∀ {r : RS}, GoodS Γ W H μ N (unsetS i r) → GoodS Γ W0 H μ { nx := fun σ' H' => N.nx (σ'.set i none) H', rt := N.rt, bk := fun σ' H' => N.bk (σ'.set i none) H', ct := fun σ' H' => N.ct (σ'.set i none) H' } r
  | .nx ρ h, g => fun σ' H' μ' e he r => g _ H' μ' e (he.wipe i) r
  | .rt d h, g => g
  | .bk ρ h, g => fun σ' H' μ' e he r => g _ H' μ' e (he.wipe i) r
  | .ct ρ h, g => fun σ' H' μ' e he r => g _ H' μ' e (he.wipe i) r
  | .err _ _ _, g => False.elim g
  | .stuck, g => g
theorem fcs_run {i : Nat} {n : Str} {hds : List ExceptHandler} {cs : List Cls} (hi : X.N[i]? = some n) (h : FCs X Γ i n hds cs) : ∃ l, HdsAs X n hds l ∧ ∀ (N : Ends) (e : Ex) (cls : Value) (d : Option Addr) (σ : L2.St) (ρ : Rho) (H : Hp) (μ : List Addr) (hh : List MO), EnvOk Γ μ H σ ρ → Rel Γ H μ hh → ExOk Γ H μ cls d e →
    GoodS Γ W H μ N (pickS i e ρ hh cs) → wManyAs X.K i W N l cls d σ H := by
  induction h with
  | nil => exact ⟨[], .nil, fun N e cls d σ ρ H μ hh he r x g => g cls d σ H μ (Ext.refl _ _) he r x⟩
  | cons hc _ ih =>
    obtain ⟨l, hl, ih⟩ := ih
    obtain ⟨x, np, pos', b₀, suite, cv, ts, rfl, hn, hps, ht, hg⟩ := hc.ok
    refine ⟨(cv, ts) :: l, .cons hn hps hl, fun N e cls d σ ρ H μ hh he r x g => ?_⟩
    unfold pickS at g
    split at g
    · rename_i et
      obtain ⟨C, dx, vs, rfl, rfl, em, e4, e5⟩ := id x
      refine ⟨true, ht _ _ _ et em, fun _ a ha => ?_, fun z => by cases z⟩
      split at g
      case isFalse => exact False.elim g
      rename_i hlt
      rw [← he.len] at hlt
      exact hg e a _ _ _ _ H μ hh _ et (he.wipe i) (by rw [List.getElem?_set_self hlt]) r x (good_unset g)
    · rename_i et
      obtain ⟨C, dx, vs, rfl, rfl, em, e4, e5⟩ := id x
      exact ⟨false, ht _ _ _ et em, fun z => (by cases z), fun _ => ih N e _ _ σ ρ H μ hh he r x g⟩
    · exact False.elim g
theorem fs_try {i : Nat} {n : Str} {body : List Stmt} {fb : MS} {h₀ : ExceptHandler} {hds : List ExceptHandler} {cs : List Cls} {pos : Pos} (hs : X.stack = X.env :: X.outer) (hf : X.env.frame = some X.env.locals) (hN : X.N.Nodup) (hi : X.N[i]? = some n) (hln : X.env.kindOf n = some .local) (tk : Takes X W)
    (hb : ∀ (W' : WX) (pn : List (Addr × Obj)) (xe : Value → Shared → Prop), Takes (X.tr pn xe) W' → PassesOwn (model X.prog X.w) X.A X.env xe → FSs (X.tr pn xe) Γ W' body fb)
    (hh : FCs X Γ i n (h₀ :: hds) cs) : FS X Γ W (.Try body (h₀ :: hds) [] [] pos) (sTry i fb cs) := by
  obtain ⟨l, hl, run⟩ := fcs_run (W := W) hi hh
  refine ⟨(ps_try_manyAs hs hf hN hi hln tk (fun W' pn xe t p => (hb W' pn xe t p).ok) hl).imp fun N σ H q => ?_⟩
  obtain ⟨ρ, h, μ, he, hr, q⟩ := q
  refine ⟨ρ, h, μ, he, hr, ?_⟩
  unfold sTry at q
  cases eb : fb ρ h with
  | nx ρ1 h1 => rw [eb] at q; exact q
  | rt d h1 => rw [eb] at q; exact q
  | bk ρ1 h1 => rw [eb] at q; exact q
  | ct ρ1 h1 => rw [eb] at q; exact q
  | err e ρ1 h1 =>
    rw [eb] at q
    exact fun cls d σ' H' μ' e1 he1 r1 x => run N e cls d σ' ρ1 H' μ' h1 he1 r1 x (GoodS.mono e1 q)
  | stuck => rw [eb] at q; exact q

/-! ### suites: return ('x', e.f, ..) -/
inductive XIt where
  | s (l : List Nat) | i (k : Int) | f (x : Str)
def itD (fs : List (Str × D)) : XIt → Option D
  | .s l => some (.str l)
  | .i k => some (.int k)
  | .f x => fs.lookup x
def itV (fs : List (Str × V)) : XIt → Option V
  | .s l => some (.str (S l))
  | .i k => some (.int k)
  | .f x => fs.lookup x
def itsD (fs : List (Str × D)) : List XIt → Option (List D)
  | [] => some []
  | t :: ts => match itD fs t, itsD fs ts with
    | some d, some ds => some (d :: ds)
    | _, _ => none
def itsV (fs : List (Str × V)) : List XIt → Option (List V)
  | [] => some []
  | t :: ts => match itV fs t, itsV fs ts with
    | some d, some ds => some (d :: ds)
    | _, _ => none
inductive ItsOk (X : Cx) (C : Addr) (n : Str) : List Expr → List XIt → Prop
  | nil : ItsOk X C n [] []
  | s {x : Str} {l : List Nat} {j pos es ts} : x = S l → ItsOk X C n es ts → ItsOk X C n (.Constant (.str x) j pos :: es) (.s l :: ts)
  | i {k : Int} {j pos es ts} : ItsOk X C n es ts → ItsOk X C n (.Constant (.int k) j pos :: es) (.i k :: ts)
  | f {x : Str} {np pos es ts} : PySem.W.findIn X.K (.ref C) x = some none → ItsOk X C n es ts → ItsOk X C n (.Attribute (.Name n np) x pos :: es) (.f x :: ts)
def tIts (a : Addr) (cls : Value) (d : Option Addr) (C : Addr) (i : Nat) (its : List XIt) : TA := fun σ H Q => cls = .ref C ∧ σ[i]? = some (some (.ref a)) ∧ ∃ dd fs vs, d = some dd ∧ H dd = some (.xd fs) ∧ itsV fs its = some vs ∧ Q vs H
theorem starEach_at {n f : Str} {np pos : Pos} {es : List Expr} {env : Env} : starEach (.Attribute (.Name n np) f pos :: es) env = (false, eval (.Attribute (.Name n np) f pos) env) :: starEach es env := rfl
theorem its_run {C a : Addr} {n : Str} {i : Nat} {oe : Obj} {cls : Value} {d : Option Addr} {pn : List (Addr × Obj)} (T : XfC X.K C) (hi : X.N[i]? = some n) (hv : Vis X.env.scope n) (hd : (n == ("__debug__" : Str)) = false) (hcd : (n == ("__classdict__" : Str)) = false)
    (hz : Zc cls d oe) (hf : ∃ vs, oe.data = .fields vs) (hb : ∀ x, attributeBase (.Name n default) x X.env (eval (.Name n default) X.env) = eval (.Name n default) X.env) : ∀ {es : List Expr} {its : List XIt}, ItsOk X C n es its → PA (X.suite a ((a, oe) :: pn)) es (tIts a cls d C i its) := by
  intro es its h
  induction h with
  | nil =>
    refine pa_nil.imp fun σ H Q q => ?_
    obtain ⟨_, _, dd, fs, vs, _, _, e, q⟩ := q
    cases e
    exact q
  | @s x l j pos es ts ex _ ih =>
    refine (pa_cons (pe_str (X := X.suite a ((a, oe) :: pn)) (x := x)) ih rfl).imp fun σ H Q q => ?_
    obtain ⟨ec, es, dd, fs, vs, ed, eh, e, q⟩ := q
    have e' : (match itV fs (.s l), itsV fs ts with | some d, some ds => some (d :: ds) | _, _ => none) = some vs := e
    cases e2 : itsV fs ts with
    | none => rw [e2] at e'; simp [itV] at e'
    | some us =>
      rw [e2] at e'
      simp [itV] at e'
      subst e'
      subst ex
      exact ⟨ec, es, dd, fs, us, ed, eh, e2, q⟩
  | @i k j pos es ts _ ih =>
    refine (pa_cons (pe_int (X := X.suite a ((a, oe) :: pn)) (i := k)) ih rfl).imp fun σ H Q q => ?_
    obtain ⟨ec, es, dd, fs, vs, ed, eh, e, q⟩ := q
    have e' : (match itV fs (.i k), itsV fs ts with | some d, some ds => some (d :: ds) | _, _ => none) = some vs := e
    cases e2 : itsV fs ts with
    | none => rw [e2] at e'; simp [itV] at e'
    | some us =>
      rw [e2] at e'
      simp [itV] at e'
      subst e'
      exact ⟨ec, es, dd, fs, us, ed, eh, e2, q⟩
  | @f x np pos es ts hno _ ih =>
    refine (pa_cons (pe_xf (X := X) (a := a) (oe := oe) (pn := pn) T hno hz hf (pe_var (X := X.suite a ((a, oe) :: pn)) hi hv hd hcd) rfl) ih rfl).imp fun σ H Q q => ?_
    obtain ⟨ec, es, dd, fs, vs, ed, eh, e, q⟩ := q
    have e' : (match itV fs (.f x), itsV fs ts with | some d, some ds => some (d :: ds) | _, _ => none) = some vs := e
    cases e1 : itV fs (.f x) with
    | none => rw [e1] at e'; simp at e'
    | some u =>
      cases e2 : itsV fs ts with
      | none => rw [e1, e2] at e'; simp at e'
      | some us =>
        rw [e1, e2] at e'
        simp at e'
        subst e'
        exact ⟨_, es, rfl, ec, dd, fs, u, ed, eh, e1, ec, es, dd, fs, us, ed, eh, e2, q⟩
theorem its_den {μ : List Addr} {H : Hp} {fs : List (Str × D)} : ∀ {vs : List V}, Dens Γ μ H vs (fs.map (·.2)) → ∀ {its : List XIt} {ds : List D}, itsD fs its = some ds → ∃ us, itsV ((fs.map (·.1)).zip vs) its = some us ∧ Dens Γ μ H us ds := by
  intro vs k its
  have look : ∀ (fs : List (Str × D)) (vs : List V), Dens Γ μ H vs (fs.map (·.2)) → ∀ x d, fs.lookup x = some d → ∃ v, ((fs.map (·.1)).zip vs).lookup x = some v ∧ Den Γ μ H v d := by
    intro fs
    induction fs with
    | nil => intro vs _ x d e; cases e
    | cons p fs ih =>
      intro vs k x d e
      obtain ⟨y, d0⟩ := p
      obtain ⟨v, r, rfl, k1, k2⟩ := k
      rw [List.lookup_cons] at e
      show ∃ v_1, List.lookup x ((y, v) :: (fs.map (·.1)).zip r) = some v_1 ∧ _
      rw [List.lookup_cons]
      split at e
      · cases e; exact ⟨v, rfl, k1⟩
      · exact ih r k2 x d e
  induction its with
  | nil => intro ds e; cases e; exact ⟨[], rfl, rfl⟩
  | cons t ts ih =>
    intro ds e
    have e' : (match itD fs t, itsD fs ts with | some d, some ds => some (d :: ds) | _, _ => none) = some ds := e
    cases e1 : itD fs t with
    | none => rw [e1] at e'; simp at e'
    | some d =>
      cases e2 : itsD fs ts with
      | none => rw [e1, e2] at e'; simp at e'
      | some es =>
        rw [e1, e2] at e'
        simp at e'
        subst e'
        obtain ⟨us, h1, h2⟩ := ih e2
        have : ∃ v, itV ((fs.map (·.1)).zip vs) t = some v ∧ Den Γ μ H v d := by
          cases t with
          | s l => cases e1; exact ⟨_, rfl, rfl⟩
          | i k => cases e1; exact ⟨_, rfl, rfl⟩
          | f x => exact look fs vs k x d e1
        obtain ⟨v, h3, h4⟩ := this
        refine ⟨v :: us, ?_, v, us, rfl, h4, h2⟩
        show (match itV ((fs.map (·.1)).zip vs) t, itsV ((fs.map (·.1)).zip vs) ts with | some d, some ds => some (d :: ds) | _, _ => none) = _
        rw [h3, h1]
def goRet (its : List XIt) (e : Ex) : MS := fun _ h => match itsD e.fs its with
  | some ds => if ds.length ≤ LINE then .rt (.tup ds) h else .stuck
  | none => .stuck
theorem fc_ret {x n : Str} {i : Nat} {C : Addr} {cv : Value} {tab : Str → Option Bool} {its : List XIt} {es : List Expr} {k : Nat} {np pos pos' tp : Pos} (hX : CxG X Γ) (hn : Names X x cv) (hm : X.mg x = some (.ref C)) (T : XfC X.K C) (hi : X.N[i]? = some n) (hv : Vis X.env.scope n) (hd : (n == ("__debug__" : Str)) = false) (hcd : (n == ("__classdict__" : Str)) = false)
    (hb : ∀ x, attributeBase (.Name n default) x X.env (eval (.Name n default) X.env) = eval (.Name n default) X.env) (ht : ∀ (y : Str) (b : Bool) (C : Addr), tab y = some b → X.mg y = some (.ref C) → PySem.W.exmOne X.K (.ref C) cv = some b) (h1 : ∀ y, tab y = some true → y = x) (ok : ItsOk X C n es its) :
    FC X Γ i n (.ExceptHandler (some (.Name x np)) (some n) [.Return (some (.Tuple es k tp)) pos] pos') ⟨tab, goRet its⟩ := by
  refine ⟨x, np, pos', _, [], cv, fun a cls d => fun D σ H => tTup (tIts a cls d C i its) σ H D.rt, rfl, hn, fun a oe cls d pn hz hf => pss_one (ps_ret (pe_tup (its_run T hi hv hd hcd hz hf hb ok))), fun y b C' e m => ht y b C' e (by rw [hX.m]; exact m), ?_⟩
  intro e a cls d σ ρ H μ h N et he es r xx g
  have ex := h1 _ et
  obtain ⟨C', dx, vs, rfl, rfl, em, e4, e5⟩ := xx
  have g' : GoodS Γ W0 H μ N (match itsD e.fs its with | some ds => if ds.length ≤ LINE then .rt (.tup ds) h else .stuck | none => .stuck) := g
  split at g'
  · rename_i ds eq
    split at g'
    · rename_i hl
      obtain ⟨us, f1, f2⟩ := its_den e5 eq
      have hC : C' = C := by
        have em' : Γ.mg e.cls = some (.ref C') := em
        rw [ex, ← hX.m, hm] at em'
        cases em'; rfl
      subst hC
      refine ⟨rfl, es, dx, _, us, rfl, e4, f1, by rw [line_eq, f2.length]; exact hl, fun p hp => ?_⟩
      exact g' _ _ μ (Ext.laid hp) (r.laid hp) ⟨p, us, rfl, .inl ⟨r.fresh hp, .inl upd_same⟩, f2.mono (Ext.laid hp)⟩
    · exact False.elim g'
  · exact False.elim g'
end
end MP
end
section
set_option Elab.async false
set_option linter.all false
set_option maxRecDepth 100000
set_option maxHeartbeats 2000000
/-! M15: cells put away and known again. -/
namespace MP
open PySem PySem.Spec PyProof.Rows L2

def addC (H : Hp) (cells : List Addr) (g : Addr → Obj) : Hp := fun b => if b ∈ cells then some (.frz (g b) (.own 0)) else H b
section
variable {P : Program} {w : World} {H H' H1 : Hp} {h h' B : Heap} {cells : List Addr} {g : Addr → Obj} {fs : List Addr}
theorem addC_in {b : Addr} (m : b ∈ cells) : addC H cells g b = some (.frz (g b) (.own 0)) := if_pos m
theorem addC_out {b : Addr} (m : b ∉ cells) : addC H cells g b = H b := if_neg m
theorem hideC_in {b : Addr} (m : b ∈ cells) : hideC H cells b = none := if_pos m
theorem hideC_out {b : Addr} (m : b ∉ cells) : hideC H cells b = H b := if_neg m
theorem hide_add (n : ∀ c ∈ cells, H c = none) : hideC (addC H cells g) cells = H := by
  funext b
  by_cases m : b ∈ cells
  · rw [hideC_in m, n b m]
  · rw [hideC_out m, addC_out m]
theorem HOk.addC (k : HOk P w H h) (n : ∀ c ∈ cells, H c = none) (at_ : ∀ c ∈ cells, h.get? c = some (g c)) : HOk P w (addC H cells g) h := fun b u q => by
  have out : ∀ {c u}, H c = some u → MP.addC H cells g c = some u := fun {c u} e => by
    rw [addC_out fun m => by rw [n c m] at e; cases e]; exact e
  by_cases m : b ∈ cells
  · rw [addC_in m] at q
    cases q
    exact ⟨at_ b m, _, at_ b m⟩
  · rw [addC_out m] at q
    exact (k b u q).stay (fun c v _ e => e) (fun c e => out e) fun c xs e => out e
theorem HOk.hideC (k : HOk P w H h) (f : ∀ c ∈ cells, ∀ u, H c = some u → ∃ o v, u = .frz o v) : HOk P w (hideC H cells) h := fun b u q => by
  have out : ∀ {c u}, H c = some u → (∀ o v, u ≠ .frz o v) → MP.hideC H cells c = some u := fun {c u} e t => by
    rw [hideC_out fun m => by obtain ⟨o, v, z⟩ := f c m u e; exact t o v z]; exact e
  by_cases m : b ∈ cells
  · rw [hideC_in m] at q; cases q
  · rw [hideC_out m] at q
    exact (k b u q).stay (fun c v _ e => e) (fun c e => out e fun o v z => nomatch z) fun c xs e => out e fun o v z => nomatch z
theorem Un.hide (u : Un fs [] (addC H cells g) H' h h') (k : HOk P w H' h') (n : ∀ c ∈ cells, H c = none) (at_ : ∀ c ∈ cells, h.get? c = some (g c)) (nf : ∀ c ∈ cells, c ∉ fs) : Un fs [] H (hideC H' cells) h h' := by
  have out : ∀ {c u}, H c = some u → c ∉ cells := fun {c u} e m => by rw [n c m] at e; cases e
  exact {
    keep := fun b o q nb hf hx => by
      by_cases m : b ∈ cells
      · have e := u.frzs b (g b) (.own 0) (addC_in m)
        obtain ⟨e2, _⟩ := k b _ e
        rw [at_ b m] at q; cases q
        exact e2
      · exact u.keep b o q (by rw [addC_out m]; exact nb) hf hx
    slot := fun b o q nb hf hx => by
      have m : b ∉ cells := fun m => nf b m hf
      exact u.slot b o q (by rw [addC_out m]; exact nb) hf hx
    free := fun b o q nb hx => by
      by_cases m : b ∈ cells
      · exact hideC_in m
      · rw [hideC_out m]
        exact u.free b o q (by rw [addC_out m]; exact nb) hx
    there := u.there
    tups := fun b xs e => by
      rw [hideC_out (out e)]
      exact u.tups b xs (by rw [addC_out (out e)]; exact e)
    frzs := fun b o v e => by
      rw [hideC_out (out e)]
      exact u.frzs b o v (by rw [addC_out (out e)]; exact e)
    tbls := fun b ps e => by
      rw [hideC_out (out e)]
      exact u.tbls b ps (by rw [addC_out (out e)]; exact e) }
theorem Un.add (u : Un fs [] (hideC H cells) H1 h h') (f : ∀ c ∈ cells, H c = some (.frz (g c) (.own 0))) : Un fs [] H (addC H1 cells g) h h' := by
  have out : ∀ {c}, H c = none → c ∉ cells := fun {c} e m => by rw [f c m] at e; cases e
  have out2 : ∀ {c v}, H c = some v → (∀ o v', v ≠ .frz o v') → c ∉ cells := fun {c v} e t m => by
    rw [f c m] at e; cases e; exact t _ _ rfl
  exact {
    keep := fun b o q nb hf hx => u.keep b o q (by rw [hideC_out (out nb)]; exact nb) hf hx
    slot := fun b o q nb hf hx => u.slot b o q (by rw [hideC_out (out nb)]; exact nb) hf hx
    free := fun b o q nb hx => by
      rw [addC_out (out nb)]
      exact u.free b o q (by rw [hideC_out (out nb)]; exact nb) hx
    there := u.there
    tups := fun b xs e => by
      have m := out2 e fun o v z => nomatch z
      rw [addC_out m]
      exact u.tups b xs (by rw [hideC_out m]; exact e)
    frzs := fun b o v e => by
      by_cases m : b ∈ cells
      · rw [f b m] at e
        cases e
        exact addC_in m
      · rw [addC_out m]
        exact u.frzs b o v (by rw [hideC_out m]; exact e)
    tbls := fun b ps e => by
      have m := out2 e fun o v z => nomatch z
      rw [addC_out m]
      exact u.tbls b ps (by rw [hideC_out m]; exact e) }
theorem UB.hide (u : UB fs (addC H cells g) H' h B h') (k : HOk P w H' B) (n : ∀ c ∈ cells, H c = none) (at_ : ∀ c ∈ cells, h.get? c = some (g c)) (nf : ∀ c ∈ cells, c ∉ fs) : UB fs H (hideC H' cells) h B h' := by
  have out : ∀ {c u}, H c = some u → c ∉ cells := fun {c u} e m => by rw [n c m] at e; cases e
  exact {
    keep := fun b o q nb hf => by
      by_cases m : b ∈ cells
      · have e := u.frzs b (g b) (.own 0) (addC_in m)
        obtain ⟨e2, _⟩ := k b _ e
        rw [at_ b m] at q; cases q
        exact e2
      · exact u.keep b o q (by rw [addC_out m]; exact nb) hf
    slot := u.slot
    free := fun b o q nb => by
      by_cases m : b ∈ cells
      · exact hideC_in m
      · rw [hideC_out m]
        exact u.free b o q (by rw [addC_out m]; exact nb)
    there := u.there
    tups := fun b xs e => by
      rw [hideC_out (out e)]
      exact u.tups b xs (by rw [addC_out (out e)]; exact e)
    frzs := fun b o v e => by
      rw [hideC_out (out e)]
      exact u.frzs b o v (by rw [addC_out (out e)]; exact e)
    tbls := fun b ps e => by
      rw [hideC_out (out e)]
      exact u.tbls b ps (by rw [addC_out (out e)]; exact e) }
theorem UB.add (u : UB fs (hideC H cells) H1 h B h') (f : ∀ c ∈ cells, H c = some (.frz (g c) (.own 0))) : UB fs H (addC H1 cells g) h B h' := by
  have out : ∀ {c}, H c = none → c ∉ cells := fun {c} e m => by rw [f c m] at e; cases e
  have out2 : ∀ {c v}, H c = some v → (∀ o v', v ≠ .frz o v') → c ∉ cells := fun {c v} e t m => by
    rw [f c m] at e; cases e; exact t _ _ rfl
  exact {
    keep := fun b o q nb hf => u.keep b o q (by rw [hideC_out (out nb)]; exact nb) hf
    slot := u.slot
    free := fun b o q nb => by
      rw [addC_out (out nb)]
      exact u.free b o q (by rw [hideC_out (out nb)]; exact nb)
    there := u.there
    tups := fun b xs e => by
      have m := out2 e fun o v z => nomatch z
      rw [addC_out m]
      exact u.tups b xs (by rw [hideC_out m]; exact e)
    frzs := fun b o v e => by
      by_cases m : b ∈ cells
      · rw [f b m] at e
        cases e
        exact addC_in m
      · rw [addC_out m]
        exact u.frzs b o v (by rw [hideC_out m]; exact e)
    tbls := fun b ps e => by
      have m := out2 e fun o v z => nomatch z
      rw [addC_out m]
      exact u.tbls b ps (by rw [hideC_out m]; exact e) }
end
section
variable {P : Program} {w : World} {H : Hp} {cells : List Addr} {g : Addr → Obj} {outer : List Env} {s s' : Shared} {u : Value}
theorem CE.hide {Q Q' : VK} (c : CE outer P w (addC H cells g) s Q' u s') (q : ∀ v H', Q' v H' → Q v (hideC H' cells)) (n : ∀ c ∈ cells, H c = none) (at_ : ∀ c ∈ cells, s.heap.get? c = some (g c)) (nf : ∀ c ∈ cells, c ∉ frs outer) : CE outer P w H s Q u s' := by
  obtain ⟨v, H', os, bare, un, hok, r, z⟩ := c
  refine ⟨v, _, os, bare, Un.hide un hok n at_ nf, HOk.hideC hok fun c m u e => ?_, r, q v H' z⟩
  have := un.frzs c (g c) (.own 0) (addC_in m)
  rw [e] at this
  cases this
  exact ⟨_, _, rfl⟩
theorem CX.hide {E E' : XK} (c : CX P w outer (addC H cells g) s E' u s') (q : ∀ cl d H', E' cl d H' → E cl d (hideC H' cells)) (n : ∀ c ∈ cells, H c = none) (at_ : ∀ c ∈ cells, s.heap.get? c = some (g c)) (nf : ∀ c ∈ cells, c ∉ frs outer) : CX P w outer H s E u s' := by
  obtain ⟨a, B, H', cls, d, e1, fl, hok, ub, na, os, ag, z⟩ := c
  refine ⟨a, B, _, cls, d, e1, fl, HOk.hideC hok fun c m u e => ?_, UB.hide ub hok n at_ nf, ?_, os, ag, q _ _ _ z⟩
  · have := ub.frzs c (g c) (.own 0) (addC_in m)
    rw [e] at this
    cases this
    exact ⟨_, _, rfl⟩
  · by_cases m : a ∈ cells
    · exact hideC_in m
    · rw [hideC_out m]; exact na
theorem CE.add {Q Q' : VK} (c : CE outer P w (hideC H cells) s Q' u s') (q : ∀ v H', (∀ c ∈ cells, H' c = none) → Q' v H' → Q v (addC H' cells g)) (f : ∀ c ∈ cells, H c = some (.frz (g c) (.own 0))) (k : HOk P w H s.heap) (nf : ∀ c ∈ cells, c ∉ frs outer) : CE outer P w H s Q u s' := by
  obtain ⟨v, H', os, bare, un, hok, r, z⟩ := c
  have nn : ∀ c ∈ cells, H' c = none := fun c m => by
    obtain ⟨e, _⟩ := k c _ (f c m)
    exact un.free c _ e (hideC_in m) (fun z => nomatch z)
  refine ⟨v, _, os, bare, Un.add un f, HOk.addC hok nn fun c m => ?_, r, q v H' nn z⟩
  · obtain ⟨e, _⟩ := k c _ (f c m)
    exact un.keep c _ e (hideC_in m) (nf c m) (fun z => nomatch z)
theorem CX.add {E E' : XK} (c : CX P w outer (hideC H cells) s E' u s') (q : ∀ cl d H', (∀ c ∈ cells, H' c = none) → E' cl d H' → E cl d (addC H' cells g)) (f : ∀ c ∈ cells, H c = some (.frz (g c) (.own 0))) (k : HOk P w H s.heap) (nf : ∀ c ∈ cells, c ∉ frs outer) : CX P w outer H s E u s' := by
  obtain ⟨a, B, H', cls, d, e1, fl, hok, ub, na, os, ag, z⟩ := c
  have at_ : ∀ c ∈ cells, B.get? c = some (g c) := fun c m => by
    obtain ⟨e, _⟩ := k c _ (f c m)
    exact ub.keep c _ e (hideC_in m) (nf c m)
  have nn : ∀ c ∈ cells, H' c = none := fun c m => by
    obtain ⟨e, _⟩ := k c _ (f c m)
    exact ub.free c _ e (hideC_in m)
  refine ⟨a, B, _, cls, d, e1, fl, HOk.addC hok nn at_, UB.add ub f, ?_, os, ag, q _ _ _ nn z⟩
  · have na' : a ∉ cells := fun m => by
      have e1 := at_ a m
      have e2 : B.get? a = none := fl.2.1
      rw [e1] at e2; cases e2
    rw [addC_out na']; exact na
end

/-! ### plain values: no list of the mini heap, no closure -/
mutual
def plD : D → Bool
  | .ref _ => false
  | .clo _ _ => false
  | .tup ds => plDs ds
  | .lst ds => plDs ds
  | _ => true
def plDs : List D → Bool
  | [] => true
  | d :: ds => plD d && plDs ds
end
/-- nothing but known cells differs -/
def SameBut (cells : List Addr) (H H' : Hp) : Prop := (∀ b, b ∉ cells → H' b = H b) ∧ ∀ b ∈ cells, ∀ u, H b = some u → ∃ o, u = .frz o (.own 0)
section
variable {Γ : G} {H H' : Hp} {cells : List Addr} {μ μ' : List Addr}
mutual
theorem Den.same (e : SameBut cells H H') (m : ∀ a, (∃ u, H a = some u ∧ ∀ xs, u ≠ .lst xs) → a ∉ μ') : ∀ {d : D} {v : V}, plD d = true → Den Γ μ H v d → Den Γ μ' H' v d
  | .non, _, _, h => h
  | .bl _, _, _, h => h
  | .int _, _, _, h => h
  | .str _, _, _, h => h
  | .glo _, _, _, h => h
  | .ref _, _, p, _ => by cases p
  | .clo _ _, _, p, _ => by cases p
  | .tup ds, _, p, h => by
    obtain ⟨a, vs, e1, q, r⟩ := h
    refine ⟨a, vs, e1, ?_, Dens.same e m p r⟩
    rcases q with ⟨_, q | ⟨o, q⟩⟩ | q
    · refine .inl ⟨m a ⟨_, q, fun xs z => nomatch z⟩, .inl ?_⟩
      rw [e.1 a fun z => by obtain ⟨o, z⟩ := e.2 a z _ q; cases z]; exact q
    · refine .inl ⟨m a ⟨_, q, fun xs z => nomatch z⟩, .inr ⟨o, ?_⟩⟩
      rw [e.1 a fun z => by obtain ⟨o, z⟩ := e.2 a z _ q; cases z]; exact q
    · exact .inr q
  | .lst ds, _, p, h => by
    obtain ⟨a, vs, e1, q, r⟩ := h
    refine ⟨a, vs, e1, ?_, Dens.same e m p r⟩
    rcases q with ⟨_, o, q⟩ | q
    · refine .inl ⟨m a ⟨_, q, fun xs z => nomatch z⟩, o, ?_⟩
      rw [e.1 a fun z => by obtain ⟨o, z⟩ := e.2 a z _ q; cases z]; exact q
    · exact .inr q
theorem Dens.same (e : SameBut cells H H') (m : ∀ a, (∃ u, H a = some u ∧ ∀ xs, u ≠ .lst xs) → a ∉ μ') : ∀ {ds : List D} {vs : List V}, plDs ds = true → Dens Γ μ H vs ds → Dens Γ μ' H' vs ds
  | [], _, _, h => h
  | d :: ds, _, p, h => by
    obtain ⟨v, r, e1, q, t⟩ := h
    have p' : (plD d && plDs ds) = true := p
    rw [Bool.and_eq_true] at p'
    exact ⟨v, r, e1, Den.same e m p'.1 q, Dens.same e m p'.2 t⟩
end
theorem same_hide (f : ∀ c ∈ cells, ∀ u, H c = some u → ∃ o, u = .frz o (.own 0)) : SameBut cells H (hideC H cells) := ⟨fun b m => hideC_out m, f⟩
theorem same_add {g : Addr → Obj} (n : ∀ c ∈ cells, H c = none) : SameBut cells H (addC H cells g) := ⟨fun b m => addC_out m, fun b m u e => by rw [n b m] at e; cases e⟩
theorem tabs_same {T : List (Addr × Str)} (e : SameBut cells H H') (t : LamX.Tabs T H) : LamX.Tabs T H' := by
  have nn : ∀ {b u}, H b = some u → (∀ o v, u ≠ .frz o v) → H' b = some u := fun {b u} q t => by
    rw [e.1 b fun z => by obtain ⟨o, z⟩ := e.2 b z _ q; exact t _ _ z]; exact q
  intro p hp
  obtain ⟨ps, h1, h2, h3⟩ := t p hp
  refine ⟨ps, nn h1 (fun o v z => nomatch z), h2, fun pos cv hc => ?_⟩
  obtain ⟨c, e1, e2⟩ := h3 pos cv hc
  exact ⟨c, e1, nn e2 fun o v z => nomatch z⟩
end
end MP
end
section
set_option Elab.async false
set_option linter.all false
set_option maxRecDepth 100000
set_option maxHeartbeats 2000000
/-! M16: lambdas are made, handed on, called. -/
namespace MP
open PySem PySem.Spec PyProof.Rows L2 LamX

/-! ### made -/
section
variable {X : Cx} {pins : List (Addr × Obj)} {σ : L2.St} {H : Hp} {s : Shared}
/-- LamX.lam_make2, with what it keeps said wider -/
theorem lam_make3 {T : List (Addr × Str)} {c P : Addr} {params : Arguments} {body : Expr} {scope : Scope} {pos : Pos} {E : Value → Shared → Prop} {Q : Value → Shared → Prop} (I : Inv X pins σ H s) (TB : TabB X.base X.mg c P) (hcode : X.env.code = .ref c)
    (hm : (P, X.env.qual ++ "<lambda>") ∈ T) (hu : ∀ p ∈ T, p.1 = P → p.2 = X.env.qual ++ "<lambda>") (hT : Tabs T H) (hdef : defaultsOf params X.env = ([], [])) (hfree : ∀ y ∈ scope.names, y.2 = .free → ∃ c, X.env.cells.lookup y.1 = some c)
    (h : ∀ (f c' : Addr) (pm ctv : Value) (H1 : Hp) (s' : Shared), Inv X pins σ H1 s' → ExtN H H1 → (∀ b ps, H b = some (.tbl ps) → ∃ ps', H1 b = some (.tbl ps')) → Tabs T H1 →
      s'.heap.get? f = some (PySem.W.kla_obj "<lambda>" (X.env.qual ++ "<lambda>") params body scope (cloFrom X.env.cells scope.names []) pm c' ctv) → H1 f = none → s.heap.objs.size ≤ f → H1 c' = some (CodeO c' (X.env.qual ++ "<lambda>")) → Q (.ref f) s') :
    wpAny (model X.prog X.w) X.A (eval (.Lambda params body scope pos) X.env) Q E s := by
  obtain ⟨ps, hP, ht, ha⟩ := hT _ hm
  refine PySem.W.kla_eval hdef ?_
  have bP : s.heap.BuiltinsAt X.mg P := TB.bm.keeps I.bk
  have hP' : s.heap.get? P = some { cls := .none, data := .fields ps } := I.hok P _ hP
  cases hc : codeAmong pos ps.toList with
  | none =>
    refine PySem.W.kla_makeFunction (mg := X.mg) (c := c) (P := P) (ps := ps) (closure_ok hfree) I.ok.glob (I.mod.glob.keeps I.bk) hcode (TB.code.keeps I.bk) hP' ht hc TB.gP bP fun c' ctv h' tk hx hge hlt hrec htb => ?_
    obtain ⟨c2, oc, vs, t, e2, hoc, hd, hv⟩ := hrec
    cases e2
    have hsz : s.heap.objs.size ≤ h'.objs.size := Nat.le_trans hge (Nat.le_of_lt hlt)
    have nC : H c' = none := I.hok.fresh hge
    have I1 := inv_table (t' := tk) (more := #[rawInt pos.line, rawInt pos.col, .ref c']) (h' := h'.push (PySem.W.kla_obj "<lambda>" (X.env.qual ++ "<lambda>") params body scope (cloFrom X.env.cells scope.names []) ((X.mg "__name__").getD .none) c' ctv)) I hP
      (fun b o hb e => Heap.get?_push_of_some _ (hx b o hb e)) (Heap.get?_push_of_some _ htb) hge ⟨oc, vs, t, Heap.get?_push_of_some _ hoc, hd, hv⟩
    have hE : ExtN H (upd (upd H P (.tbl (ps ++ #[rawInt pos.line, rawInt pos.col, .ref c']))) c' (CodeO c' (X.env.qual ++ "<lambda>"))) := fun b o e n => by
      rw [upd_ne (ne_of_none e nC), upd_ne (fun z => n ps (Option.some.inj (e.symm.trans (by rw [z]; exact hP))))]
      exact e
    have hE2 : ∀ b qs, H b = some (.tbl qs) → ∃ ps', (upd (upd H P (.tbl (ps ++ #[rawInt pos.line, rawInt pos.col, .ref c']))) c' (CodeO c' (X.env.qual ++ "<lambda>"))) b = some (.tbl ps') := fun b qs e => by
      rw [upd_ne (ne_of_none e nC)]
      by_cases hb : b = P
      · rw [hb, upd_same]; exact ⟨_, rfl⟩
      · rw [upd_ne hb]; exact ⟨qs, e⟩
    have eL : (ps ++ #[rawInt pos.line, rawInt pos.col, .ref c']).toList = ps.toList ++ [rawInt pos.line, rawInt pos.col, .ref c'] := by simp
    refine h h'.objs.size c' ((X.mg "__name__").getD .none) ctv _ _ I1 hE hE2 (fun p hp => ?_) (Heap.get?_push_size _ rfl) ?_ hsz upd_same
    · by_cases hb : p.1 = P
      · rw [hu p hp hb, hb]
        refine ⟨_, by rw [upd_ne (ne_of_none hP nC), upd_same], by rw [eL]; exact PySem.TriplesOk_snoc _ _ _ _ ht, fun p' cv hcv => ?_⟩
        rw [eL] at hcv
        rcases among_app _ ht hcv with z | z
        · obtain ⟨c0, e1, e2⟩ := ha p' cv z
          exact ⟨c0, e1, hE _ _ e2 codeO_ne⟩
        · exact ⟨c', z, upd_same⟩
      · obtain ⟨ps', a1, a2, a3⟩ := hT p hp
        refine ⟨ps', by rw [upd_ne (ne_of_none a1 nC), upd_ne hb]; exact a1, a2, fun p' cv hcv => ?_⟩
        obtain ⟨c0, e1, e2⟩ := a3 p' cv hcv
        exact ⟨c0, e1, hE _ _ e2 codeO_ne⟩
    · have n1 : h'.objs.size ≠ c' := Nat.ne_of_gt hlt
      have n2 : h'.objs.size ≠ P := Nat.ne_of_gt (Nat.lt_of_lt_of_le (Heap.lt_size hP') hsz)
      rw [upd_ne n1, upd_ne n2]
      exact I.hok.fresh hsz
  | some cv =>
    obtain ⟨c', e, hco⟩ := ha pos cv hc
    subst e
    refine PySem.W.kla_makeFunctionHit (mg := X.mg) (c := c) (P := P) (ps := ps) (closure_ok hfree) I.ok.glob (I.mod.glob.keeps I.bk) hcode (TB.code.keeps I.bk) hP' ht hc bP fun ctv h' tk hx hsz => ?_
    have I1 : Inv X pins σ H { s with heap := h'.push (PySem.W.kla_obj "<lambda>" (X.env.qual ++ "<lambda>") params body scope (cloFrom X.env.cells scope.names []) ((X.mg "__name__").getD .none) c' ctv), toks := tk } := I.kept fun b o e => Heap.get?_push_of_some _ (hx b o e)
    exact h h'.objs.size c' ((X.mg "__name__").getD .none) ctv H _ I1 (ExtN.refl H) (fun b ps e => ⟨ps, e⟩) hT (Heap.get?_push_size _ rfl) (I.hok.fresh hsz) hsz hco
/-- a new object is known from now on -/
theorem Inv.know {s0 : Shared} {H0 : Hp} {f : Addr} {o : Obj} (I0 : Inv X pins σ H0 s0) (I : Inv X pins σ H s) (hn : H f = none) (hf : s0.heap.objs.size ≤ f) (ho : s.heap.get? f = some o) : Inv X pins σ (upd H f (.frz o (.own 0))) s := by
  have old : ∀ {b ob}, s0.heap.get? b = some ob → b ≠ f := fun {b ob} e => Nat.ne_of_lt (Nat.lt_of_lt_of_le (Heap.lt_size e) hf)
  have nn : ∀ {b}, b ≠ f → H b = none → (upd H f (.frz o (.own 0)) : Hp) b = none := fun {b} hb q => by rw [upd_ne hb]; exact q
  exact {
    ok := I.ok
    os := I.os
    bare := I.bare
    base := {
      keep := I.base.keep
      slot := I.base.slot
      free := fun b ob q n hx => by
        obtain ⟨ob', q'⟩ := I0.base.there b ob q hx
        exact nn (old q') (I.base.free b ob q n hx)
      there := I.base.there
      tups := fun b xs q => by
        have k := I.base.tups b xs q
        rw [upd_ne (ne_of_none k hn)]; exact k
      frzs := fun b ob u q => by
        have k := I.base.frzs b ob u q
        rw [upd_ne (ne_of_none k hn)]; exact k
      tbls := fun b ps q => by
        obtain ⟨more, k⟩ := I.base.tbls b ps q
        exact ⟨more, by rw [upd_ne (ne_of_none k hn)]; exact k⟩ }
    loc := I.loc
    cell := I.cell
    free := nn (Nat.ne_of_lt (Nat.lt_of_lt_of_le I0.lt hf)) I.free
    freeC := fun x c q => by
      obtain ⟨v, ob, e, _⟩ := I0.cell x c q
      exact nn (old e) (I.freeC x c q)
    pin := fun q m => by
      obtain ⟨e0, _⟩ := I0.pin q m
      obtain ⟨a, b, c⟩ := I.pin q m
      exact ⟨a, nn (old e0) b, c⟩
    hok := fun b u q => by
      by_cases hb : b = f
      · subst hb
        rw [upd_same] at q; cases q
        exact ⟨ho, _, ho⟩
      · rw [upd_ne hb] at q
        exact (I.hok b u q).stay (fun c v _ k => k) (fun c k => by rw [upd_ne (ne_of_none k hn)]; exact k) fun c xs k => by rw [upd_ne (ne_of_none k hn)]; exact k
    len := I.len }
end
/-- a lambda object as its maker left it -/
def LamO (Γ : G) (cells : List (Str × Addr)) (H : Hp) (f : Addr) (n : Nat) : Prop := ∃ (I : LamI) (pm ctv : Value) (c' : Addr), Γ.lam n = some I ∧ H f = some (.frz (PySem.W.kla_obj "<lambda>" I.qual I.params I.body I.scope (cloFrom cells I.scope.names []) pm c' ctv) (.own 0)) ∧ H c' = some (CodeO c' I.qual)
/-- the table of the maker's code object -/
structure LamT (X : Cx) (Γ : G) : Prop where
  ex : ∃ c P, TabB X.base X.mg c P ∧ X.env.code = .ref c ∧ (P, X.env.qual ++ "<lambda>") ∈ Γ.T ∧ ∀ p ∈ Γ.T, p.1 = P → p.2 = X.env.qual ++ "<lambda>"
def tLam (Γ : G) (cells : List (Str × Addr)) (n : Nat) : TE := fun σ H Q => Tabs Γ.T H ∧ ∀ f H1, ExtN H H1 → (∀ b ps, H b = some (.tbl ps) → ∃ ps', H1 b = some (.tbl ps')) → Tabs Γ.T H1 → LamO Γ cells H1 f n → H f = none → Q (.ref f) H1
section
variable {X : Cx} {Γ : G} {W : WX}
theorem pe_lam {n : Nat} {I : LamI} {pos : Pos} (LT : LamT X Γ) (hl : Γ.lam n = some I) (hq : I.qual = X.env.qual ++ "<lambda>") (hdef : defaultsOf I.params X.env = ([], [])) (hfree : ∀ y ∈ I.scope.names, y.2 = .free → X.env.kindOf y.1 = some .cell ∨ X.env.kindOf y.1 = some .free) :
    PE X (.Lambda I.params I.body I.scope pos) (tLam Γ X.env.cells n) := by
  refine ⟨fun pins s σ H Q I0 h => ?_⟩
  obtain ⟨hT, h⟩ := h
  obtain ⟨c, P, TB, hcode, hm, hu⟩ := LT.ex
  refine lam_make3 I0 TB hcode hm hu hT hdef (fun y hy e => I0.ok.has _ (hfree y hy e)) fun f c' pm ctv H1 s' I1 e1 e2 T1 hf hn hge hc => ?_
  have nf : f ≠ c' := fun z => by rw [z, hc] at hn; cases hn
  have I2 := Inv.know I0 I1 hn hge hf
  refine ⟨.ref f, _, I2, rfl, h f _ (fun b o e n => ?_) (fun b ps e => ?_) (T1.ext fun b o e => by rw [upd_ne (ne_of_none e hn)]; exact e) ⟨I, pm, ctv, c', hl, by rw [hq]; exact upd_same, by rw [hq, upd_ne (Ne.symm nf)]; exact hc⟩ (I0.hok.fresh hge)⟩
  · rw [upd_ne (ne_of_none (e1 b o e n) hn)]; exact e1 b o e n
  · obtain ⟨ps', e'⟩ := e2 b ps e
    exact ⟨ps', by rw [upd_ne (ne_of_none e' hn)]; exact e'⟩
theorem lam_ext {H H1 : Hp} {μ : List Addr} (e1 : ExtN H H1) (e2 : ∀ b ps, H b = some (.tbl ps) → ∃ ps', H1 b = some (.tbl ps')) : Ext H μ H1 μ := ⟨List.prefix_refl _, fun a u e _ t => e1 a u e t, fun a ps e _ => e2 a ps e, fun _ m => .inl m⟩
theorem lam_rel {H H1 : Hp} {μ : List Addr} {h : List MO} (r : Rel Γ H μ h) (e1 : ExtN H H1) (e2 : ∀ b ps, H b = some (.tbl ps) → ∃ ps', H1 b = some (.tbl ps')) (T1 : Tabs Γ.T H1) : Rel Γ H1 μ h :=
  r.grow (lam_ext e1 e2) (fun a m => by
    obtain ⟨vs, q⟩ := r.mem m
    rw [q]; exact e1 a _ q fun ps z => nomatch z) T1
/-- a lambda that captures nothing -/
theorem fe_lam {n : Nat} {I : LamI} {pos : Pos} (LT : LamT X Γ) (hl : Γ.lam n = some I) (hq : I.qual = X.env.qual ++ "<lambda>") (hdef : defaultsOf I.params X.env = ([], [])) (hfree : ∀ y ∈ I.scope.names, y.2 ≠ .free) (hc : I.caps = []) :
    FE X Γ W (.Lambda I.params I.body I.scope pos) (xC (.clo n [])) := by
  refine ⟨(pe_lam LT hl hq hdef fun y hy e => absurd e (hfree y hy)).imp fun σ H Q q => ?_⟩
  obtain ⟨ρ, h, μ, he, hr, q⟩ := q
  refine ⟨hr.tabs, fun f H1 e1 e2 T1 L hn => ?_⟩
  have r1 := lam_rel hr e1 e2 T1
  refine q _ _ μ (lam_ext e1 e2) r1 ?_
  obtain ⟨I', pm, ctv, c', l1, l2, l3⟩ := L
  have : I' = I := by rw [hl] at l1; cases l1; rfl
  subst this
  have nil : cloFrom X.env.cells I'.scope.names [] = [] := by
    have key : ∀ (l : List (Str × NameKind)), (∀ y ∈ l, y.2 ≠ .free) → cloFrom X.env.cells l [] = [] := by
      intro l
      induction l with
      | nil => intro _; rfl
      | cons y l ih =>
        intro hy
        obtain ⟨a, k⟩ := y
        unfold cloFrom
        have : (k == .free) = false := by
          have := hy (a, k) List.mem_cons_self
          simpa using this
        rw [if_neg (by rw [this]; exact Bool.false_ne_true)]
        exact ih fun y m => hy y (List.mem_cons_of_mem _ m)
    exact key _ hfree
  rw [nil] at l2
  refine ⟨f, [], [], rfl, ⟨⟨I', [], pm, ctv, c', hl, by rw [hc]; rfl, rfl, l2, l3, (fun z => nomatch z), r1.no l3 fun vs z => codeO_lst _ _ _ z⟩, ⟨r1.no l2 (fun vs z => nomatch z), (fun z => nomatch z)⟩, List.nodup_nil, (fun c z => nomatch z), rfl, fun j c v z => by simp at z⟩, rfl⟩
end
end MP
end
section
set_option Elab.async false
set_option linter.all false
set_option maxRecDepth 100000
set_option maxHeartbeats 2000000
/-! M17: a closure is called. -/
namespace MP
open PySem PySem.Spec PyProof.Rows L2 LamX

/-- a lambda's names: its parameters, what it captures -/
structure LamS2 (ps caps : List Str) (scope : Scope) : Prop where
  kind : scope.kind = .function
  co : scope.isCoroutine = false
  gen : scope.isGenerator = false
  nocell : ∀ y ∈ scope.names, y.2 ≠ .cell
  loc : ∀ y ∈ scope.names, y.2 = .local → y.1 ∈ ps
  par : ∀ x ∈ ps, scope.names.lookup x = some .local
  free : ∀ y ∈ scope.names, y.2 = .free → y.1 ∈ caps
  freeL : ∀ x ∈ caps, scope.names.lookup x = some .free
  nd : (ps ++ caps).Nodup
def lamS2B (ps caps : List Str) (scope : Scope) : Bool :=
  decide (scope.kind = .function) && !scope.isCoroutine && !scope.isGenerator && (scope.names.all fun y => !decide (y.2 = .cell) && (!decide (y.2 = .local) || decide (y.1 ∈ ps)) && (!decide (y.2 = .free) || decide (y.1 ∈ caps))) &&
    (ps.all fun x => decide (scope.names.lookup x = some .local)) && (caps.all fun x => decide (scope.names.lookup x = some .free)) && decide (ps ++ caps).Nodup
theorem lamS2_by {ps caps : List Str} {scope : Scope} (h : lamS2B ps caps scope = true) : LamS2 ps caps scope := by
  unfold lamS2B at h
  simp only [Bool.and_eq_true, Bool.or_eq_true, Bool.not_eq_true', decide_eq_true_eq, decide_eq_false_iff_not, List.all_eq_true] at h
  obtain ⟨⟨⟨⟨⟨⟨h1, h2⟩, h3⟩, h4⟩, h5⟩, h6⟩, h7⟩ := h
  refine ⟨h1, h2, h3, fun y hy => (h4 y hy).1.1, fun y hy e => ?_, h5, fun y hy e => ?_, h6, h7⟩
  · rcases (h4 y hy).1.2 with z | z
    · exact absurd e z
    · exact z
  · rcases (h4 y hy).2 with z | z
    · exact absurd e z
    · exact z
theorem lookup_nd {α : Type} : ∀ {l : List (Str × α)} {x : Str} {u : α}, (l.map (·.1)).Nodup → (x, u) ∈ l → l.lookup x = some u
  | (y, v) :: l, x, u, nd, m => by
    rw [List.lookup_cons]
    rcases List.mem_cons.mp m with e | m
    · cases e; simp
    · have ne : x ≠ y := fun e => (List.nodup_cons.mp nd).1 (by rw [← e]; exact List.mem_map_of_mem (f := (·.1)) m)
      have : (x == y) = false := by simpa using ne
      rw [this]
      exact lookup_nd (List.nodup_cons.mp nd).2 m
theorem zip_mem {ps : List Str} {us : List Value} {i : Nat} {x : Str} {u : Value} (h1 : ps[i]? = some x) (h2 : us[i]? = some u) : (x, u) ∈ ps.zip us := by
  refine List.mem_of_getElem? (i := i) ?_
  rw [List.getElem?_zip_eq_some]
  exact ⟨h1, h2⟩
theorem lookup_rev {ps : List Str} {us : List Value} {i : Nat} {x : Str} {u : Value} (nd : ps.Nodup) (hl : us.length = ps.length) (h1 : ps[i]? = some x) (h2 : us[i]? = some u) : (ps.zip us).reverse.lookup x = some u := by
  refine lookup_nd ?_ (List.mem_reverse.mpr (zip_mem h1 h2))
  rw [List.map_reverse]
  have : (ps.zip us).map (·.1) = ps := zip_fst hl
  rw [this]
  exact (List.reverse_perm ps).nodup_iff.mpr nd
abbrev lamE (I : LamI) (L f c' : Addr) (clos : List (Str × Addr)) : Env := PySem.W.envX I.qual I.scope L f (.ref c') clos
/-- the context of a closure's body, entered at s from the frames outer -/
def lamXof (P : Program) (w : World) (K : PySem.W.Frag) (mg : Str → Option Value) (base : Heap) (A : Around) (outer : List Env) (s : Shared) (H : Hp) (E : XK) (I : LamI) (ps : List Str) (f c' : Addr) (clos : List (Str × Addr)) : Cx where
  prog := P
  w := w
  K := K
  mg := mg
  base := base
  A := A.deeper (lamE I s.heap.objs.size f c' clos)
  N := ps ++ I.caps
  s_0 := s
  H_0 := H
  env := lamE I s.heap.objs.size f c' clos
  outer := outer
  stack := lamE I s.heap.objs.size f c' clos :: outer
  ex := []
  fn := fun _ => false
  calm := true
  pn := []
  xe := fun e s' => wpAny (model P w) (A.deeper (lamE I s.heap.objs.size f c' clos)) (leaving (lamE I s.heap.objs.size f c' clos) e) (fun _ s'' => L2.CX P w outer H s E e s'') (fun e' s'' => L2.CX P w outer H s E e' s'') s'
/-- a lambda of the text, its parameters, its body's mirror -/
structure LamF (Γ : G) (P : Program) (w : World) (K : PySem.W.Frag) (mg : Str → Option Value) (base : Heap) (k n : Nat) (I : LamI) (ps : List Str) (fb : ME) : Prop where
  lam : Γ.lam n = some I
  sc : LamS2 ps I.caps I.scope
  bind : ∀ (clos : List (Str × Addr)) (pm : Value) (c' : Addr) (ctv : Value) (us : List Value), us.length = ps.length → bindArgs (PySem.W.kla_fn "<lambda>" I.qual I.params I.body I.scope clos pm (.ref c') ctv) ⟨us, []⟩ = pure (ps.zip us)
  body : ∀ (A : Around) (outer : List Env) (s : Shared) (H : Hp) (E : XK) (f c' : Addr) (clos : List (Str × Addr)), Room k (A.deeper (lamE I s.heap.objs.size f c' clos)) → FE (lamXof P w K mg base A outer s H E I ps f c' clos) Γ (wE E) I.body fb
/-- a closure's mirror: on plain values -/
def cloF (fb : ME) (m : Nat) (cs : List D) : MF := fun ds h => if h.isEmpty && decide (ds.length = m) && plDs ds then match fb ((ds ++ cs).map some) [] with
  | .ok d [] => if plD d then .ok d [] else .stuck
  | .err e [] => if plDs (e.fs.map (·.2)) then .err e [] else .stuck
  | _ => .stuck
  else .stuck
theorem env_all {Γ : G} {μ : List Addr} {H : Hp} : ∀ {vs : List V} {ds : List D}, Dens Γ μ H vs ds → EnvOk Γ μ H (vs.map some) (ds.map some)
  | vs, [], k => by rw [show vs = [] from k]; trivial
  | vs, d :: ds, k => by
    obtain ⟨v, r, rfl, k1, k2⟩ := k
    exact ⟨⟨v, rfl, k1⟩, env_all k2⟩
section
variable {Γ : G} {P : Program} {w : World} {K : PySem.W.Frag} {mg : Str → Option Value} {base : Heap}
/-- the body's start -/
theorem lam_inv {A : Around} {outer : List Env} {s : Shared} {HZ : Hp} {E : XK} {I : LamI} {ps : List Str} {f c' : Addr} {clos : List (Str × Addr)} {h₁ : Heap} {tk : Nat} {us : List Value} {vs ws : List V} (S : LamS2 ps I.caps I.scope) (e0 : Env0 P w K mg base A outer s HZ) (hd : A.handled = none)
    (ec : clos.map (·.1) = I.caps) (nd : (clos.map (·.2)).Nodup) (hz : ∀ c ∈ clos.map (·.2), HZ c = none) (hv : ∀ (j : Nat) (c : Addr) (v : V), (clos.map (·.2))[j]? = some c → ws[j]? = some v → ∃ (oc : Obj) (u : Value), s.heap.get? c = some oc ∧ oc.data = .cell (some u) ∧ RelV v u)
    (hw : (clos.map (·.2)).length = ws.length) (r : Vals vs us) (hl : vs.length = ps.length)
    (hns : h₁.Ns s.heap.objs.size fun y => (ps.zip us).reverse.lookup y) (kp : ∀ b o, s.heap.get? b = some o → h₁.get? b = some o) :
    Inv (lamXof P w K mg base A outer s HZ E I ps f c' clos) [] ((vs ++ ws).map some) HZ { s with heap := h₁, toks := tk } := by
  have noA : ∀ b : Addr, b ∉ (lamXof P w K mg base A outer s HZ E I ps f c' clos).ex := fun b z => absurd (show b ∈ ([] : List Addr) from z) (by simp)
  have nd1 : (clos.map (·.1)).Nodup := by rw [ec]; exact (List.nodup_append.mp S.nd).2.1
  have ndp : ps.Nodup := (List.nodup_append.mp S.nd).1
  have len : clos.length = ws.length := by rw [← hw, List.length_map]
  have look : ∀ {y c}, clos.lookup y = some c → ∃ j, (clos.map (·.1))[j]? = some y ∧ (clos.map (·.2))[j]? = some c := fun {y c} e => by
    obtain ⟨j, hj, ej⟩ := List.mem_iff_getElem.mp (PySem.mem_of_lookup e)
    refine ⟨j, ?_, ?_⟩
    · rw [List.getElem?_map, List.getElem?_eq_getElem hj, ej]; rfl
    · rw [List.getElem?_map, List.getElem?_eq_getElem hj, ej]; rfl
  have cell : ∀ {y c}, clos.lookup y = some c → ∃ v, s.heap.IsCell c v := fun {y c} e => by
    obtain ⟨j, _, e2⟩ := look e
    have hj : j < ws.length := by
      have := (List.getElem?_eq_some_iff.mp e2).1
      rw [hw] at this; exact this
    obtain ⟨oc, u, h1, h2, _⟩ := hv j c _ e2 (List.getElem?_eq_getElem hj)
    exact ⟨_, oc, h1, h2⟩
  refine ⟨⟨e0.mod, S.kind, rfl, rfl, Nat.le_refl _, fun y z c e1 e2 => ?_, fun y hy => ?_, fun y c z _ => ?_, fun _ => hd, Around.frames_deeper e0.frames, .inr ⟨rfl, rfl⟩, fun b z => absurd z (noA b), e0.bs, e0.bsz, fun b _ _ => noA b,
      fun b z => absurd z (noA b), e0.funs, e0.frf⟩,
    rfl, e0.bare, Un.kept kp, ⟨_, hns, fun i y v e1 e2 e3 => ?_⟩, fun y c e => ?_, e0.hok.fresh (Nat.le_refl _), fun y c e => ?_, fun q hq => absurd (show q ∈ ([] : List (Addr × Obj)) ++ [] from hq) (by simp), e0.hok.kept kp, ?_⟩
  · have e1 : clos.lookup y = some c := e1
    have e2 : clos.lookup z = some c := e2
    obtain ⟨i, a1, a2⟩ := look e1
    obtain ⟨j, b1, b2⟩ := look e2
    obtain ⟨h1, f1⟩ := List.getElem?_eq_some_iff.mp a2
    obtain ⟨h2, f2⟩ := List.getElem?_eq_some_iff.mp b2
    have : i = j := (List.getElem_inj nd).mp (f1.trans f2.symm)
    subst this
    rw [a1] at b1; cases b1; rfl
  · have hy : I.scope.names.lookup y = some .cell ∨ I.scope.names.lookup y = some .free := hy
    rcases hy with hy | hy
    · exact absurd rfl (S.nocell _ (PySem.mem_of_lookup hy))
    · have m := S.free _ (PySem.mem_of_lookup hy) rfl
      have m : y ∈ clos.map (·.1) := by rw [ec]; exact m
      obtain ⟨p, hp, e⟩ := List.mem_map.mp m
      obtain ⟨y', c⟩ := p
      have e : y' = y := e
      subst e
      exact ⟨c, lookup_nd nd1 hp⟩
  · have z : false = true := z
    cases z
  · have e1 : (ps ++ I.caps)[i]? = some y := e1
    have hvl := r.length
    by_cases hi : i < ps.length
    · rw [List.getElem?_append_left hi] at e1
      have e2 : ((vs ++ ws).map some)[i]? = some (some v) := e2
      rw [List.map_append, List.getElem?_append_left (by rw [List.length_map, hl]; exact hi), List.getElem?_map] at e2
      cases ev : vs[i]? with
      | none => rw [ev] at e2; cases e2
      | some v' =>
        rw [ev] at e2
        cases e2
        obtain ⟨u, hu, ru⟩ := r.get ev
        exact ⟨u, ru, .inl ⟨S.par y (List.mem_of_getElem? e1), lookup_rev ndp (by rw [← hvl, hl]) e1 hu⟩⟩
    · have hi : ps.length ≤ i := Nat.le_of_not_lt hi
      rw [List.getElem?_append_right hi] at e1
      have e2 : ((vs ++ ws).map some)[i]? = some (some v) := e2
      rw [List.map_append, List.getElem?_append_right (by rw [List.length_map, hl]; exact hi), List.length_map, hl, List.getElem?_map] at e2
      cases ev : ws[i - ps.length]? with
      | none => rw [ev] at e2; cases e2
      | some v' =>
        rw [ev] at e2
        cases e2
        have hj : i - ps.length < clos.length := by rw [len]; exact (List.getElem?_eq_some_iff.mp ev).1
        have e3 : (clos.map (·.2))[i - ps.length]? = some (clos[i - ps.length].2) := by rw [List.getElem?_map, List.getElem?_eq_getElem hj]; rfl
        have e4 : (clos.map (·.1))[i - ps.length]? = some (clos[i - ps.length].1) := by rw [List.getElem?_map, List.getElem?_eq_getElem hj]; rfl
        rw [ec, e1] at e4
        obtain ⟨oc, u, h1, h2, ru⟩ := hv _ _ _ e3 ev
        refine ⟨u, ru, .inr ⟨.inr (S.freeL y (List.mem_of_getElem? e1)), clos[i - ps.length].2, ?_, oc, kp _ _ h1, h2⟩⟩
        refine lookup_nd nd1 ?_
        have : (y, clos[i - ps.length].2) = clos[i - ps.length] := by
          have := Option.some.inj e4
          rw [this]
        rw [this]
        exact List.getElem_mem hj
  · obtain ⟨v, z⟩ := cell e
    exact ⟨v, z.keeps kp⟩
  · obtain ⟨j, _, e2⟩ := look (y := y) (c := c) e
    exact hz c (List.mem_of_getElem? e2)
  · show ((vs ++ ws).map some).length = (ps ++ I.caps).length
    rw [List.length_map, List.length_append, List.length_append, hl, ← len, ← ec, List.length_map]
/-- the closure runs -/
theorem run_clo {Y : Cx} {pins : List (Addr × Obj)} {σ : L2.St} {H : Hp} {s : Shared} {W : WX} {Q : VK} {k n : Nat} {I : LamI} {ps : List Str} {fb : ME} {f : Addr} {cells : List Addr} {us : List Value} {vs ws : List V} {ds cs : List D} (hJ : ∀ H μ, Γ.J H μ)
    (LF : LamF Γ Y.prog Y.w Y.K Y.mg Y.base k n I ps fb) (IY : Inv Y pins σ H s) (hr : Room (k + 1) Y.A) (tk : Takes Y W) (x : CloM Γ H [] f n cells ws) (dc : Dens Γ [] (hideC H cells) ws cs) (rel : Rel Γ H [] []) (rv : Vals vs us) (dv : Dens Γ [] H vs ds)
    (q : Good Γ W σ H [] (denE Γ) Q (cloF fb ps.length cs ds [])) : wpAny (model Y.prog Y.w) Y.A (call (.ref f) us) (EP Y pins σ Q) Y.xe s := by
  unfold cloF at q
  split at q
  case isFalse => exact False.elim q
  rename_i hc
  simp only [Bool.and_eq_true, decide_eq_true_eq] at hc
  obtain ⟨⟨_, hlen⟩, hpl⟩ := hc
  obtain ⟨I', clos, pm, ctv, c', h1, h2, h3, h4, h5, h6, h7⟩ := x.obj
  have : I' = I := by rw [LF.lam] at h1; cases h1; rfl
  subst this
  have hvl : vs.length = ps.length := dv.length.trans hlen
  have hul : us.length = ps.length := by rw [← rv.length]; exact hvl
  obtain ⟨of1, _⟩ := IY.hok f _ h4
  have hc5 : ObjOk Y.prog Y.w H s.heap c' (CodeO c' I'.qual) := IY.hok c' _ h5
  unfold CodeO at hc5
  obtain ⟨⟨oc, cvs, t, hoc, hdc, hvc⟩, _, _⟩ := hc5
  -- the cells
  have cellAt : ∀ c ∈ cells, ∃ oc u, H c = some (.frz oc (.own 0)) ∧ oc.data = .cell (some u) := fun c hc => by
    obtain ⟨j, hj, ej⟩ := List.mem_iff_getElem.mp hc
    have hj2 : j < ws.length := by rw [← x.len]; exact hj
    obtain ⟨oc, u, e1, e2, _⟩ := x.val j c _ (by rw [List.getElem?_eq_getElem hj, ej]) (List.getElem?_eq_getElem hj2)
    exact ⟨oc, u, e1, e2⟩
  have : ∃ g : Addr → Obj, ∀ c ∈ cells, H c = some (.frz (g c) (.own 0)) := ⟨fun c => match H c with | some (.frz o _) => o | _ => { cls := .none, data := .fields #[] }, fun c hc => by
    obtain ⟨oc, u, e1, _⟩ := cellAt c hc
    show H c = some (.frz (match H c with | some (.frz o _) => o | _ => { cls := .none, data := .fields #[] }) (.own 0))
    rw [e1]⟩
  obtain ⟨g, hg⟩ := this
  have nfr : ∀ c ∈ cells, c ∉ frs Y.stack := fun c m z => by
    have e := hg c m
    rw [IY.stkFree c z] at e; cases e
  have hgf : ∀ c ∈ cells, ∀ u, H c = some u → ∃ o, u = .frz o (.own 0) := fun c m u e => by rw [hg c m] at e; cases e; exact ⟨_, rfl⟩
  have e0 : Env0 Y.prog Y.w Y.K Y.mg Y.base Y.A Y.stack s (hideC H cells) := by
    have e := IY.env0
    have nn : ∀ {b}, H b = none → hideC H cells b = none := fun {b} z => by
      by_cases m : b ∈ cells
      · exact hideC_in m
      · rw [hideC_out m]; exact z
    exact ⟨e.frames, e.mod, fun b o q => ⟨(e.bs b o q).1, nn (e.bs b o q).2⟩, e.bsz, e.funs, fun b m => nn (e.frf b m), HOk.hideC e.hok fun c m u q => by obtain ⟨o, z⟩ := hgf c m u q; exact ⟨o, _, z⟩, e.bare⟩
  -- the wish within
  have run : codeAny (model Y.prog Y.w) Y.A (.call (.ref f) ⟨us, []⟩) (CR (L2.CX Y.prog Y.w) Y.stack Y.prog Y.w (hideC H cells) s (fun v H1 => (∀ c ∈ cells, H1 c = none) → Q v (addC H1 cells g)) (fun cl d H1 => (∀ c ∈ cells, H1 c = none) → W cl d σ (addC H1 cells g))) s := by
    refine PySem.W.kla_callFunE hr.depth of1 rfl LF.sc.co LF.sc.gen rfl ⟨c', oc, cvs, t, rfl, hoc, hdc, hvc⟩ ?_
    rw [LF.bind clos pm c' ctv us hul]
    refine wpAny_pure (wpAny_newFunctionEnv LF.sc.nocell (fun y hy => LF.sc.par _ (List.of_mem_zip hy).1) (fun h₁ hns hsb => ⟨IY.nolimit.fresh _ hsb, ?_⟩) LF.sc.kind)
    show codeAny _ _ (.expr I'.body (lamE I' s.heap.objs.size f c' clos)) _ _
    have kp : ∀ b o, s.heap.get? b = some o → h₁.get? b = some o := fun b o e => hsb.extBut b o (Nat.ne_of_lt (Heap.lt_size e)) (Heap.get?_push_of_some _ e)
    have J := lam_inv (E := fun cl d H1 => (∀ c ∈ cells, H1 c = none) → W cl d σ (addC H1 cells g)) (f := f) (c' := c') (tk := s.toks + (ps.zip us).length) LF.sc e0 hr.hd h2 (by rw [h3]; exact x.nd) (by rw [h3]; exact fun c m => hideC_in m) (fun j c v e1 e2 => by
      rw [h3] at e1
      obtain ⟨oc, u, z1, z2, z3⟩ := x.val j c v e1 e2
      obtain ⟨z4, _⟩ := IY.hok c _ z1
      exact ⟨oc, u, z4, z2, z3⟩) (by rw [h3]; exact x.len) rv hvl hns kp
    refine PySem.W.kla_codeExpr (wpAny_mono ((LF.body Y.A Y.stack s (hideC H cells) _ f c' clos (hr.deeper _)).ok.run [] _ _ (hideC H cells) (fun v H1 => (∀ c ∈ cells, H1 c = none) → Q v (addC H1 cells g)) J ?_) (fun v s' hq => ?_) fun e s' hq => hq)
    · have da : Dens Γ [] (hideC H cells) vs ds := Dens.same (same_hide hgf) (fun a _ (m : a ∈ []) => nomatch m) hpl dv
      refine ⟨(ds ++ cs).map some, [], [], env_all (da.append dc), ⟨rfl, List.nodup_nil, fun i a o z _ => by simp at z, tabs_same (same_hide hgf) rel.tabs, hJ _ _⟩, ?_⟩
      have back : ∀ {H' : Hp} {μ' : List Addr}, Ext (hideC H cells) [] H' μ' → (∀ c ∈ cells, H' c = none) → Ext H [] (addC H' cells g) [] := fun {H' μ'} e n => {
        pre := List.prefix_refl _
        keep := fun a u z1 z2 z3 => by
          by_cases m : a ∈ cells
          · rw [hg a m] at z1; cases z1
            exact addC_in m
          · rw [addC_out m]
            exact e.keep a u (by rw [hideC_out m]; exact z1) (fun z => nomatch z) z3
        keepT := fun a ps' z1 _ => by
          have m : a ∉ cells := fun m => by rw [hg a m] at z1; cases z1
          rw [addC_out m]
          exact e.keepT a ps' (by rw [hideC_out m]; exact z1) (fun z => nomatch z)
        new := fun _ z => .inl z }
      cases ef : fb ((ds ++ cs).map some) [] with
      | ok d h' =>
        rw [ef] at q
        cases h' with
        | cons _ _ => exact False.elim q
        | nil =>
          simp only at q
          split at q
          · rename_i hpd
            intro v H' μ' e r' dd n
            refine q v _ [] (back e n) ⟨rfl, List.nodup_nil, fun i a o z _ => by simp at z, tabs_same (same_add n) r'.tabs, hJ _ _⟩ ?_
            exact Den.same (same_add n) (fun a _ (m : a ∈ []) => nomatch m) hpd dd
          · exact False.elim q
      | err ex h' =>
        rw [ef] at q
        cases h' with
        | cons _ _ => exact False.elim q
        | nil =>
          simp only at q
          split at q
          · rename_i hpd
            intro cls dd H' μ' e r' xx n
            refine q cls dd _ [] (back e n) ⟨rfl, List.nodup_nil, fun i a o z _ => by simp at z, tabs_same (same_add n) r'.tabs, hJ _ _⟩ ?_
            obtain ⟨C, dx, vs', z1, z2, z3, z4, z5⟩ := xx
            refine ⟨C, dx, vs', z1, z2, z3, ?_, Dens.same (same_add n) (fun a _ (m : a ∈ []) => nomatch m) hpd z5⟩
            rw [addC_out fun m => by rw [n dx m] at z4; cases z4]; exact z4
          · exact False.elim q
      | stuck => rw [ef] at q; exact False.elim q
    · obtain ⟨w', H', J', rv, q⟩ := hq
      exact ⟨w', H', J'.os, J'.bare, J'.base, J'.hok, rv, q⟩
  refine wpAny_call (codeAny_mono run fun r s' hq => ?_)
  cases r with
  | error e => exact tk e s' (XE.of_call (E := fun cl d H1 => W cl d σ H1) IY (fun _ _ _ h => h) (CX.add hq (fun cl d H' n z => z n) hg IY.hok nfr))
  | ok fl =>
    cases fl with
    | ret u => exact IY.after (CE.add hq (fun v H' n z => z n) hg IY.hok nfr)
    | next => exact False.elim hq
    | brk => exact False.elim hq
    | cont => exact False.elim hq
end
end MP
end
section
set_option Elab.async false
set_option linter.all false
set_option maxRecDepth 100000
set_option maxHeartbeats 2000000
/-! M18: f(..) of a value; a def called with a lambda. -/
namespace MP
open PySem PySem.Spec PyProof.Rows L2 LamX

def gloF (fm : MF) (m : Nat) : MF := fun ds h => if ds.length = m then fm ds h else .stuck
/-- what a value does when it is called -/
def DispOk (Γ : G) (P : Program) (w : World) (K : PySem.W.Frag) (mg : Str → Option Value) (base : Heap) (k : Nat) (disp : D → Option MF) : Prop := ∀ d g, disp d = some g →
  (∃ (x : Str) (f : Addr) (fd : FuncData) (ps : List Str) (fm : MF), d = .glo x ∧ Γ.mg x = some (.ref f) ∧ PySem.W.keepIn K (.ref f) = true ∧ FnOk P w K mg base (CX P w) (k + 1) f fd ps (spF Γ ps.length fm) ∧ Binds K fd ps [] ∧ g = gloF fm ps.length) ∨
  ∃ (n : Nat) (cs : List D) (I : LamI) (ps : List Str) (fb : ME), d = .clo n cs ∧ LamF Γ P w K mg base k n I ps fb ∧ g = cloF fb ps.length cs
def xCallV (disp : D → Option MF) (i : Nat) (fa : MA) : ME := fun ρ h => match ρ[i]? with
  | some (some d) => match disp d with
    | some g => (fa ρ h).bind fun ds h1 => g ds h1
    | none => .stuck
  | _ => .stuck
section
variable {X : Cx} {Γ : G} {W : WX} {k i : Nat} {a : Str} {p1 pos : Pos} {e : Expr} {es : List Expr} {fa : MA} {disp : D → Option MF}
/-- the callee runs, by what its value stands for -/
theorem run_disp (hJ : ∀ H μ, Γ.J H μ) (hX : CxG X Γ) (DO : DispOk Γ X.prog X.w X.K X.mg X.base k disp) (hr : Room (k + 1) X.A) (tk : Takes X W) {pins : List (Addr × Obj)} {σ : L2.St} {H : Hp} {s : Shared} {Q : VK} {u : Value} {v : V} {d : D} {us : List Value} {vs : List V} {ds : List D} {μ : List Addr} {h : List MO}
    (I : Inv X pins σ H s) (ru : RelV v u) (dd : Den Γ μ H v d) (r : Rel Γ H μ h) (rv : Vals vs us) (dv : Dens Γ μ H vs ds) (q : Good Γ W σ H μ (denE Γ) Q (match disp d with | some g => g ds h | none => .stuck)) : wpAny (model X.prog X.w) X.A (call u us) (EP X pins σ Q) X.xe s := by
  cases ed : disp d with
  | none => rw [ed] at q; exact False.elim q
  | some g =>
    rw [ed] at q
    have q : Good Γ W σ H μ (denE Γ) Q (g ds h) := q
    rcases DO d g ed with ⟨x, f, fd, ps, fm, rfl, hm, hk, F, hb, rfl⟩ | ⟨n, cs, I', ps, fb, rfl, LF, rfl⟩
    · obtain ⟨f', rfl, hm', _⟩ := dd
      rw [hm] at hm'; cases hm'
      obtain rfl : u = Value.ref f := ru
      unfold gloF at q
      split at q
      · rename_i hl
        have hvl : vs.length = ps.length := dv.length.trans hl
        have hul : us.length = ps.length := by rw [← rv.length]; exact hvl
        have := hb s us I.kIn (by rw [List.append_nil]; exact hul)
        rw [List.append_nil] at this
        exact run_fnW (args := ⟨us, []⟩) F hr tk I this rv ⟨hvl, ds, h, μ, dv, r, q⟩
      · exact False.elim q
    · obtain ⟨f, cells, ws, rfl, x, dc⟩ := dd
      obtain rfl : u = Value.ref f := ru
      have hh : h = [] := by
        unfold cloF at q
        split at q
        · rename_i hc
          simp only [Bool.and_eq_true] at hc
          exact List.isEmpty_iff.mp hc.1.1
        · exact False.elim q
      subst hh
      have hμ : μ = [] := List.eq_nil_of_length_eq_zero r.len
      subst hμ
      exact run_clo hJ LF I hr tk x dc r rv dv q
/-- an object that may be called stands there -/
theorem disp_at (DO : DispOk Γ X.prog X.w X.K X.mg X.base k disp) {pins : List (Addr × Obj)} {σ : L2.St} {H : Hp} {s : Shared} {v : V} {d : D} {μ : List Addr} {g : MF} (ed : disp d = some g) (I : Inv X pins σ H s) (dd : Den Γ μ H v d) :
    ∃ f, v = .ref f ∧ (PySem.W.keepIn X.K (.ref f) = true ∨ PySem.W.FnAt f s.heap) := by
  rcases DO d g ed with ⟨x, f, fd, ps, fm, rfl, hm, hk, F, hb, rfl⟩ | ⟨n, cs, I', ps, fb, rfl, LF, rfl⟩
  · obtain ⟨f', rfl, hm', _⟩ := dd
    rw [hm] at hm'; cases hm'
    exact ⟨f, rfl, .inl hk⟩
  · obtain ⟨f, cells, ws, rfl, x, dc⟩ := dd
    obtain ⟨I'', clos, pm, ctv, c', h1, h2, h3, h4, _⟩ := x.obj
    obtain ⟨of1, _⟩ := I.hok f _ h4
    exact ⟨f, rfl, .inr ⟨_, _, _, _, of1⟩⟩
theorem fe_callV (hJ : ∀ H μ, Γ.J H μ) (hX : CxG X Γ) (DO : DispOk Γ X.prog X.w X.K X.mg X.base k disp) (hr : Room (k + 1) X.A) (tk : Takes X W) (hN : X.N[i]? = some a) (hv : Vis X.env.scope a) (ha : FA X Γ W (e :: es) fa)
    (hd : (a == ("__debug__" : Str)) = false := by decide) (hcd : (a == ("__classdict__" : Str)) = false := by decide) (he : starEach (e :: es) X.env = (false, eval e X.env) :: starEach es X.env := by rfl) (hpl : (backTo pos (starEach es X.env)).any (·.1) = false := by rfl) :
    FE X Γ W (.Call (.Name a p1) (e :: es) [] pos) (xCallV disp i fa) := by
  refine ⟨⟨fun pins s σ H Q I q => ?_⟩⟩
  obtain ⟨ρ, h, μ, heq, hrr, q⟩ := q
  unfold xCallV at q
  split at q
  case h_2 => exact False.elim q
  rename_i d ed
  obtain ⟨v, ev, dd⟩ := heq.get ed
  refine wpAny_Call_Name_kw (thn ((pe_var (pos := p1) (i := i) hN hv hd hcd).run pins s σ H (fun v' H1 => v' = v ∧ H1 = H) I ⟨v, ev, rfl, rfl⟩) fun u s1 ⟨v', H1, I1, r1, q1⟩ => ?_)
  obtain ⟨ev', eH⟩ := q1
  subst ev'
  subst eH
  split at q
  case h_2 => exact False.elim q
  rename_i g edp
  have tq : tA Γ W fa σ H1 fun vs H2 => ∃ ds h2 μ2, Ext H1 μ H2 μ2 ∧ Rel Γ H2 μ2 h2 ∧ Dens Γ μ2 H2 vs ds ∧ Good Γ W σ H2 μ2 (denE Γ) Q (match disp d with | some g => g ds h2 | none => .stuck) := by
    refine ⟨ρ, h, μ, heq, hrr, Good.bind q fun ds h2 vs H2 μ2 z2 e2 r2 d2 q2 => ⟨ds, h2, μ2, e2, r2, d2, by rw [edp]; exact q2⟩⟩
  rcases DO d g edp with ⟨x, f, fd, ps, fm, rfl, hm, hk, F, hb, rfl⟩ | ⟨n, cs, I', ps, fb, rfl, LF, rfl⟩
  · obtain ⟨f', rfl, hm', _⟩ := id dd
    rw [hm] at hm'; cases hm'
    obtain rfl : u = Value.ref f := r1
    refine PySem.W.callWith_K (h₀ := X.base) I1.ok.mod.kin hk (thn (ha.ok.run pos pins s1 σ H1 _ I1 tq) fun us s2 ⟨vs, H2, I2, rv, ds, h2, μ2, e2, r2, d2, q2⟩ => ⟨I2.kIn, ?_⟩) he hpl
    exact run_disp hJ hX DO hr tk I2 (v := .ref f) (by exact rfl) (dd.mono e2) r2 rv d2 q2
  · obtain ⟨f, cells, ws, rfl, x, dc⟩ := id dd
    obtain rfl : u = Value.ref f := r1
    have fat : ∀ {s' : Shared} {σ' : L2.St} {H' : Hp} {μ' : List Addr}, Inv X pins σ' H' s' → CloM Γ H' μ' f n cells ws → PySem.W.FnAt f s'.heap := fun {s' σ' H' μ'} I' x' => by
      obtain ⟨I'', clos, pm, ctv, c', h1, h2, h3, h4, _⟩ := x'.obj
      obtain ⟨of1, _⟩ := I'.hok f _ h4
      exact ⟨_, _, _, _, of1⟩
    refine PySem.W.callWith_F (fat I1 x) (thn (ha.ok.run pos pins s1 σ H1 _ I1 tq) fun us s2 ⟨vs, H2, I2, rv, ds, h2, μ2, e2, r2, d2, q2⟩ => ⟨fat I2 (x.mono0 e2.to0), ?_⟩) he hpl
    exact run_disp hJ hX DO hr tk I2 (v := .ref f) (by exact rfl) (dd.mono e2) r2 rv d2 q2
theorem fe_callV0 (hJ : ∀ H μ, Γ.J H μ) (hX : CxG X Γ) (DO : DispOk Γ X.prog X.w X.K X.mg X.base k disp) (hr : Room (k + 1) X.A) (tk : Takes X W) (hN : X.N[i]? = some a) (hv : Vis X.env.scope a)
    (hd : (a == ("__debug__" : Str)) = false := by decide) (hcd : (a == ("__classdict__" : Str)) = false := by decide) :
    FE X Γ W (.Call (.Name a p1) [] [] pos) (xCallV disp i aNil) := by
  refine ⟨⟨fun pins s σ H Q I q => ?_⟩⟩
  obtain ⟨ρ, h, μ, heq, hrr, q⟩ := q
  unfold xCallV at q
  split at q
  case h_2 => exact False.elim q
  rename_i d ed
  obtain ⟨v, ev, dd⟩ := heq.get ed
  refine wpAny_Call_Name_kw (thn ((pe_var (pos := p1) (i := i) hN hv hd hcd).run pins s σ H (fun v' H1 => v' = v ∧ H1 = H) I ⟨v, ev, rfl, rfl⟩) fun u s1 ⟨v', H1, I1, r1, q1⟩ => ?_)
  obtain ⟨ev', eH⟩ := q1
  subst ev'
  subst eH
  split at q
  case h_2 => exact False.elim q
  rename_i g edp
  have q2 : Good Γ W σ H1 μ (denE Γ) Q (match disp d with | some g => g [] h | none => .stuck) := by rw [edp]; exact q
  rcases DO d g edp with ⟨x, f, fd, ps, fm, rfl, hm, hk, F, hb, rfl⟩ | ⟨n, cs, I', ps, fb, rfl, LF, rfl⟩
  · obtain ⟨f', rfl, hm', _⟩ := id dd
    rw [hm] at hm'; cases hm'
    obtain rfl : u = Value.ref f := r1
    exact PySem.W.callWith_K0 I1.kIn hk (run_disp hJ hX DO hr tk I1 (v := .ref f) (by exact rfl) dd hrr .nil (show Dens Γ μ H1 [] [] from rfl) q2)
  · obtain ⟨f, cells, ws, rfl, x, dc⟩ := id dd
    obtain rfl : u = Value.ref f := r1
    obtain ⟨I'', clos, pm, ctv, c', h1, h2, h3, h4, _⟩ := x.obj
    obtain ⟨of1, _⟩ := I1.hok f _ h4
    exact PySem.W.callWith_F0 ⟨_, _, _, _, of1⟩ (run_disp hJ hX DO hr tk I1 (v := .ref f) (by exact rfl) dd hrr .nil (show Dens Γ μ H1 [] [] from rfl) q2)

/-! ### a def called with a lambda that captures -/
/-- the cells are not of the ground, nor frames -/
def CellsNew (X : Cx) : Prop := ∀ (pins : List (Addr × Obj)) (σ : L2.St) (H : Hp) (s : Shared), Inv X pins σ H s → ∀ x c, X.env.cells.lookup x = some c → c ∉ frs X.stack ∧ X.base.get? c = none
theorem cellsNew (hf : ∀ x, X.fn x = true) (hfr : X.env.frame = some X.env.locals) : CellsNew X := fun pins σ H s I x c e => by
  have lt : X.s_0.heap.objs.size ≤ c := I.ok.cab x c (hf x) e
  refine ⟨fun m => ?_, ?_⟩
  · rcases List.mem_cons.mp (I.stkSub c m) with z | z
    · exact I.cne x c e z
    · obtain ⟨_, o, ho, _⟩ := I.ok.funs.mem z
      exact absurd (Nat.lt_of_lt_of_le (Heap.lt_size ho) lt) (Nat.lt_irrefl _)
  · exact Heap.get?_none_of_le (Nat.le_trans I.ok.bsz lt)
def capD (ρ : Rho) : List Nat → Option (List D)
  | [] => some []
  | i :: is => match ρ[i]?, capD ρ is with
    | some (some d), some ds => some (d :: ds)
    | _, _ => none
def xCallC (fm : MF) (n : Nat) (slots : List Nat) (fa : MA) : ME := fun ρ h => (fa ρ h).bind fun ds h1 => match capD ρ slots with
  | some cs => if belowDs 0 cs && belowDs 0 ds then match fm (.clo n cs :: ds) [] with
    | .ok d [] => if plD d then .ok d h1 else .stuck
    | .err e [] => if plDs (e.fs.map (·.2)) then .err e h1 else .stuck
    | _ => .stuck
    else .stuck
  | none => .stuck
theorem capD_ok {σ : L2.St} {ρ : Rho} {H : Hp} {μ : List Addr} (he : EnvOk Γ μ H σ ρ) : ∀ {slots : List Nat} {cs : List D}, capD ρ slots = some cs → ∃ ws, Dens Γ μ H ws cs ∧ ws.length = slots.length ∧ ∀ (j i : Nat) (v : V), slots[j]? = some i → ws[j]? = some v → σ[i]? = some (some v)
  | [], cs, e => by cases e; exact ⟨[], rfl, rfl, fun j i v z => by simp at z⟩
  | i :: is, cs, e => by
    unfold capD at e
    split at e
    · rename_i d ds e1 e2
      cases e
      obtain ⟨v, a, b⟩ := he.get e1
      obtain ⟨ws, c1, c2, c3⟩ := capD_ok he e2
      refine ⟨v :: ws, ⟨v, ws, rfl, b, c1⟩, by rw [List.length_cons, List.length_cons, c2], fun j i' v' z1 z2 => ?_⟩
      cases j with
      | zero => simp at z1 z2; subst z1 z2; exact a
      | succ j => exact c3 j i' v' (by simpa using z1) (by simpa using z2)
    · cases e
theorem nd_snd : ∀ (l : List (Str × Addr)), (l.map (·.1)).Nodup → (∀ p ∈ l, ∀ q ∈ l, p.2 = q.2 → p.1 = q.1) → (l.map (·.2)).Nodup
  | [], _, _ => List.nodup_nil
  | p :: l, nd, h => by
    rw [List.map_cons] at nd ⊢
    obtain ⟨n1, n2⟩ := List.nodup_cons.mp nd
    refine List.nodup_cons.mpr ⟨fun m => n1 ?_, nd_snd l n2 fun p hp q hq => h p (List.mem_cons_of_mem _ hp) q (List.mem_cons_of_mem _ hq)⟩
    obtain ⟨q, hq, e⟩ := List.mem_map.mp m
    have := h q (List.mem_cons_of_mem _ hq) p List.mem_cons_self e
    rw [← this]
    exact List.mem_map_of_mem (f := (·.1)) hq
theorem clo_cells {cells : List (Str × Addr)} {names : List (Str × NameKind)} (hf : ∀ y ∈ names, y.2 = .free → ∃ c, cells.lookup y.1 = some c) {y : Str} {c : Addr} (h : (y, c) ∈ cloFrom cells names []) : cells.lookup y = some c := by
  rcases cloFrom_mem h with hm | ⟨h1, h2⟩
  · cases hm
  · obtain ⟨c1, hc⟩ := hf _ h1 rfl
    have hc : cells.lookup y = some c1 := hc
    rw [h2, hc]; rfl
theorem fe_callC {n m : Nat} {f : Addr} {fd : FuncData} {ps : List Str} {fm : MF} {x : Str} {p lp : Pos} {I : LamI} {slots : List Nat} (hJ : ∀ H μ, Γ.J H μ) (F : FnOk X.prog X.w X.K X.mg X.base (CX X.prog X.w) k f fd ps (spF Γ ps.length fm)) (hr : Room k X.A) (tk : Takes X W) (hg : Gl X x) (hm : X.mg x = some (.ref f)) (hk : PySem.W.keepIn X.K (.ref f) = true)
    (hb : Binds X.K fd ps []) (LT : LamT X Γ) (hl : Γ.lam n = some I) (hq : I.qual = X.env.qual ++ "<lambda>") (hdef : defaultsOf I.params X.env = ([], [])) (hfree : ∀ y ∈ I.scope.names, y.2 = .free → X.env.kindOf y.1 = some .cell ∨ X.env.kindOf y.1 = some .free) (hcn : CellsNew X)
    (hcaps : ∀ cells, (cloFrom cells I.scope.names []).map (·.1) = I.caps) (nd : I.caps.Nodup) (hsl : ∀ (j i : Nat), slots[j]? = some i → X.N[i]? = I.caps[j]?) (hsl2 : slots.length = I.caps.length) (hvis : ∀ y ∈ I.caps, X.env.scope.names.lookup y = some .cell ∨ X.env.scope.names.lookup y = some .free)
    (ha : FA X Γ W es fa) (hla : LenA fa m) (hn : m + 1 = ps.length) (hdb : (x == ("__debug__" : Str)) = false := by decide) (he : starEach (.Lambda I.params I.body I.scope lp :: es) X.env = (false, eval (.Lambda I.params I.body I.scope lp) X.env) :: starEach es X.env := by rfl) (hpl : (backTo pos (starEach es X.env)).any (·.1) = false := by rfl) :
    FE X Γ W (.Call (.Name x p) (.Lambda I.params I.body I.scope lp :: es) [] pos) (xCallC fm n slots fa) := by
  refine ⟨⟨fun pins s σ H Q I0 q => ?_⟩⟩
  obtain ⟨ρ, h, μ, heq, hrr, q⟩ := q
  refine wpAny_Call_Name_kw (ld_glob I0 hg hm ?_ hdb)
  have tq : tCons (tLam Γ X.env.cells n) (tA Γ W fa) σ H fun vs H2 => ∃ g vs' ds h2 μ2, vs = .ref g :: vs' ∧ LamO Γ X.env.cells H2 g n ∧ Rel Γ H2 μ2 h2 ∧ EnvOk Γ μ2 H2 σ ρ ∧ Dens Γ μ2 H2 vs' ds ∧ vs'.length = m ∧ Good Γ W σ H2 μ2 (denE Γ) Q (match capD ρ slots with
      | some cs => if belowDs 0 cs && belowDs 0 ds then match fm (.clo n cs :: ds) [] with
        | .ok d [] => if plD d then .ok d h2 else .stuck
        | .err e [] => if plDs (e.fs.map (·.2)) then .err e h2 else .stuck
        | _ => .stuck
        else .stuck
      | none => .stuck) := by
    refine ⟨hrr.tabs, fun g H1 e1 e2 T1 L hn1 => ?_⟩
    have r1 := lam_rel hrr e1 e2 T1
    have ex1 : Ext H μ H1 μ := lam_ext e1 e2
    refine ⟨ρ, h, μ, heq.mono ex1, r1, Good.bind (Good.mono ex1 q) fun ds h2 vs H2 μ2 z2 ee r2 d2 q2 => ?_⟩
    refine ⟨g, vs, ds, h2, μ2, rfl, ?_, r2, (heq.mono ex1).mono ee, d2, d2.length.trans (hla _ _ _ _ z2), q2⟩
    obtain ⟨I', pm, ctv, c', l1, l2, l3⟩ := L
    exact ⟨I', pm, ctv, c', l1, ee.keep _ _ l2 (r1.no l2 fun vs z => nomatch z) (fun ps z => nomatch z), ee.keep _ _ l3 (r1.no l3 fun vs z => codeO_lst _ _ _ z) (codeO_tbl _ _)⟩
  refine PySem.W.callWith_K (h₀ := X.base) I0.ok.mod.kin hk (thn ((pa_cons (pe_lam LT hl hq hdef hfree) ha.ok he).run pos pins s σ H _ I0 tq) fun us s2 ⟨vs, H2, I2, rv, g0, vs', ds, h2, μ2, ev, L, r2, he2, d2, hvl, q2⟩ => ⟨I2.kIn, ?_⟩) he hpl
  subst ev
  split at q2
  case h_2 => exact False.elim q2
  rename_i cs ecs
  split at q2
  case isFalse => exact False.elim q2
  rename_i hbl
  rw [Bool.and_eq_true] at hbl
  obtain ⟨I', pm, ctv, c', l1, l2, l3⟩ := L
  have : I' = I := by rw [hl] at l1; cases l1; rfl
  subst this
  obtain ⟨ws, dc, hwl, hws⟩ := capD_ok he2 ecs
  -- the cells
  obtain ⟨clos, hclos⟩ : ∃ clos, clos = cloFrom X.env.cells I'.scope.names [] := ⟨_, rfl⟩
  have hnames : clos.map (·.1) = I'.caps := by rw [hclos]; exact hcaps _
  rw [← hclos] at l2
  have hlook : ∀ {y c}, (y, c) ∈ clos → X.env.cells.lookup y = some c := fun {y c} m => clo_cells (fun y hy e => I2.ok.has _ (hfree y hy e)) (by rw [← hclos]; exact m)
  have hlen : clos.length = ws.length := by rw [hwl, hsl2, ← hnames, List.length_map]
  have memc : ∀ {c}, c ∈ clos.map (·.2) → ∃ y, X.env.cells.lookup y = some c := fun {c} m => by
    obtain ⟨pr, hp, e⟩ := List.mem_map.mp m
    obtain ⟨y, c0⟩ := pr
    have e : c0 = c := e
    subst e
    exact ⟨y, hlook hp⟩
  have hnone : ∀ c ∈ clos.map (·.2), H2 c = none := fun c m => by
    obtain ⟨y, e⟩ := memc m
    exact I2.freeC y c e
  have : ∃ g : Addr → Obj, ∀ c ∈ clos.map (·.2), s2.heap.get? c = some (g c) := ⟨fun c => match s2.heap.get? c with | some o => o | none => { cls := .none, data := .fields #[] }, fun c m => by
    obtain ⟨y, e⟩ := memc m
    obtain ⟨v, o, ho, _⟩ := I2.cell y c e
    show s2.heap.get? c = some (match s2.heap.get? c with | some o => o | none => { cls := .none, data := .fields #[] })
    rw [ho]⟩
  obtain ⟨g, hg2⟩ := this
  have hnew := hcn pins σ H2 s2 I2
  have ndc : (clos.map (·.2)).Nodup := by
    have ndn : (clos.map (·.1)).Nodup := by rw [hnames]; exact nd
    exact nd_snd clos ndn fun p hp q hq e => I2.ok.inj _ _ q.2 (by rw [← e]; exact hlook (y := p.1) (c := p.2) hp) (hlook (y := q.1) (c := q.2) hq)
  have hval : ∀ (j : Nat) (c : Addr) (v : V), (clos.map (·.2))[j]? = some c → ws[j]? = some v → ∃ (u : Value), (g c).data = .cell (some u) ∧ RelV v u := fun j c v e1 e2 => by
    have hj : j < clos.length := by
      have := (List.getElem?_eq_some_iff.mp e1).1
      rw [List.length_map] at this; exact this
    have hjs : j < slots.length := by rw [hsl2, ← hnames, List.length_map]; exact hj
    have e3 : slots[j]? = some slots[j] := List.getElem?_eq_getElem hjs
    have e4 := hsl j _ e3
    have e5 : I'.caps[j]? = some clos[j].1 := by rw [← hnames, List.getElem?_map, List.getElem?_eq_getElem hj]; rfl
    rw [e5] at e4
    have e6 := hws j _ v e3 e2
    obtain ⟨m0, hn0, hlk⟩ := I2.loc
    have hk2 := hvis clos[j].1 (List.mem_of_getElem? e5)
    obtain ⟨u, ru, lk⟩ := hlk _ _ v e4 e6 (hk2.elim (fun z => .inr (.inl z)) fun z => .inr (.inr z))
    have ec : clos[j].2 = c := by
      rw [List.getElem?_map, List.getElem?_eq_getElem hj] at e1
      exact Option.some.inj e1
    have a1 := hlook (y := clos[j].1) (c := clos[j].2) (List.getElem_mem hj)
    rw [ec] at a1
    rcases lk with ⟨z, _⟩ | ⟨_, c2, z1, o, z2, z3⟩
    · exfalso
      have z : X.env.scope.names.lookup clos[j].1 = some .local := z
      rcases hk2 with k2 | k2 <;> rw [k2] at z <;> cases z
    · rw [a1] at z1
      cases z1
      rw [hg2 c (List.mem_of_getElem? e1)] at z2
      cases z2
      exact ⟨u, z3, ru⟩
  have nf : ∀ c ∈ clos.map (·.2), c ∉ frs X.stack := fun c m => by
    obtain ⟨y, e⟩ := memc m
    exact (hnew y c e).1
  have out : ∀ {a u}, H2 a = some u → addC H2 (clos.map (·.2)) g a = some u := fun {a u} z => by
    rw [addC_out fun m => by rw [hnone a m] at z; cases z]; exact z
  have up0 : Ext0 H2 [] (addC H2 (clos.map (·.2)) g) [] := ⟨List.prefix_refl _, fun a u z _ _ _ => out z, fun a ps z _ => ⟨ps, out z⟩, fun _ m => .inl m⟩
  have e0 : Env0 X.prog X.w X.K X.mg X.base X.A X.stack s2 (addC H2 (clos.map (·.2)) g) := by
    have e := I2.env0
    refine ⟨e.frames, e.mod, fun b o q => ⟨(e.bs b o q).1, ?_⟩, e.bsz, e.funs, fun b m => ?_, HOk.addC e.hok hnone hg2, e.bare⟩
    · rw [addC_out fun m => by
        obtain ⟨y, z⟩ := memc m
        rw [(hnew y b z).2] at q; cases q]
      exact (e.bs b o q).2
    · rw [addC_out fun m2 => nf b m2 m]
      exact e.frf b m
  have ds0 : Dens Γ [] H2 vs' ds := d2.takeN (n := 0) (Nat.zero_le _) hbl.2
  have dc0 : Dens Γ [] H2 ws cs := dc.takeN (n := 0) (Nat.zero_le _) hbl.1
  have hrel : Rel Γ (addC H2 (clos.map (·.2)) g) [] [] := ⟨rfl, List.nodup_nil, fun i a o z _ => by simp at z, tabs_same (same_add hnone) r2.tabs, hJ _ _⟩
  have dclo : Den Γ [] (addC H2 (clos.map (·.2)) g) (.ref g0) (.clo n cs) := by
    refine ⟨g0, clos.map (·.2), ws, rfl, ⟨⟨I', clos, pm, ctv, c', hl, hnames, rfl, out l2, out l3, fun m => (by rw [hnone c' m] at l3; cases l3), (fun m => nomatch m)⟩, ⟨(fun m => nomatch m), fun m => (by rw [hnone g0 m] at l2; cases l2)⟩, ndc, (fun c _ m => nomatch m), by rw [List.length_map]; exact hlen, fun j c v e1 e2 => ?_⟩, ?_⟩
    · obtain ⟨u, z1, z2⟩ := hval j c v e1 e2
      exact ⟨g c, u, addC_in (List.mem_of_getElem? e1), z1, z2⟩
    · rw [hide_add hnone]
      exact dc0
  have back : ∀ {H' : Hp} {μ' : List Addr}, Ext (addC H2 (clos.map (·.2)) g) [] H' μ' → LamX.Tabs Γ.T H' → Ext H2 μ2 (hideC H' (clos.map (·.2))) μ2 ∧ Rel Γ (hideC H' (clos.map (·.2))) μ2 h2 ∧ (∀ c ∈ clos.map (·.2), ∀ u, H' c = some u → ∃ o, u = .frz o (.own 0)) ∧ ∀ a, (∃ u, H' a = some u ∧ ∀ xs, u ≠ .lst xs) → a ∉ μ2 := fun {H' μ'} e t => by
    have no : ∀ {a u}, H2 a = some u → a ∉ clos.map (·.2) := fun {a u} z m => by rw [hnone a m] at z; cases z
    have fz : ∀ c ∈ clos.map (·.2), ∀ u, H' c = some u → ∃ o, u = .frz o (.own 0) := fun c m u z => by
      have := e.keep c _ (addC_in m) (fun z => nomatch z) (fun ps z => nomatch z)
      rw [z] at this; cases this
      exact ⟨_, rfl⟩
    have ex : Ext H2 μ2 (hideC H' (clos.map (·.2))) μ2 := {
      pre := List.prefix_refl _
      keep := fun a u z _ t => by
        rw [hideC_out (no z)]
        exact e.keep a u (out z) (fun z => nomatch z) t
      keepT := fun a ps z _ => by
        rw [hideC_out (no z)]
        exact e.keepT a ps (out z) (fun z => nomatch z)
      new := fun _ m => .inl m }
    refine ⟨ex, r2.grow ex (fun a m => ?_) (tabs_same (same_hide fz) t), fz, fun a ⟨u, z, nl⟩ m => ?_⟩
    · obtain ⟨xs, z⟩ := r2.mem m
      rw [z, hideC_out (no z)]
      exact e.keep a _ (out z) (fun z => nomatch z) (fun ps z => nomatch z)
    · obtain ⟨xs, z2⟩ := r2.mem m
      have := e.keep a _ (out z2) (fun z => nomatch z) (fun ps z => nomatch z)
      rw [z] at this; cases this
      exact nl xs rfl
  have sp : spF Γ ps.length fm (.ref g0 :: vs') (addC H2 (clos.map (·.2)) g) (fun v H' => Q v (hideC H' (clos.map (·.2)))) (fun c d H' => W c d σ (hideC H' (clos.map (·.2)))) := by
    refine ⟨by rw [List.length_cons, hvl]; exact hn, .clo n cs :: ds, [], [], ⟨.ref g0, vs', rfl, dclo, ds0.mono0 up0⟩, hrel, ?_⟩
    cases ef : fm (.clo n cs :: ds) [] with
    | ok d h' =>
      rw [ef] at q2
      cases h' with
      | cons _ _ => exact False.elim q2
      | nil =>
        simp only at q2
        split at q2
        · rename_i hpd
          intro v H' μ' e r' dd
          obtain ⟨b1, b2, b3, b4⟩ := back e r'.tabs
          exact q2 v _ μ2 b1 b2 (Den.same (same_hide b3) b4 hpd dd)
        · exact False.elim q2
    | err ex h' =>
      rw [ef] at q2
      cases h' with
      | cons _ _ => exact False.elim q2
      | nil =>
        simp only at q2
        split at q2
        · rename_i hpd
          intro cls dd H' μ' e r' xx
          obtain ⟨b1, b2, b3, b4⟩ := back e r'.tabs
          refine q2 cls dd _ μ2 b1 b2 ?_
          obtain ⟨C, dx, vs3, z1, z2, z3, z4, z5⟩ := xx
          refine ⟨C, dx, vs3, z1, z2, z3, ?_, Dens.same (same_hide b3) b4 hpd z5⟩
          rw [hideC_out fun m => by obtain ⟨o, z⟩ := b3 dx m _ z4; cases z]; exact z4
        · exact False.elim q2
    | stuck => rw [ef] at q2; exact False.elim q2
  have hul : us.length = ps.length := by
    rw [← rv.length, List.length_cons, hvl]; exact hn
  have hbt := hb s2 us I2.kIn (by rw [List.append_nil]; exact hul)
  rw [List.append_nil] at hbt
  refine wpAny_call (codeAny_mono (F.run X.A X.stack s2 _ ⟨us, []⟩ us (.ref g0 :: vs') _ _ hr e0 hbt rv sp) fun r s' hq => ?_)
  cases r with
  | error e => exact tk e s' (XE.of_call (E := fun cl d H1 => W cl d σ H1) I2 (fun _ _ _ h => h) (CX.hide hq (fun cl d H' z => z) hnone hg2 nf))
  | ok fl =>
    cases fl with
    | ret u => exact I2.after (CE.hide hq (fun v H' z => z) hnone hg2 nf)
    | next => exact False.elim hq
    | brk => exact False.elim hq
    | cont => exact False.elim hq
end
end MP
end
section
set_option Elab.async false
set_option linter.all false
set_option maxRecDepth 100000
set_option maxHeartbeats 2000000
/-! M19: methods of lists; enumerate(text). -/
namespace MP
open PySem PySem.Spec PyProof.Rows L2

/-! ### methods that write a list -/
def xMt (g : List D → List D → Option (D × List D)) (fo : ME) (fa : MA) : ME := fun ρ h => (fo ρ h).bind fun o h1 => match o with
  | .ref i => (fa ρ h1).bind fun ds h2 => match hl h2 i with
    | some es => match g es ds with
      | some (d, es') => .ok d (h2.set i (.lst es'))
      | none => .stuck
    | none => .stuck
  | _ => .stuck
def MtOk (Γ : G) (r : V → List V → Hp → VK → Prop) (g : List D → List D → Option (D × List D)) : Prop := ∀ (μ : List Addr) (H : Hp) (l : Addr) (vs ws : List V) (es ds : List D) (d : D) (es' : List D), H l = some (.lst vs) → Dens Γ μ H vs es → Dens Γ μ H ws ds → g es ds = some (d, es') →
  ∃ v vs', Den Γ μ H v d ∧ Dens Γ μ H vs' es' ∧ ∀ Q : VK, Q v (upd H l (.lst vs')) → r (.ref l) ws H Q
section
variable {X : Cx} {Γ : G} {W : WX} {o e : Expr} {es : List Expr} {name : Str} {id : String} {r : V → List V → Hp → VK → Prop} {g : List D → List D → Option (D × List D)} {fo : ME} {fa : MA} {apos cpos : Pos}
theorem ty_ref {H : Hp} {μ : List Addr} {h : List MO} (hX : CxG X Γ) (rl : Rel Γ H μ h) {i : Nat} {v : V} (d : Den Γ μ H v (.ref i)) : tyV X.K "list" v H := by
  obtain ⟨a, rfl, q⟩ := d
  obtain ⟨vs, e⟩ := rl.mem (List.mem_of_getElem? q)
  exact .inl ⟨rfl, vs, SqL.of e⟩
theorem mt_run (hX : CxG X Γ) (hg : MtOk Γ r g) {σ : L2.St} {H : Hp} {Q : VK} (q : tE Γ W (xMt g fo fa) σ H Q) : tE Γ W fo σ H fun x H1 => tyV X.K "list" x H1 ∧ tA Γ W fa σ H1 fun xs H2 => r x xs H2 Q := by
  obtain ⟨ρ, h, μ, he, hr, q⟩ := q
  refine ⟨ρ, h, μ, he, hr, Good.bind q fun o h1 v H1 μ1 z0 e1 r1 d1 q1 => ?_⟩
  split at q1
  case h_2 => exact False.elim q1
  rename_i i
  refine ⟨ty_ref hX r1 d1, ρ, h1, μ1, he.mono e1, r1, Good.bind q1 fun ds h2 ws H2 μ2 z9 e2 r2 d2 q2 => ?_⟩
  split at q2
  case h_2 => exact False.elim q2
  rename_i es' eh
  split at q2
  case h_2 => exact False.elim q2
  rename_i d es2 eg
  obtain ⟨a, rfl, hm⟩ := d1.mono e2
  obtain ⟨vs, z1, z2⟩ := r2.ob i a _ hm (hl_iff.mp eh)
  obtain ⟨v, vs', y1, y2, y3⟩ := hg μ2 H2 a vs ws es' ds d es2 z1 z2 d2 eg
  have ex : Ext H2 μ2 (upd H2 a (.lst vs')) μ2 := ext_write (List.mem_of_getElem? hm)
  exact y3 Q (q2 v _ μ2 ex (rel_write r2 hm y2) (y1.mono ex))
theorem fe_mt (hX : CxG X Γ) (pa : PlainAttrs "list") (slot : Slot "list" name id) (hty : typeOf (.builtin id) = pure (.type "method_descriptor")) (hm : MtR X id r) (hg : MtOk Γ r g) (ho : FE X Γ W o fo) (ha : FA X Γ W (e :: es) fa)
    (hbase : attributeBase o name X.env (eval o X.env) = eval o X.env := by rfl)
    (hfew : ((backTo cpos (starEach (e :: es) X.env)).all (fun x => !x.1) && (backToKw cpos (keywordEach [] X.env)).all (fun x => x.1.isSome)
      && decide ((e :: es).length + ([] : List Keyword).length + (if ([] : List Keyword).isEmpty then 0 else 1) < 30)) = true := by rfl)
    (hline : (apos.endLine == cpos.line) = true := by rfl) (hs : starEach (e :: es) X.env = (false, eval e X.env) :: starEach es X.env := by rfl) (hplain : (backTo cpos (starEach es X.env)).any (·.1) = false := by rfl) :
    FE X Γ W (.Call (.Attribute o name apos) (e :: es) [] cpos) (xMt g fo fa) :=
  ⟨(pe_bm pa slot hty hm ho.ok ha.ok hbase hfew hline hs hplain).imp fun σ H Q q => mt_run hX hg q⟩
theorem fe_mt0 (hX : CxG X Γ) (pa : PlainAttrs "list") (slot : Slot "list" name id) (hty : typeOf (.builtin id) = pure (.type "method_descriptor")) (hm : MtR X id r) (hg : MtOk Γ r g) (ho : FE X Γ W o fo)
    (hbase : attributeBase o name X.env (eval o X.env) = eval o X.env := by rfl) (hline : (apos.endLine == cpos.line) = true := by rfl) : FE X Γ W (.Call (.Attribute o name apos) [] [] cpos) (xMt g fo aNil) := by
  refine ⟨(pe_bm0 pa slot hty hm ho.ok hbase hline).imp fun σ H Q q => ?_⟩
  obtain ⟨ρ, h, μ, he, hr, q⟩ := mt_run hX hg q
  refine ⟨ρ, h, μ, he, hr, ?_⟩
  revert q
  cases fo ρ h with
  | ok a h1 =>
    intro q v H1 μ1 e1 r1 d1
    obtain ⟨t, ρ2, h2, μ2, he2, r2, q2⟩ := q v H1 μ1 e1 r1 d1
    exact ⟨t, q2 [] H1 μ2 (Ext.refl _ _) r2 rfl⟩
  | err ex h1 => exact fun q => q
  | stuck => exact fun q => q
end
/-! the methods -/
def gAppend : List D → List D → Option (D × List D) := fun es ds => match ds with
  | [d] => if es.length < LINE then some (.non, es ++ [d]) else none
  | _ => none
theorem ok_append {Γ : G} : MtOk Γ rAppend gAppend := by
  intro μ H l vs ws es ds d es' hl k1 k2 e
  unfold gAppend at e
  split at e
  · rename_i d0
    split at e
    · rename_i hn
      cases e
      obtain ⟨w, rfl, k3⟩ := dens1 k2
      exact ⟨.non, vs ++ [w], rfl, k1.append (Dens.one k3), fun Q q => ⟨l, vs, w, rfl, rfl, hl, by rw [line_eq, k1.length]; exact hn, q⟩⟩
    · cases e
  · cases e
def gPop : List D → List D → Option (D × List D) := fun es ds => match ds with
  | [] => match es[es.length - 1]? with
    | some d => some (d, es.dropLast)
    | none => none
  | _ => none
theorem Dens.dropLast {Γ : G} {μ : List Addr} {H : Hp} {ds : List D} {vs : List V} (k : Dens Γ μ H vs ds) : Dens Γ μ H vs.dropLast ds.dropLast := by
  rw [List.dropLast_eq_take, List.dropLast_eq_take, k.length]
  exact k.take _
theorem ok_pop {Γ : G} : MtOk Γ rPop gPop := by
  intro μ H l vs ws es ds d es' hl k1 k2 e
  unfold gPop at e
  split at e
  · split at e
    · rename_i d0 ed
      cases e
      obtain ⟨v, ev, dv⟩ := k1.get ed
      have : ws = [] := k2
      subst this
      exact ⟨v, vs.dropLast, dv, k1.dropLast, fun Q q => ⟨l, vs, v, rfl, rfl, hl, by rw [k1.length]; exact ev, q⟩⟩
    · cases e
  · cases e
def gPopAt : List D → List D → Option (D × List D) := fun es ds => match ds with
  | [.int i] => if -(2 ^ 40) ≤ i ∧ i < 2 ^ 40 then match seqIndex? i es.length with
    | some k => match es[k]? with
      | some d => some (d, es.eraseIdx k)
      | none => none
    | none => none
    else none
  | _ => none
theorem Dens.erase {Γ : G} {μ : List Addr} {H : Hp} : ∀ {ds : List D} {vs : List V} (k : Nat), Dens Γ μ H vs ds → Dens Γ μ H (vs.eraseIdx k) (ds.eraseIdx k)
  | [], _, k, h => by rw [show _ = [] from h]; exact rfl
  | d :: ds, _, 0, h => by
    obtain ⟨v, r, rfl, q, t⟩ := h
    exact t
  | d :: ds, _, k + 1, h => by
    obtain ⟨v, r, rfl, q, t⟩ := h
    exact ⟨v, r.eraseIdx k, rfl, q, Dens.erase k t⟩
theorem ok_popAt {Γ : G} : MtOk Γ rPopAt gPopAt := by
  intro μ H l vs ws es ds d es' hl k1 k2 e
  unfold gPopAt at e
  split at e
  · rename_i i
    split at e
    · rename_i hb
      split at e
      · rename_i k ek
        split at e
        · rename_i d0 ed
          cases e
          obtain ⟨w, rfl, k3⟩ := dens1 k2
          cases k3
          obtain ⟨v, ev, dv⟩ := k1.get ed
          exact ⟨v, vs.eraseIdx k, dv, k1.erase k, fun Q q => ⟨l, vs, i, k, v, rfl, rfl, hl, by omega, by omega, by rw [k1.length]; exact ek, ev, q⟩⟩
        · cases e
      · cases e
    · cases e
  · cases e

/-! ### enumerate(text) -/
def Ites (x : Str) : It := ⟨fun i _ => i < x.cps.size, fun i H v H' => ∃ T c, v = .ref T ∧ H T = none ∧ H' = upd H T (.tup [.int (i : Nat), .str ⟨#[c]⟩]) ∧ x.cps[i]? = some c, fun i _ => x.cps.size ≤ i⟩
theorem turn_enumS {P : Program} {w : World} {K : PySem.W.Frag} {elts : List Expr} {kk : Nat} {tpos : Pos} (x : Str) (t : Tok) (e it : Addr) :
    Turn P w K (.Tuple elts kk tpos) (Ites x) [e, it] e (fun i h => (∃ old, IsEnum h e it ((i : Nat) : Int) old) ∧ h.IsStrIter it (strIterType x) x t i ∧ e ≠ it ∧ i ≤ x.cps.size) where
  mem := by simp
  obj := fun i h st b hb => by
    obtain ⟨⟨old, he⟩, ⟨o, ho, hc, hd⟩, _⟩ := st
    have e' : b = e ∨ b = it := by simpa using hb
    rcases e' with z | z
    · rw [z]; exact ⟨_, he, fun v q => nomatch q⟩
    · rw [z]; exact ⟨o, ho, fun v q => by rw [hd] at q; cases q⟩
  keep := fun i h h' st k => let ⟨⟨old, he⟩, ⟨o, ho, r⟩, hne⟩ := st; ⟨⟨old, k e (by simp) _ he⟩, ⟨o, k it (by simp) o ho, r⟩, hne⟩
  item := by
    intro X hP hw hK hc i pins s σ H E I hf st hg
    subst hP hw hK
    obtain ⟨⟨old, he⟩, hit, hne, hle⟩ := st
    have hel : e < s.heap.objs.size := Heap.lt_size he
    have hil : it < s.heap.objs.size := by obtain ⟨_, q, _⟩ := hit; exact Heap.lt_size q
    have Dr : Draws X.prog X.w X.A.in1 it [it] x.cps.size (fun i v => ∃ c u, x.cps[i]? = some c ∧ v = .str ⟨#[c]⟩ u) (fun i h => h.IsStrIter it (strIterType x) x t i) := by
      unfold strIterType
      split
      · exact Draws.strAscii (A := X.A.in1) (I.ok.hd hc) it x t
      · exact Draws.strWide (A := X.A.in1) (I.ok.hd hc) it x t
    refine wpAny_pyNext_enum_itemD Dr he hit hg hne (by simpa using hne) fun u h' tk hP ho hit' hT hsz hk => ?_
    obtain ⟨c, tu, hcx, rfl⟩ := hP
    refine ⟨_, rfl, wpAny_letOwnedTupleGo_enum (s := { s with heap := h', toks := tk + 1 }) ho fun h'' he' sb => ?_⟩
    have hT2 : h''.get? s.heap.objs.size = some { cls := .type "tuple", data := .seq #[.int i tk, .str ⟨#[c]⟩ tu] } := (sb.2 _ (Nat.ne_of_gt hel)).trans hT
    have new : ObjOk X.prog X.w (upd H s.heap.objs.size (.tup [.int (i : Nat), .str ⟨#[c]⟩])) h'' s.heap.objs.size (.tup [.int (i : Nat), .str ⟨#[c]⟩]) :=
      ⟨by show 2 ≤ sizeLine; decide, [.int i tk, .str ⟨#[c]⟩ tu], .cons ⟨_, rfl⟩ (.cons ⟨_, rfl⟩ .nil), ⟨_, hT2, rfl, _, rfl⟩⟩
    have I1 : Inv X pins σ (upd H s.heap.objs.size (.tup [.int (i : Nat), .str ⟨#[c]⟩])) { s with heap := h'', toks := tk + 1 } :=
      I.turnedNew (ch := [e, it]) (fun b ob hb q => (sb.2 b (fun z => hb (by simp [z]))).trans (hk b ob (fun z => hb (by simp [z])) (fun z => hb (by simp [z])) q)) hf (Nat.le_refl _) new
    refine ⟨.ref s.heap.objs.size, _, I1, rfl, ⟨_, c, rfl, I.hok.fresh (Nat.le_refl _), rfl, hcx⟩, ⟨⟨.str ⟨#[c]⟩ tu, ?_⟩, ?_, hne, hg⟩, fun b hb => ?_⟩
    · have e1 : ((i + 1 : Nat) : Int) = (i : Int) + 1 := by omega
      rw [e1]; exact he'
    · obtain ⟨o, q, r⟩ := hit'
      exact ⟨o, (sb.2 it (Ne.symm hne)).trans q, r⟩
    · have hb' : b < s.heap.objs.size := by
        have e' : b = e ∨ b = it := by simpa using hb
        rcases e' with z | z
        · rw [z]; exact hel
        · rw [z]; exact hil
      rw [upd_ne (Nat.ne_of_lt hb')]
      exact (hf b hb).1
  done := by
    intro X hP hw hK hc i pins s σ H E I hf st hg
    subst hP hw hK
    obtain ⟨⟨old, he⟩, hit, hne, hle⟩ := st
    obtain ⟨f0, f1, f2, f3, f4, f5⟩ := hf it (by simp)
    have ei : i = x.cps.size := Nat.le_antisymm hle hg
    subst ei
    have Dr : Draws X.prog X.w X.A.in1 it [it] x.cps.size (fun i v => ∃ c u, x.cps[i]? = some c ∧ v = .str ⟨#[c]⟩ u) (fun i h => h.IsStrIter it (strIterType x) x t i) := by
      unfold strIterType
      split
      · exact Draws.strAscii (A := X.A.in1) (I.ok.hd hc) it x t
      · exact Draws.strWide (A := X.A.in1) (I.ok.hd hc) it x t
    exact wpAny_pyNext_enum_endD Dr he hit fun h' eb => ⟨rfl, I.turned (t' := s.toks) (fun b o hb q => eb b o hb q) f0 f1 f3 f4 f5⟩
  self := fun A i s Q E st h => let ⟨⟨_, he⟩, _⟩ := st; wpAny_pyIter_enum he h
def iEnumS (ta : TA) : TI := fun σ H R => ta σ H fun vs H1 => ∃ x, vs = [.str x] ∧ R (Ites x) H1
theorem pi_enumS {X : Cx} {e : Expr} {ta : TA} {p pos tpos : Pos} {elts : List Expr} {kk : Nat} (hg : Gl X "enumerate") (hm : X.mg "enumerate" = none) (ha : PA X [e] ta) (hs : starEach [e] X.env = [(false, eval e X.env)] := by rfl) :
    PI X (.Tuple elts kk tpos) (.Call (.Name "enumerate" p) [e] [] pos) (iEnumS ta) := by
  refine ⟨fun pins s σ H R I h => ?_⟩
  refine Call_ (ld_blt I hg hm boot_enumerate (PyProof.Rows.callWith_type1 (thn (ha.run pos pins s σ H _ I h) fun us s1 ⟨vs, H1, I1, r1, q1⟩ => ?_) hs rfl))
  obtain ⟨x, ex, q⟩ := q1
  subst ex
  cases r1 with
  | cons r rr =>
    cases rr
    obtain ⟨t, rfl⟩ := r
    refine call_enumerate_str fun h' he hit hsz hk => wpAny_pyIter_enum he ?_
    have I2 : Inv X pins σ H1 { s1 with heap := h' } := I1.kept (t' := s1.toks) hk
    refine ⟨s1.heap.objs.size + 1, [s1.heap.objs.size + 1, s1.heap.objs.size], _, _, H1, rfl, I2, turn_enumS x t (s1.heap.objs.size + 1) s1.heap.objs.size, ⟨⟨.none, he⟩, hit, Nat.succ_ne_self _, Nat.zero_le _⟩, fun b hb => ?_, q⟩
    have e' : b = s1.heap.objs.size + 1 ∨ b = s1.heap.objs.size := by simpa using hb
    have hle : s1.heap.objs.size ≤ b := by
      rcases e' with z | z
      · rw [z]; exact Nat.le_add_right _ _
      · rw [z]; exact Nat.le_refl _
    exact I1.fpOk hle (I1.hok.fresh hle)
def xEnumS (f : MA) : MI := fun ρ h => (f ρ h).bind fun ds h1 => match ds with
  | [.str l] => .ok ⟨enumD 0 (l.map fun c => .str [c]), none⟩ h1
  | _ => .stuck
theorem fi_enumS {X : Cx} {Γ : G} {W : WX} {e : Expr} {f : MA} {p pos tpos : Pos} {elts : List Expr} {kk : Nat} (hg : Gl X "enumerate") (hm : X.mg "enumerate" = none) (ha : FA X Γ W [e] f) (hs : starEach [e] X.env = [(false, eval e X.env)] := by rfl) :
    FI X Γ W (.Tuple elts kk tpos) (.Call (.Name "enumerate" p) [e] [] pos) (xEnumS f) := by
  refine ⟨PIimp (pi_enumS hg hm ha.ok hs) fun σ H R q => ?_⟩
  obtain ⟨ρ, h, μ, he, hr, q⟩ := q
  refine ⟨ρ, h, μ, he, hr, Good.bind q fun ds h1 vs H1 μ1 z1 e1 r1 d1 q1 => ?_⟩
  split at q1
  · rename_i l
    obtain ⟨v, rfl, k1⟩ := dens1 d1
    cases (show v = _ from k1)
    refine ⟨S l, rfl, q1 _ _ _ (Ext.refl _ _) r1 ?_⟩
    intro H μ h e r c
    have hsz : (S l).cps.size = l.length := by simp
    refine ⟨fun i d ed => ?_, fun i hi => by show (S l).cps.size ≤ i; rw [hsz]; rw [enumD_len] at hi; simpa using hi⟩
    have ed' : (enumD 0 (l.map fun c => D.str [c]))[i]? = some d := ed
    rw [enumD_get, List.getElem?_map] at ed'
    cases eg : l[i]? with
    | none => rw [eg] at ed'; cases ed'
    | some c0 =>
      rw [eg] at ed'
      cases ed'
      refine ⟨by show i < (S l).cps.size; rw [hsz]; exact (List.getElem?_eq_some_iff.mp eg).1, fun x H' y => ?_⟩
      obtain ⟨T, c, rfl, hT, rfl, hcx⟩ := y
      have : c = c0 := by
        have : l[i]? = some c := by simpa using hcx
        rw [eg] at this; cases this; rfl
      subst this
      refine ⟨Ext.laid hT, r.laid hT, T, _, rfl, .inl ⟨r.fresh hT, .inl upd_same⟩, _, _, rfl, ?_, _, _, rfl, rfl, rfl⟩
      show V.int _ = V.int _
      rw [Nat.zero_add]
  · exact False.elim q1
end MP
end
section
set_option Elab.async false
set_option linter.all false
set_option maxRecDepth 100000
set_option maxHeartbeats 2000000
/-! M20: the end of a law; the head's facts. -/
namespace MP
open PySem PySem.Spec PyProof.Rows L2 LamX

/-- a list that is known, or of the module -/
def LsM (K : PySem.W.Frag) (H : Hp) (a : Addr) (vs : List V) : Prop := (∃ o, H a = some (.frz o (.lst vs))) ∨ ∃ (its : Array Value) (n : Nat), K.lookup a = some { cls := .type "list", data := .seq its n } ∧ its.size ≤ sizeLine ∧ Vals vs its.toList
/-- LamX.law_callTs, the script known as it stands -/
theorem law_callM {P : Program} {w : World} {K : PySem.W.Frag} {mg mb : Str → Option Value} {CX : CXT} {k : Nat} {fa a : Addr} {cs : List (Addr × Addr)} {fd : FuncData} {x : Str} {sp : Sp} {s₁ : Shared} {vs : List Value} {ns : List Int}
    (KX : K.In s₁.heap) (hns : s₁.heap.Ns mainGlobals mg) (hb : s₁.heap.Ns builtinsNs mb) (hbb : ∀ x : Str, x ≠ "__name__" → mb x = bootBuiltins x) (hlim : s₁.heap.NoLimit) (hg : s₁.gens = #[])
    (hT : ∀ p ∈ cs, s₁.heap.get? p.2 = some { cls := .none, data := .fields #[] }) (nT : ∀ p ∈ cs, K.lookup p.2 = none) (C : ∀ p ∈ cs, PySem.W.CodeHd s₁.heap p.1 p.2)
    (hbm : ∃ (bm : Addr) (ob : Obj), mg "__builtins__" = some (.ref bm) ∧ bm ≠ builtinsNs ∧ s₁.heap.get? bm = some ob ∧ ob.cls = .type "module" ∧ ob.dict = some builtinsNs ∧ ob.data = .plain)
    (ha : s₁.heap.get? a = some { cls := .type "list", data := .seq vs.toArray }) (hi : IntsAre vs ns) (hl : ns.length ≤ sizeLine) (hr : Room k callerA)
    (F : ∀ base : Heap, K.In base → base.Ns mainGlobals mg → (∀ p ∈ cs, TabB base mg p.1 p.2) → FnOk P w K mg base CX k fa fd [x] sp) (hbind : ∀ (s : Shared) (u : Value), BindsTo s fd ⟨[u], []⟩ [(x, u)])
    (hsp : ∀ H : Hp, (∀ p ∈ cs, H p.2 = some (.tbl #[])) → LsM K H a (ns.map V.int) → sp [.ref a] H (fun v _ => v = .bl true) fun _ _ _ => False)
    (hCX : ∀ H e s', CX [] H s₁ (fun _ _ _ => False) e s' → False) :
    codeAny (model P w) callerA (.call (.ref fa) ⟨[.ref a], []⟩) (fun r s' => r = .ok (.ret (.bool true)) ∧ OldK s₁.heap s'.heap ∧ s'.os = s₁.os ∧ AllBare s'.gens) s₁ := by
  have rv := vals_ints hi
  have lenV := hi.length
  have isT : ∀ b : Addr, b ∈ cs.map (·.2) → s₁.heap.get? b = some { cls := .none, data := .fields #[] } := fun b hb => by
    obtain ⟨p, hp, e⟩ := List.mem_map.mp hb
    rw [← e]
    exact hT p hp
  have aT : a ∉ cs.map (·.2) := fun z => by
    have q := isT a z
    rw [ha] at q
    have z' : Data.seq vs.toArray _ = Data.fields #[] := congrArg Obj.data (Option.some.inj q)
    cases z'
  have memT : ∀ p ∈ cs, p.2 ∈ cs.map (·.2) := fun p hp => List.mem_map.mpr ⟨p, hp, rfl⟩
  -- from an abstract heap in which nothing but the script and the tables may be tracked
  have core : ∀ H : Hp, (∀ p ∈ cs, H p.2 = some (.tbl #[])) → (∀ b, H b = none ∨ b ∈ cs.map (·.2) ∨ ∃ o xs, H b = some (.frz o (.lst xs))) → LsM K H a (ns.map V.int) → HOk P w H s₁.heap → (∀ b, H b ≠ none → b = a ∨ b ∈ cs.map (·.2)) → (H a ≠ none → K.lookup a = none) →
      codeAny (model P w) callerA (.call (.ref fa) ⟨[.ref a], []⟩) (fun r s' => r = .ok (.ret (.bool true)) ∧ OldK s₁.heap s'.heap ∧ s'.os = s₁.os ∧ AllBare s'.gens) s₁ := by
    intro H hH hO hS hok hA hK
    have base_of : ∀ {b : Addr} {o : Obj}, s₁.heap.get? b = some o → H b = none → (hidT s₁.heap H).get? b = some o := fun e n => hidT_get e n
    have noD : ∀ {b : Addr} {o : Obj}, s₁.heap.get? b = some o → (∀ vs n, o.data ≠ .seq vs n) → o.data ≠ .fields #[] → H b = none := fun {b o} e h1 h2 => by
      cases q : H b with
      | none => rfl
      | some u =>
        rcases hA b (by rw [q]; simp) with e' | e'
        · rw [e', ha] at e
          cases e
          exact (h1 _ _ rfl).elim
        · rw [isT b e'] at e
          cases e
          exact (h2 rfl).elim
    have noA : ∀ {b : Addr} {o : Obj} {es : Array DictEntry} {ep : Nat}, s₁.heap.get? b = some o → o.data = .dict es ep → H b = none := fun {b o es ep} e d => by
      refine noD e (fun vs n z => ?_) fun z => ?_
      · rw [d] at z
        cases z
      · rw [d] at z
        cases z
    have nsK : ∀ {b : Addr} {m : Str → Option Value}, s₁.heap.Ns b m → (hidT s₁.heap H).Ns b m := fun {b m} ⟨o, es, ep, e, d, r⟩ => ⟨o, es, ep, base_of e (noA e d), d, r⟩
    have hKb : K.In (hidT s₁.heap H) := fun b o e => base_of (KX b o e) (by
      cases q : H b with
      | none => rfl
      | some u =>
        rcases hA b (by rw [q]; simp) with e' | e'
        · rw [e'] at e q
          rw [hK (by rw [q]; simp)] at e
          cases e
        · obtain ⟨p, hp, ep⟩ := List.mem_map.mp e'
          rw [← ep, nT p hp] at e
          cases e)
    have hM : L2.Mod K mg (hidT s₁.heap H) := ⟨hKb, nsK hns, ⟨mb, nsK hb, hbb⟩, let ⟨mc, h1, h2⟩ := hlim; ⟨mc, nsK h1, h2⟩⟩
    have TB : ∀ p ∈ cs, TabB (hidT s₁.heap H) mg p.1 p.2 := fun p hp => by
      have hTp := hT p hp
      refine ⟨?_, ?_, fun z => ?_⟩
      · obtain ⟨o, us, file, tf, flags, tg, inF, text, tt, e1, r1, r2, r3, r4, r5, r6, r7, r8, hne⟩ := C p hp
        refine ⟨o, us, file, tf, flags, tg, inF, text, tt, base_of e1 (noD e1 (fun vs n z => ?_) fun z => ?_), r1, r2, r3, r4, r5, r6, r7, r8, hne⟩
        · rw [r2] at z
          cases z
        · rw [r2] at z
          cases z
          simp at r3
      · obtain ⟨bm, ob, b1, b2, b3, b4, b5, b6⟩ := hbm
        have nG : bm ≠ mainGlobals := fun q => by
          obtain ⟨o, es, ep, e, hd, _⟩ := hns
          rw [q, e] at b3
          cases b3
          rw [hd] at b6
          cases b6
        have nP : bm ≠ p.2 := fun q => by
          rw [q, hTp] at b3
          cases b3
          cases b6
        refine ⟨bm, ob, b1, b2, nG, nP, base_of b3 (noD b3 (fun vs n z => ?_) fun z => ?_), b4, b5, b6⟩
        · rw [b6] at z
          cases z
        · rw [b6] at z
          cases z
      · obtain ⟨o, es, ep, e, hd, _⟩ := hns
        rw [z, hTp] at e
        cases e
        cases hd
    have e0 : Env0 P w K mg (hidT s₁.heap H) callerA [] s₁ H := ⟨rfl, hM, fun b o e => of_hidT e, Nat.le_of_eq (hidT_size _ _), trivial, fun b hb => absurd (show b ∈ ([] : List Addr) from hb) (by simp), hok, .of_eq hg⟩
    refine codeAny_mono ((F _ hKb (nsK hns) TB).run callerA [] s₁ H ⟨[.ref a], []⟩ [.ref a] [.ref a] _ _ hr e0 (hbind s₁ (.ref a)) (.cons rfl .nil) (hsp H hH hS)) fun r s' h => ?_
    cases r with
    | error e => exact (hCX H e s' h).elim
    | ok fl =>
      cases fl with
      | next => exact False.elim h
      | brk => exact False.elim h
      | cont => exact False.elim h
      | ret u =>
        obtain ⟨v, H', os, bare, un, hok', r', q⟩ := h
        have q' : v = .bl true := q
        subst q'
        obtain rfl : u = Value.bool true := r'
        have key : ∀ b o, b ∉ cs.map (·.2) → s₁.heap.get? b = some o → s'.heap.get? b = some o := fun b o nb e => by
          cases q : H b with
          | none => exact un.keep b o e q (by intro z; exact absurd (show b ∈ ([] : List Addr) from z) (by simp)) (by simp)
          | some u =>
            rcases hO b with z | z | ⟨ob, xs, z⟩
            · rw [q] at z; cases z
            · exact absurd z nb
            · have z2 := un.frzs b ob _ z
              obtain ⟨e1, _⟩ := hok b _ z
              obtain ⟨e2, _⟩ := hok' b _ z2
              rw [e] at e1; cases e1
              exact e2
        have grown : ∀ p ∈ cs, ∃ more : Array Value, s'.heap.get? p.2 = some { cls := .none, data := .fields more } := fun p hp => by
          obtain ⟨more, z⟩ := un.tbls p.2 #[] (hH p hp)
          exact ⟨_, hok' p.2 _ z⟩
        refine ⟨rfl, ⟨fun b o e => ?_, fun b o e => ?_⟩, os, bare⟩
        · by_cases hb : b ∈ cs.map (·.2)
          · obtain ⟨p, hp, ep⟩ := List.mem_map.mp hb
            obtain ⟨more, hm⟩ := grown p hp
            rw [← ep] at e ⊢
            rw [hT p hp] at e
            cases e
            exact .inr (.inl ⟨((C p hp).tab (hT p hp)).isCodeTable, rfl, #[], more, rfl, by rw [Array.empty_append]; exact hm⟩)
          · exact .inl (key b o hb e)
        · by_cases hb : b ∈ cs.map (·.2)
          · obtain ⟨p, hp, ep⟩ := List.mem_map.mp hb
            obtain ⟨more, hm⟩ := grown p hp
            rw [← ep]
            exact ⟨_, hm⟩
          · exact ⟨o, key b o hb e⟩
  cases hk : K.lookup a with
  | some o =>
    have e := KX a o hk
    rw [ha] at e
    cases e
    refine core (fun b => if b ∈ cs.map (·.2) then some (.tbl #[]) else none) (fun p hp => if_pos (memT p hp)) (fun b => ?_) (.inr ⟨vs.toArray, _, hk, by rw [List.size_toArray, lenV]; exact hl, by simpa using rv⟩) (fun b u z => ?_) (fun b z => ?_) fun z => absurd (show (if a ∈ cs.map (·.2) then some (HO.tbl #[]) else none) = none from if_neg aT) z
    · by_cases hb : b ∈ cs.map (·.2)
      · exact .inr (.inl hb)
      · exact .inl (if_neg hb)
    · by_cases hb : b ∈ cs.map (·.2)
      · have z' := (if_pos hb).symm.trans z
        cases z'
        exact isT b hb
      · have z' := (if_neg hb).symm.trans z
        cases z'
    · by_cases hb : b ∈ cs.map (·.2)
      · exact .inr hb
      · exact absurd (if_neg hb) z
  | none =>
    refine core (fun b => if b = a then some (.frz { cls := .type "list", data := .seq vs.toArray } (.lst (ns.map V.int))) else if b ∈ cs.map (·.2) then some (.tbl #[]) else none) (fun p hp => (if_neg (show ¬ p.2 = a from fun z => aT (by rw [← z]; exact memT p hp))).trans (if_pos (memT p hp))) (fun b => ?_)
      (.inl ⟨{ cls := .type "list", data := .seq vs.toArray }, if_pos rfl⟩) (fun b u z => ?_) (fun b z => ?_) fun _ => hk
    · by_cases hb : b = a
      · exact .inr (.inr ⟨_, _, if_pos hb⟩)
      · by_cases hb2 : b ∈ cs.map (·.2)
        · exact .inr (.inl hb2)
        · exact .inl ((if_neg hb).trans (if_neg hb2))
    · by_cases hb : b = a
      · have z' := (if_pos hb).symm.trans z
        cases z'
        rw [hb]
        exact ⟨ha, by rw [List.length_map]; exact hl, vs, _, rv, ha⟩
      · have z1 := (if_neg hb).symm.trans z
        by_cases hb2 : b ∈ cs.map (·.2)
        · have z' := (if_pos hb2).symm.trans z1
          cases z'
          exact isT b hb2
        · have z' := (if_neg hb2).symm.trans z1
          cases z'
    · by_cases hb : b = a
      · exact .inl hb
      · by_cases hb2 : b ∈ cs.map (·.2)
        · exact .inr hb2
        · exact absurd ((if_neg hb).trans (if_neg hb2)) z
/-- what is known of the law's promise at the head's heap h -/
def LawAtM (l : PySem.W.OpenLaw) (w : World) (K : PySem.W.Frag) (CX : CXT) (k n : Nat) (x : Str) (mg : Str → Option Value) (fa : Addr) (h : Heap) : Prop :=
  ∃ (fd : FuncData) (cs : List (Addr × Addr)) (sp : Sp), (∀ p ∈ cs, h.get? p.2 = some { cls := .none, data := .fields #[] }) ∧ (∀ p ∈ cs, K.lookup p.2 = none) ∧ (∀ p ∈ cs, PySem.W.CodeHd h p.1 p.2) ∧ (∀ (s : Shared) (u : Value), BindsTo s fd ⟨[u], []⟩ [(x, u)]) ∧
    (∀ (H : Hp) (a : Addr) (ns : List Int), ns.length ≤ n → (∀ z ∈ ns, Builtin.Int.intBits z ≤ 1048576) → (∀ p ∈ cs, H p.2 = some (.tbl #[])) → LsM K H a (ns.map V.int) → sp [.ref a] H (fun v _ => v = .bl true) fun _ _ _ => False) ∧
    ∀ base : Heap, K.In base → base.Ns mainGlobals mg → (∀ p ∈ cs, TabB base mg p.1 p.2) → FnOk l.prog w K mg base CX k fa fd [x] sp
theorem walk_ofM {l : PySem.W.OpenLaw} {n k : Nat} {q : Program} {loose : List Str} {XP : (Str → Option Value) → Heap → Prop} {YP : World → Heap → Prop} {d : DefRec} {CX : World → CXT} {x : Str}
    (hn : l.most = some n) (hn2 : n ≤ sizeLine) (hdf : d.params.defaults = []) (hr : Room k callerA)
    (F : ∀ (w : World) (mg : Str → Option Value) (fa : Addr) (h : Heap), YP w h → h.Ns mainGlobals mg → mg d.name = some (.ref fa) → ∃ K : PySem.W.Frag, K.In h ∧ LawAtM l w K (CX w) k n x mg fa h)
    (hCX : ∀ (w : World) (H : Hp) (s : Shared) (e : Value) (s' : Shared), CX w [] H s (fun _ _ _ => False) e s' → False) :
    PySem.W.WalkO q loose XP YP l.row.toRowW d [] (fun f vs => PySem.call f vs) := by
  refine Att.attach_callB hn hdf fun w s₀ s₁ mg mb fa o pm cd doc a vs ns G Y ho hd hcd hmg hobj hints hlen hbits hg => ?_
  obtain ⟨K, KX, fd, cs, sp, hT, nT, C, hb, hsp, hF⟩ := F w mg fa _ Y G.T.g hmg
  exact law_callM KX G.T.g G.T.b G.T.builtins G.T.nolimit hg hT nT C G.T.bmain hobj hints (Nat.le_trans hlen hn2) hr hF hb (fun H hH hS => hsp H a ns hlen hbits hH hS) fun H e s' => hCX w H s₁ e s'

/-! ### exceptions' classes, looked at -/
open He
/-- the address of the class's own __init__ -/
def iAd (K : PySem.W.Frag) (x : Str) : Addr := ma K (ga K x) "__init__"
def excB (K : PySem.W.Frag) (C : Addr) : Bool := match K.lookup C with
  | some ⟨.type "type", _, .cls cd, sl⟩ => (match cd.mro, sl.toList with
    | .ref C' :: bm, [_, _, _, _, some (.builtin n), _] => C' == C && n == "Exception.__new__" && !cd.hasDel && cd.hasDict && MX.refsE bm && decide (PySem.W.alongIn K "__init__" bm = some (some (.builtin "Exception.__init__")))
    | _, _ => false)
  | _ => false
theorem excB_ok {K : PySem.W.Frag} {C : Addr} (q : excB K C = true) : ∃ nm q N bs bm sn sub ab col dd k0 k1 k2 k3 k5, K.lookup C = some (excClassObj nm q C N bs bm true sn sub ab col dd k0 k1 k2 k3 k5 "Exception.__new__") ∧ MX.refsE bm = true ∧ PySem.W.alongIn K "__init__" bm = some (some (.builtin "Exception.__init__")) := by
  unfold excB at q
  split at q
  · rename_i dd cd sl ho
    split at q
    · rename_i C' bm k0 k1 k2 k3 n k5 hm hs
      simp only [Bool.and_eq_true, beq_iff_eq, Bool.not_eq_true', decide_eq_true_eq] at q
      obtain ⟨⟨⟨⟨⟨rfl, rfl⟩, hdel⟩, hdct⟩, ht⟩, hal⟩ := q
      obtain ⟨nm, bs, mro, ns, qn, hd, sn, sub, ab, col, del⟩ := cd
      dsimp only at hm hdel hdct
      subst hm hdel hdct
      have hsl : sl = #[k0, k1, k2, k3, some (.builtin "Exception.__new__"), k5] := by
        obtain ⟨l⟩ := sl
        simp only at hs
        rw [hs]
      subst hsl
      exact ⟨nm, qn, ns, bs, bm, sn, sub, ab, col, dd, k0, k1, k2, k3, k5, ho, ht, hal⟩
    · cases q
  · cases q
/-- an __init__ of the text -/
structure IniD where
  x : Str
  qual : Str
  params : Arguments
  body : List Stmt
  scope : Scope
abbrev FnI : Type := Option (Str × Arguments × FuncBody × Scope × Addr × List Str × Addr)
def fnI (K : PySem.W.Frag) (x : Str) : FnI := match K.lookup (iAd K x) with
  | some ⟨_, _, .func fd, _⟩ => some (fd.qualname, fd.params, fd.body, fd.scope, fd.globals, fd.closure.map (·.1), fd.builtins)
  | _ => none
def IniD.val (d : IniD) : FnI := some (d.qual, d.params, .stmts d.body, d.scope, mainGlobals, ["__class__"], builtinsNs)
def cellB (K : PySem.W.Frag) (cc C : Addr) : Bool := match K.lookup cc with
  | some ⟨_, _, .cell (some (.ref D)), _⟩ => D == C
  | _ => false
def fileB (K : PySem.W.Frag) (file0 : Str) (cd : Value) : Bool := match cd with
  | .ref c => (match K.lookup c with
    | some ⟨_, _, .fields vs, _⟩ => (match (vs[2]? : Option Value) with
      | some (.str f _) => file0 == f
      | _ => false)
    | _ => false)
  | _ => false
def iniB (file0 : Str) (K : PySem.W.Frag) (d : IniD) : Bool := excB K (ga K d.x) && (decide (PySem.W.findIn K (.ref (ga K d.x)) "__setattr__" = some (some (.builtin "object.__setattr__"))) && (decide (PySem.W.subIn K (.ref (ga K d.x)) (.type "BaseException") = some true) &&
  (decide (PySem.W.subIn K (.ref (ga K d.x)) (.type "Exception") = some true) && (decide (PySem.W.mroIn K (ga K d.x) (.ref (ga K d.x)) = some true) && (decide (PySem.W.typeIn K (.ref (ga K d.x)) = some (.type "type")) && (PySem.W.keepIn K (.ref (ga K d.x)) &&
  (decide (PySem.W.findIn K (.ref (ga K d.x)) "__init__" = some (some (.ref (iAd K d.x)))) && (decide (PySem.W.typeIn K (.ref (iAd K d.x)) = some (.type "function")) && (decide (PySem.W.nsIn K cStatics "thirdparty.any" = some none) && (xfB K (ga K d.x) &&
  (match K.lookup (iAd K d.x) with
    | some ⟨_, _, .func fd, _⟩ => PySem.W.codeIn K fd.code d.qual && fileB K file0 fd.code && (match fd.closure with
      | [(_, cc)] => cellB K cc (ga K d.x)
      | _ => false) && (match fd.defaults with
      | .none => true
      | _ => false)
    | _ => false)))))))))))
theorem iniB_ok {P : Program} {K : PySem.W.Frag} {d : IniD} (h : iniB P.main.file K d = true) (e : fnI K d.x = d.val) (ht : (P.main.scope.names.lookup ("super" : Str)).isSome = false) : MX.XiC P K (ga K d.x) (iAd K d.x) d.qual d.params d.body d.scope ∧ XfC K (ga K d.x) := by
  unfold iniB at h
  simp only [Bool.and_eq_true, decide_eq_true_eq] at h
  obtain ⟨h1, h2, h3, h4, h5, h6, h7, h8, h9, h10, h11, h12⟩ := h
  refine ⟨⟨excB_ok h1, h2, h3, h4, h5, h6, h7, h8, h9, ?_, h10, ht⟩, xfB_ok h11⟩
  unfold fnI at e
  cases q : K.lookup (iAd K d.x) with
  | none => rw [q] at h12; cases h12
  | some o =>
    obtain ⟨oc, od, dt, osl⟩ := o
    rw [q] at h12 e
    cases dt with
    | func fd =>
      obtain ⟨n1, n2, n3, n4, n5, n6, n7, n8, n9, n10, n11, n12, n13, n14, n15⟩ := fd
      have e2 : (some (n2, n3, n4, n5, n6, n7.map (·.1), n15) : FnI) = some (d.qual, d.params, FuncBody.stmts d.body, d.scope, mainGlobals, [("__class__" : Str)], builtinsNs) := e
      simp only [Option.some.injEq, Prod.mk.injEq] at e2
      obtain ⟨g1, g2, g3, g4, g5, g6, g7⟩ := e2
      subst g1 g2 g3 g4 g5 g7
      simp only [Bool.and_eq_true] at h12
      obtain ⟨⟨⟨k1, k2⟩, k3⟩, k4⟩ := h12
      have k4 : n8 = .none := by
        split at k4
        · rfl
        · cases k4
      subst k4
      split at k3
      · rename_i c0 cc
        have : c0 = "__class__" := by
          have := g6
          simpa using this
        subst this
        unfold fileB at k2
        split at k2
        · rename_i cda
          split at k2
          · rename_i ccl cdd vs ccs lc
            split at k2
            · rename_i file tf hvs
              unfold cellB at k3
              split at k3
              · rename_i cl cld D csl lcc
                have : D = ga K d.x := beq_iff_eq.mp k3
                subst this
                exact ⟨n1, n9, n10, n11, n12, cda, n14, cc, oc, od, osl, ccl, cdd, vs, ccs, file, tf, cl, cld, csl, rfl, k1, lc, hvs, k2, lcc⟩
              · cases k3
            · cases k2
          · cases k2
        · cases k2
      · cases k3
    | _ => cases h12

/-! ### the Hook -/
def asM (g : Addr → Option Obj) : Nat → List Addr
  | 0 => [mainGlobals, cStatics]
  | n + 1 => growD g (asM g n)
structure SaysM (fa : List Fa) (fn : List DefD) (ini : List IniD) (tf : List Defn) (ex : PySem.W.Frag → Bool) (h : Heap) (K : PySem.W.Frag) : Prop where
  d : SaysD fa fn K
  i : ini.map (fun d => fnI K d.x) = ini.map IniD.val
  more : ex K = true
  hd : ∀ p ∈ tf, PySem.W.codeHdIn K (cT K p).1 (cT K p).2 = true
  out : ∀ p ∈ tf, K.lookup (cT K p).2 = none
  empty : ∀ p ∈ tf, h.get? (cT K p).2 = some { cls := .none, data := .fields #[] }
abbrev AlM : Type := AlD × List FnI × Bool
def obsM (n : Nat) (fa : List Fa) (fn : List DefD) (ini : List IniD) (tf : List Defn) (ex : PySem.W.Frag → Bool) (g : Addr → Option Obj) : AlM := (obsD fa fn (frT g (asM g n)), ini.map (fun d => fnI (frT g (asM g n)) d.x), ex (frT g (asM g n)) && tabsB g tf (frT g (asM g n)))
def valM (fn : List DefD) (ini : List IniD) : AlM := (valD fn, ini.map IniD.val, true)
theorem saysM_of {n : Nat} {fa : List Fa} {fn : List DefD} {ini : List IniD} {tf : List Defn} {ex : PySem.W.Frag → Bool} {h : Heap} (e : obsM n fa fn ini tf ex h.get? = valM fn ini) : SaysM fa fn ini tf ex h (frT h.get? (asM h.get? n)) := by
  have e1 : obsD fa fn (frT h.get? (asM h.get? n)) = valD fn := congrArg (fun z : AlM => z.1) e
  have e3 : ini.map (fun d => fnI (frT h.get? (asM h.get? n)) d.x) = ini.map IniD.val := congrArg (fun z : AlM => z.2.1) e
  have e2 : (ex (frT h.get? (asM h.get? n)) && tabsB h.get? tf (frT h.get? (asM h.get? n))) = true := congrArg (fun z : AlM => z.2.2) e
  obtain ⟨h1, h2⟩ := ba e2
  have key : ∀ p ∈ tf, PySem.W.codeHdIn (frT h.get? (asM h.get? n)) (cT (frT h.get? (asM h.get? n)) p).1 (cT (frT h.get? (asM h.get? n)) p).2 = true ∧ ∃ o, h.get? (cT (frT h.get? (asM h.get? n)) p).2 = some o ∧ emptyTab o = true := fun p hp => by
    obtain ⟨h3, h4⟩ := ba (List.all_eq_true.mp h2 p hp)
    refine ⟨h3, ?_⟩
    cases q : h.get? (cT (frT h.get? (asM h.get? n)) p).2 with
    | none => rw [q] at h4; cases h4
    | some o => rw [q] at h4; exact ⟨o, rfl, h4⟩
  exact ⟨e1, e3, h1, fun p hp => (key p hp).1, fun p hp => by
    obtain ⟨_, o, q, z⟩ := key p hp
    exact frT_none q z, fun p hp => by
    obtain ⟨_, o, q, z⟩ := key p hp
    rw [q, emptyTab_eq z]⟩
def hookM (n : Nat) (fa : List Fa) (fn : List DefD) (ini : List IniD) (tf : List Defn) (ex : PySem.W.Frag → Bool) : PySem.W.Hook where
  α := AlM
  obs := fun s => obsM n fa fn ini tf ex s.heap.get?
  val := fun _ => valM fn ini
  says := fun _ h => ∃ K : PySem.W.Frag, K.In h ∧ SaysM fa fn ini tf ex h K
  of := fun _ _ e => ⟨_, frT_in, saysM_of e⟩
  keeps := fun _ _ _ ⟨K, hK, c⟩ k => ⟨K, PySem.W.Frag.In.keeps hK k, ⟨c.d, c.i, c.more, c.hd, c.out, fun p hp => k _ _ (c.empty p hp)⟩⟩
theorem obsM_eq {n : Nat} {fa : List Fa} {fn : List DefD} {ini : List IniD} {tf : List Defn} {ex : PySem.W.Frag → Bool} {g : Addr → Option Obj} {s : Shared} (h : ∀ a, g a = s.heap.get? a) : obsM n fa fn ini tf ex g = (hookM n fa fn ini tf ex).obs s := by
  have e : g = s.heap.get? := funext h
  rw [e] <;> rfl
section
variable {fa : List Fa} {fn : List DefD} {ini : List IniD} {tf : List Defn} {ex : PySem.W.Frag → Bool} {h : Heap} {K : PySem.W.Frag}
theorem SaysM.init (c : SaysM fa fn ini tf ex h K) (i : Nat) {d : IniD} (e : ini[i]? = some d) : fnI K d.x = d.val := by
  have e2 : (ini.map (fun d => fnI K d.x))[i]? = (ini.map IniD.val)[i]? := by rw [c.i]
  rw [List.getElem?_map, List.getElem?_map, e] at e2
  exact Option.some.inj e2
end

/-! ### a def by its mirror, told of by its function object -/
section
variable {Γ : G} {P : Program} {w : World} {K : PySem.W.Frag} {mg : Str → Option Value} {base : Heap} {x qual : Str} {params : Arguments} {body : List Stmt} {scope : Scope} {dvs : List V} {kws : List (Str × V)} {f : Addr} {fd : FuncData} {N ps : List Str} {b : MS} {k : Nat}
theorem fn_mirD (F : FunD K x qual params body scope dvs kws f fd) (S : FnScope N ps scope)
    (hbody : ∀ (cdv : Value) (A : Around) (outer : List Env) (s : Shared) (H : Hp) (E : XK), (∃ oc od osl, K.lookup f = some ⟨oc, od, .func fd, osl⟩) → fd.code = cdv → Room k (A.deeper (envOfC qual scope s.heap.objs.size f cdv)) → FSs (cxOf (CX P w) P w K mg base N qual scope f cdv A outer s H E) Γ (wE E) body b) :
    FnOk P w K mg base (CX P w) (k + 1) f fd ps (spF Γ ps.length (runF N.length b)) := by
  obtain ⟨oc, od, dV, kV, doc, pm, an, cdv, ct, osl, rfl, lk, hcd, _, _⟩ := F.ex
  exact fn_mir lk hcd S fun A outer s H E hr => hbody cdv A outer s H E ⟨oc, od, osl, lk⟩ rfl hr
end
end MP
end
section
set_option Elab.async false
set_option linter.all false
set_option maxRecDepth 100000
set_option maxHeartbeats 2000000
/-! M21: short forms for the printed proofs. -/
namespace MP
open PySem PySem.Spec PyProof.Rows L2 LamX
section
variable {P : Program} {w : World} {K : PySem.W.Frag} {mg : Str → Option Value} {base : Heap} {N : List Str} {qual : Str} {scope : Scope} {f : Addr} {cd : Value} {A : Around} {outer : List Env} {s : Shared} {H : Hp} {E : XK}
theorem takes_cx : Takes (cxOf (CX P w) P w K mg base N qual scope f cd A outer s H E) (wE E) := takes_of (X := cxOf (CX P w) P w K mg base N qual scope f cd A outer s H E) rfl rfl rfl (E₁ := fun e' s'' => CX P w outer H s E e' s'') rfl
theorem passes_cx : PassesOwn (model (cxOf (CX P w) P w K mg base N qual scope f cd A outer s H E).prog (cxOf (CX P w) P w K mg base N qual scope f cd A outer s H E).w) (cxOf (CX P w) P w K mg base N qual scope f cd A outer s H E).A (cxOf (CX P w) P w K mg base N qual scope f cd A outer s H E).env (cxOf (CX P w) P w K mg base N qual scope f cd A outer s H E).xe :=
  passes_of (X := cxOf (CX P w) P w K mg base N qual scope f cd A outer s H E) (K := fun e s'' => CX P w outer H s E e s'') (E₁ := fun e' s'' => CX P w outer H s E e' s'') rfl
theorem cells_cx : CellsNew (cxOf (CX P w) P w K mg base N qual scope f cd A outer s H E) := cellsNew (fun _ => rfl) rfl
variable {I : LamI} {ps : List Str} {c' : Addr} {clos : List (Str × Addr)}
theorem takes_lam : Takes (lamXof P w K mg base A outer s H E I ps f c' clos) (wE E) := takes_of (X := lamXof P w K mg base A outer s H E I ps f c' clos) rfl rfl rfl (E₁ := fun e' s'' => CX P w outer H s E e' s'') rfl
end
/-- a def that is never called -/
theorem fn_stuck {Γ : G} {P : Program} {w : World} {K : PySem.W.Frag} {mg : Str → Option Value} {base : Heap} {k : Nat} {f : Addr} {fd : FuncData} {ps : List Str} : FnOk P w K mg base (CX P w) k f fd ps (spF Γ ps.length fun _ _ => .stuck) :=
  ⟨fun _ _ _ _ h => h.1, fun _ _ _ _ _ _ _ _ _ _ _ _ _ h => by
    obtain ⟨_, _, _, _, _, _, q⟩ := h
    exact False.elim q⟩
/-- keyword calls without positional values: all parameters named, in order -/
def kbAll {Γ : G} {K : PySem.W.Frag} {fd : FuncData} {ps : List Str} (h : ∀ (s : Shared) (ws : List Value), ws.length = ps.length → BindsTo s fd ⟨[], ps.zip ws⟩ (ps.zip ws)) : KB Γ K fd ps 0 ps ((List.range ps.length).map .kw) where
  g := fun _ ws => ws
  gV := fun _ zs => zs
  to := fun s us ws _ h0 h1 => by
    have : us = [] := List.eq_nil_of_length_eq_zero h0
    subst this
    exact h s ws h1
  rel := fun _ r _ _ => r
  den := fun {μ H vs zs ds es} _ k _ hl => by
    have e : ((List.range ps.length).map Src.kw).map (Src.pick ds es) = es := by
      have hl2 : es.length = ps.length := k.length.symm.trans hl
      apply List.ext_getElem?
      intro i
      rw [List.map_map, List.getElem?_map]
      by_cases hi : i < ps.length
      · rw [List.getElem?_range hi]
        show some (es.getD i .non) = es[i]?
        rw [List.getElem?_eq_getElem (by omega)]
        simp [List.getD, List.getElem?_eq_getElem (show i < es.length by omega)]
      · rw [List.getElem?_eq_none (by simpa using hi), List.getElem?_eq_none (by omega)]
        rfl
    rw [e]; exact k
/-- an exception of one field -/
theorem mk1 {X : Cx} {x : Str} {C fI : Addr} {qual f1 : Str} {p0 p1 p2 p3 p4 q0 q1 q2 q3 q4 : Pos} {params : Arguments} {ar : PySem.Arg} {scope : Scope} {k : Nat} {e : Expr} {es : List Expr} {p pos : Pos}
    (T : MX.XiC X.prog X.K C fI qual params (MX.body1 f1 p0 p1 p2 p3 p4 q0 q1 q2 q3 q4) scope) (S : MX.XiS ["self", f1] scope) (hf1 : f1 ≠ "self") (hd1 : (f1 == ("__debug__" : Str)) = false) (hno : PySem.W.findIn X.K (.ref C) f1 = some none) (hms : X.mg "super" = none) (hp : (params.posonlyargs ++ params.args).head? = some ar) (har : ar.arg = ("self" : Str))
    (hl : (p2.endLine == p3.line) = true) (hb : ∀ name kV doc pm an cdv ct cc (a v : Value), bindArgs (PySem.W.ksFn name qual params (MX.body1 f1 p0 p1 p2 p3 p4 q0 q1 q2 q3 q4) scope .none kV doc pm an cdv ct cc) ⟨[a, v], []⟩ = pure [(("self" : Str), a), (f1, v)])
    (hr : Room (k + 1) X.A) (hg : Gl X x) (hm : X.mg x = some (.ref C)) (hdb : (x == ("__debug__" : Str)) = false := by decide) (he : starEach (e :: es) X.env = (false, eval e X.env) :: starEach es X.env := by rfl) (hpl : (backTo pos (starEach es X.env)).any (·.1) = false := by rfl) : MakesX X x C [f1] e es p pos := fun ta ha => by
  have F : MX.InitRun X.prog X.w X.K X.mg C fI 1 (fun us y => if y = f1 then us[0]? else none) := fun A s a t0 us base R hM bk hba hroom hul ha h => by
    match us, hul with
    | [v], _ => exact MX.init1 T S hf1 hd1 hno hM bk hba hms hp har hroom (MX.supCall hl rfl fun _ => rfl) (fun name kV doc pm an cdv ct cc => .of_eq (hb name kV doc pm an cdv ct cc (.ref a) v)) ha h
  have := MX.pmk_xi (p := p) (fs := fun vs => [f1].zip vs) T F (fun vs us r hv y => by
    match vs, us, r, hv with
    | [v], [u], .cons ru .nil, _ =>
      show RelO (List.lookup y [(f1, v)]) (if y = f1 then some u else none)
      rw [List.lookup_cons]
      by_cases z : y = f1
      · subst z; simp [RelO]; exact ru
      · have : (y == f1) = false := by simpa using z
        rw [this, if_neg z]; exact True.intro) (by decide) hr hg hm ha hdb he hpl
  exact this
/-- an exception of two fields -/
theorem mk2 {X : Cx} {x : Str} {C fI : Addr} {qual f1 f2 : Str} {p0 p1 p2 p3 p4 q0 q1 q2 q3 q4 r0 r1 r2 r3 r4 : Pos} {params : Arguments} {ar : PySem.Arg} {scope : Scope} {k : Nat} {e : Expr} {es : List Expr} {p pos : Pos}
    (T : MX.XiC X.prog X.K C fI qual params (MX.body2 f1 f2 p0 p1 p2 p3 p4 q0 q1 q2 q3 q4 r0 r1 r2 r3 r4) scope) (S : MX.XiS ["self", f1, f2] scope) (hf1 : f1 ≠ "self") (hf2 : f2 ≠ "self") (hf12 : f1 ≠ f2) (hd1 : (f1 == ("__debug__" : Str)) = false) (hd2 : (f2 == ("__debug__" : Str)) = false) (hno : PySem.W.findIn X.K (.ref C) f1 = some none) (hno2 : PySem.W.findIn X.K (.ref C) f2 = some none)
    (hms : X.mg "super" = none) (hp : (params.posonlyargs ++ params.args).head? = some ar) (har : ar.arg = ("self" : Str))
    (hl : (p2.endLine == p3.line) = true) (hb : ∀ name kV doc pm an cdv ct cc (a v u : Value), bindArgs (PySem.W.ksFn name qual params (MX.body2 f1 f2 p0 p1 p2 p3 p4 q0 q1 q2 q3 q4 r0 r1 r2 r3 r4) scope .none kV doc pm an cdv ct cc) ⟨[a, v, u], []⟩ = pure [(("self" : Str), a), (f1, v), (f2, u)])
    (hr : Room (k + 1) X.A) (hg : Gl X x) (hm : X.mg x = some (.ref C)) (hdb : (x == ("__debug__" : Str)) = false := by decide) (he : starEach (e :: es) X.env = (false, eval e X.env) :: starEach es X.env := by rfl) (hpl : (backTo pos (starEach es X.env)).any (·.1) = false := by rfl) : MakesX X x C [f1, f2] e es p pos := fun ta ha => by
  have F : MX.InitRun X.prog X.w X.K X.mg C fI 2 (fun us y => if y = f2 then us[1]? else if y = f1 then us[0]? else none) := fun A s a t0 us base R hM bk hba hroom hul ha h => by
    match us, hul with
    | [v, u], _ => exact MX.init2 T S hf1 hf2 hf12 hd1 hd2 hno hno2 hM bk hba hms hp har hroom (MX.supCall hl rfl fun _ => rfl) (fun name kV doc pm an cdv ct cc => .of_eq (hb name kV doc pm an cdv ct cc (.ref a) v u)) ha h
  have := MX.pmk_xi (p := p) (fs := fun vs => [f1, f2].zip vs) T F (fun vs us r hv y => by
    match vs, us, r, hv with
    | [v, v2], [u, u2], .cons ru (.cons ru2 .nil), _ =>
      show RelO (List.lookup y [(f1, v), (f2, v2)]) (if y = f2 then some u2 else if y = f1 then some u else none)
      rw [List.lookup_cons]
      by_cases z : y = f1
      · subst z
        rw [if_neg hf12, if_pos rfl]
        simp [RelO]; exact ru
      · have e1 : (y == f1) = false := by simpa using z
        rw [e1, if_neg z]
        show RelO (List.lookup y [(f2, v2)]) _
        rw [List.lookup_cons]
        by_cases z2 : y = f2
        · subst z2; simp [RelO]; exact ru2
        · have : (y == f2) = false := by simpa using z2
          rw [this, if_neg z2]; exact True.intro) (by decide) hr hg hm ha hdb he hpl
  exact this
end MP
end
section
set_option Elab.async false
set_option linter.all false
set_option maxRecDepth 100000
set_option maxHeartbeats 2000000
/-! M22: the ground Γ of a law; lambdas by their places. -/
namespace MP
open PySem PySem.Spec PyProof.Rows L2 LamX He

/-! ### places in the text -/
def kidE : Stmt → List Expr
  | .Return (some v) _ => [v]
  | .Assign ts v _ => v :: ts
  | .AugAssign t _ v _ => [v, t]
  | .For t i _ _ _ => [i, t]
  | .While t _ _ _ => [t]
  | .If t _ _ _ => [t]
  | .Expr v _ => [v]
  | .Raise (some e) _ _ => [e]
  | _ => []
def kidS : Stmt → List Stmt
  | .For _ _ b o _ => b ++ o
  | .While _ b o _ => b ++ o
  | .If _ b o _ => b ++ o
  | .Try b _ _ _ _ => b
  | _ => []
def kidX : Expr → List Expr
  | .BoolOp _ vs _ => vs
  | .BinOp l _ r _ => [l, r]
  | .UnaryOp _ o _ => [o]
  | .IfExp a b c _ => [a, b, c]
  | .ListComp e [g] _ _ => e :: g.iter :: g.ifs
  | .Compare l _ cs _ => l :: cs
  | .Call f as ks _ => f :: (as ++ ks.map (·.value))
  | .Attribute v _ _ => [v]
  | .Subscript v s _ => [v, s]
  | .List es _ => es
  | .Tuple es _ _ => es
  | .Lambda _ b _ _ => [b]
  | _ => []
def sAt (l : List Stmt) (i : Nat) : Stmt := l.getD i (.Pass ⟨0, 0, 0, 0⟩)
def eAt (l : List Expr) (i : Nat) : Expr := l.getD i (.Constant .none 0 ⟨0, 0, 0, 0⟩)
def lamOf (q : Str) (e : Expr) : LamI := match e with
  | .Lambda a b s _ => ⟨q, a, b, s, (cloFrom [] s.names []).map (·.1)⟩
  | e => ⟨q, ⟨[], [], none, [], [], none, []⟩, e, ⟨.function, [], false, false, []⟩, []⟩

/-! ### Γ -/
def lq (f : Str) : Str := (f ++ ".<locals>.") ++ "<lambda>"
def Gm (lam : Nat → Option LamI) (tf : List Str) (K : PySem.W.Frag) (mg : Str → Option Value) : G where
  K := K
  mg := mg
  lam := lam
  T := tf.map fun f => ((cT K (f, none)).2, lq f)
  J := fun _ _ => True
  Jm := fun _ _ => True.intro
  Jd := fun _ _ => True.intro
theorem nodup_inj {α β : Type} {g : α → β} : ∀ {l : List α}, (l.map g).Nodup → ∀ {a b : α}, a ∈ l → b ∈ l → g a = g b → a = b
  | x :: l, nd, a, b, ha, hb, e => by
    rw [List.map_cons] at nd
    obtain ⟨n1, n2⟩ := List.nodup_cons.mp nd
    rcases List.mem_cons.mp ha with za | za
    · rcases List.mem_cons.mp hb with zb | zb
      · rw [za, zb]
      · exact absurd (by rw [← za, e]; exact List.mem_map_of_mem (f := g) zb) n1
    · rcases List.mem_cons.mp hb with zb | zb
      · exact absurd (by rw [← zb, ← e]; exact List.mem_map_of_mem (f := g) za) n1
      · exact nodup_inj n2 za zb e
section
variable {lam : Nat → Option LamI} {tf : List Str} {P : Program} {w : World} {K : PySem.W.Frag} {mg : Str → Option Value} {base : Heap} {x : Str} {params : Arguments} {body : List Stmt} {scope : Scope} {dvs : List V} {kws : List (Str × V)} {fd : FuncData} {N ps : List Str} {b : MS} {k : Nat} {cdv : Value} {A : Around} {outer : List Env} {s : Shared} {H : Hp} {E : XK}
theorem lamT_cx (F : FunD K x x params body scope dvs kws (ga K x) fd) (hcd : fd.code = cdv) (TB : ∀ p ∈ tf, TabB base mg (cT K (p, none)).1 (cT K (p, none)).2) (nd : (tf.map fun f => (cT K (f, none)).2).Nodup) (hx : x ∈ tf) :
    LamT (cxOf (CX P w) P w K mg base N x scope (ga K x) cdv A outer s H E) (Gm lam tf K mg) := by
  obtain ⟨oc, od, dV, kV, doc, pm, an, cd, ct, osl, e, lk, hci, _, _⟩ := F.ex
  obtain ⟨c, rfl⟩ := codeIn_ref hci
  have ec : fd.code = .ref c := by rw [e]
  have e1 : codeOf K (x, none) = c := codeOf_eq (p := (x, none)) lk ec
  refine ⟨⟨(cT K (x, none)).1, (cT K (x, none)).2, TB x hx, ?_, List.mem_map.mpr ⟨x, hx, rfl⟩, fun p hp ep => ?_⟩⟩
  · show cdv = .ref (codeOf K (x, none))
    rw [← hcd, ec, e1]
  · obtain ⟨y, hy, rfl⟩ := List.mem_map.mp hp
    have := nodup_inj (g := fun f => (cT K (f, none)).2) nd hy hx ep
    subst this
    rfl
end
/-! ### += -/
def oAddI : D → D → List MO → Res D
  | .int i, .int j, h => .ok (.int (i + j)) h
  | .str a, .str b, h => if a.length + b.length ≤ LINE then .ok (.str (a ++ b)) h else .stuck
  | _, _, _ => .stuck
theorem op_augI {X : Cx} {K : PySem.W.Frag} : OpR X (inplaceOp .Add) (rAugI K) := iop_add.or iop_add_str
theorem o_addI {Γ : G} {K : PySem.W.Frag} : Op2 Γ (rAugI K) oAddI := by
  intro W σ H μ h x y a b Q r da db q
  unfold oAddI at q
  split at q
  · cases da; cases db
    exact .inl ⟨_, _, rfl, rfl, good_pure q r rfl⟩
  · split at q
    · rename_i hl
      cases (show x = _ from da); cases (show y = _ from db)
      exact .inr ⟨_, _, rfl, rfl, by rw [S_len, S_len, line_eq]; exact hl, by rw [S_app]; exact good_pure q r rfl⟩
    · exact False.elim q
  · exact False.elim q
end MP
end
section
set_option Elab.async false
set_option linter.all false
set_option maxRecDepth 100000
set_option maxHeartbeats 2000000
/-! M23: the module's constants; classes' texts. -/
namespace MP
open PySem PySem.Spec PyProof.Rows L2 LamX He

def CstOk (K : PySem.W.Frag) (mg : Str → Option Value) (x : Str) (d : D) : Prop := ∃ u v, mg x = some u ∧ RelV v u ∧ ∀ (Γ : G), Γ.K = K → Γ.mg = mg → ∀ H μ, Den Γ μ H v d
mutual
def denB (K : PySem.W.Frag) : D → Value → Bool
  | .non, .none => true
  | .bl b, .bool c => b == c
  | .int i, .int j _ => decide (i = j)
  | .str l, .str x _ => decide (x = S l)
  | .tup ds, .ref a => (match K.lookup a with
    | some ⟨.type c, _, .seq its _, _⟩ => decide (c = "tuple") && (decide (its.size ≤ sizeLine) && densB K ds its.toList)
    | _ => false)
  | .lst ds, .ref a => (match K.lookup a with
    | some ⟨.type c, none, .seq its _, sl⟩ => decide (c = "list") && (sl.isEmpty && (decide (its.size ≤ sizeLine) && densB K ds its.toList))
    | _ => false)
  | .glo x, .ref a => decide (PySem.W.nsIn K mainGlobals x = some (some (.ref a))) && PySem.W.keepIn K (.ref a)
  | _, _ => false
def densB (K : PySem.W.Frag) : List D → List Value → Bool
  | [], [] => true
  | d :: ds, u :: us => denB K d u && densB K ds us
  | _, _ => false
end
section
variable {K : PySem.W.Frag} {mg : Str → Option Value} {h : Heap}
mutual
theorem denB_ok (X : K.In h) (G0 : h.Ns mainGlobals mg) : ∀ (d : D) (u : Value), denB K d u = true → ∃ v, RelV v u ∧ ∀ (Γ : G), Γ.K = K → Γ.mg = mg → ∀ H μ, Den Γ μ H v d
  | .non, u, e => by
    cases u <;> first | (exact ⟨.non, rfl, fun _ _ _ _ _ => rfl⟩) | cases e
  | .bl b, u, e => by
    cases u with
    | bool c => 
      have : b = c := eq_of_beq e
      subst this
      exact ⟨.bl b, rfl, fun _ _ _ _ _ => rfl⟩
    | _ => cases e
  | .int i, u, e => by
    cases u with
    | int j t =>
      have : i = j := of_decide_eq_true e
      subst this
      exact ⟨.int i, ⟨t, rfl⟩, fun _ _ _ _ _ => rfl⟩
    | _ => cases e
  | .str l, u, e => by
    cases u with
    | str x t =>
      have : x = S l := of_decide_eq_true e
      subst this
      exact ⟨.str (S l), ⟨t, rfl⟩, fun _ _ _ _ _ => rfl⟩
    | _ => cases e
  | .tup ds, u, e => by
    cases u with
    | ref a =>
      unfold denB at e
      split at e
      · rename_i c od its n sl q
        simp only [Bool.and_eq_true, decide_eq_true_eq] at e
        obtain ⟨rfl, e2, e3⟩ := e
        obtain ⟨vs, rv, hd⟩ := densB_ok X G0 ds its.toList e3
        exact ⟨.ref a, rfl, fun Γ hK hM H μ => ⟨a, vs, rfl, .inr ⟨_, its, n, by rw [hK]; exact q, rfl, rfl, e2, rv⟩, hd Γ hK hM H μ⟩⟩
      · cases e
    | _ => cases e
  | .lst ds, u, e => by
    cases u with
    | ref a =>
      unfold denB at e
      split at e
      · rename_i c its n sl q
        simp only [Bool.and_eq_true, decide_eq_true_eq] at e
        obtain ⟨rfl, e0, e2, e3⟩ := e
        have e0 : sl = #[] := Array.isEmpty_iff.mp e0
        subst e0
        obtain ⟨vs, rv, hd⟩ := densB_ok X G0 ds its.toList e3
        exact ⟨.ref a, rfl, fun Γ hK hM H μ => ⟨a, vs, rfl, .inr ⟨its, n, by rw [hK]; exact q, e2, rv⟩, hd Γ hK hM H μ⟩⟩
      · cases e
    | _ => cases e
  | .glo x, u, e => by
    cases u with
    | ref a =>
      unfold denB at e
      simp only [Bool.and_eq_true, decide_eq_true_eq] at e
      exact ⟨.ref a, rfl, fun Γ hK hM H μ => ⟨a, rfl, by rw [hM]; exact PySem.W.mg_of X G0 e.1, by rw [hK]; exact e.2⟩⟩
    | _ => cases e
  | .ref i, u, e => by cases u <;> cases e
  | .clo n cs, u, e => by cases u <;> cases e
theorem densB_ok (X : K.In h) (G0 : h.Ns mainGlobals mg) : ∀ (ds : List D) (us : List Value), densB K ds us = true → ∃ vs, Vals vs us ∧ ∀ (Γ : G), Γ.K = K → Γ.mg = mg → ∀ H μ, Dens Γ μ H vs ds
  | [], us, e => by
    cases us with
    | nil => exact ⟨[], .nil, fun _ _ _ _ _ => rfl⟩
    | cons _ _ => cases e
  | d :: ds, us, e => by
    cases us with
    | nil => cases e
    | cons u us =>
      unfold densB at e
      rw [Bool.and_eq_true] at e
      obtain ⟨v, r, hd⟩ := denB_ok X G0 d u e.1
      obtain ⟨vs, rs, hds⟩ := densB_ok X G0 ds us e.2
      exact ⟨v :: vs, .cons r rs, fun Γ hK hM H μ => ⟨v, vs, rfl, hd Γ hK hM H μ, hds Γ hK hM H μ⟩⟩
end
def cstB (K : PySem.W.Frag) (p : Str × D) : Bool := match PySem.W.nsIn K mainGlobals p.1 with
  | some (some u) => denB K p.2 u
  | _ => false
theorem cstB_ok (X : K.In h) (G0 : h.Ns mainGlobals mg) {x : Str} {d : D} (e : cstB K (x, d) = true) : CstOk K mg x d := by
  unfold cstB at e
  split at e
  · rename_i u q
    obtain ⟨v, r, hd⟩ := denB_ok X G0 d u e
    exact ⟨u, v, PySem.W.mg_of X G0 q, r, hd⟩
  · cases e
end
theorem fe_cst {X : Cx} {Γ : G} {W : WX} {x : Str} {d : D} {pos : Pos} (hX : CxG X Γ) (hg : Gl X x) (c : CstOk X.K X.mg x d) (hdb : (x == ("__debug__" : Str)) = false := by decide) : FE X Γ W (.Name x pos) (xC d) := by
  obtain ⟨u, v, hm, r, hd⟩ := c
  exact fe_glob hg hm r (fun H μ => hd Γ hX.k.symm hX.m.symm H μ) hdb
/-! ### captured names, read off -/
theorem slots_by {slots : List Nat} {N caps : List Str} (h : slots.map (fun i => N[i]?) = caps.map some) : ∀ (j i : Nat), slots[j]? = some i → N[i]? = caps[j]? := fun j i e => by
  have e2 : (slots.map (fun i => N[i]?))[j]? = (caps.map some)[j]? := by rw [h]
  rw [List.getElem?_map, List.getElem?_map, e] at e2
  cases q : caps[j]? with
  | none => rw [q] at e2; cases e2
  | some c => rw [q] at e2; exact Option.some.inj e2
theorem vis_by {sc : Scope} {caps : List Str} (h : (caps.all fun y => decide (sc.names.lookup y = some .cell) || decide (sc.names.lookup y = some .free)) = true) : ∀ y ∈ caps, sc.names.lookup y = some .cell ∨ sc.names.lookup y = some .free := fun y m => by
  have := List.all_eq_true.mp h y m
  rw [Bool.or_eq_true, decide_eq_true_eq, decide_eq_true_eq] at this
  exact this
theorem free_by {sc : Scope} {names : List (Str × NameKind)} (h : (names.all fun y => !decide (y.2 = .free) || (decide (sc.names.lookup y.1 = some .cell) || decide (sc.names.lookup y.1 = some .free))) = true) : ∀ y ∈ names, y.2 = .free → sc.names.lookup y.1 = some .cell ∨ sc.names.lookup y.1 = some .free := fun y m e => by
  have := List.all_eq_true.mp h y m
  rw [Bool.or_eq_true, Bool.or_eq_true, decide_eq_true_eq, decide_eq_true_eq, Bool.not_eq_true', decide_eq_false_iff_not] at this
  exact this.resolve_left fun n => n e
/-! ### classes -/
def clsBody (s : Stmt) : List Stmt := match s with
  | .ClassDef _ _ _ b _ _ _ _ _ _ _ => b
  | _ => []
end MP
end
section
set_option Elab.async false
set_option linter.all false
set_option maxRecDepth 100000
set_option maxHeartbeats 2000000
/-! M24: a law's end: from its mirror's answer to its promise. -/
namespace MP
open PySem PySem.Spec PyProof.Rows L2 LamX He
theorem dens_ints {Γ : G} {μ : List Addr} {H : Hp} : ∀ ns : List Int, Dens Γ μ H (ns.map V.int) (ns.map D.int)
  | [] => rfl
  | n :: ns => ⟨.int n, ns.map V.int, rfl, rfl, dens_ints ns⟩
section
variable {lam : Nat → Option LamI} {tf : List Str} {K : PySem.W.Frag} {mg : Str → Option Value}
theorem hsp_of {m : MF} {H : Hp} {a : Addr} {ns : List Int} (hT : ∀ p ∈ tf.map (fun f => cT K (f, none)), H p.2 = some (.tbl #[])) (hS : LsM K H a (ns.map V.int)) (pl : ∃ h, m [.lst (ns.map D.int)] [] = .ok (.bl true) h) :
    spF (Gm lam tf K mg) 1 m [.ref a] H (fun v _ => v = .bl true) fun _ _ _ => False := by
  obtain ⟨h, e⟩ := pl
  refine ⟨rfl, [.lst (ns.map D.int)], [], [], ⟨.ref a, [], rfl, ⟨a, ns.map V.int, rfl, ?_, dens_ints ns⟩, rfl⟩, ⟨rfl, List.nodup_nil, fun i a o z _ => by simp at z, ?_, True.intro⟩, ?_⟩
  · rcases hS with ⟨o, z⟩ | z
    · exact .inl ⟨fun z => (nomatch z), o, z⟩
    · exact .inr z
  · intro p hp
    obtain ⟨f, hf, rfl⟩ := List.mem_map.mp hp
    exact TabS.nil (hT _ (List.mem_map.mpr ⟨f, hf, rfl⟩))
  · rw [e]
    intro v H' μ' _ _ d
    exact d
theorem lawAt_of {l : PySem.W.OpenLaw} {w : World} {h : Heap} {fa : Addr} {x : Str} {fd : FuncData} {k n : Nat} {m : MF} {fa0 : List Fa} {fn : List DefD} {ini : List IniD} {ex : PySem.W.Frag → Bool} (X : K.In h) (c : SaysM fa0 fn ini (tf.map fun f => (f, none)) ex h K)
    (hb : ∀ (s : Shared) (u : Value), BindsTo s fd ⟨[u], []⟩ [(x, u)])
    (F : ∀ base : Heap, (∀ p ∈ tf, TabB base mg (cT K (p, none)).1 (cT K (p, none)).2) → FnOk l.prog w K mg base (L2.CX l.prog w) k fa fd [x] (spF (Gm lam tf K mg) 1 m))
    (pl : ∀ ns : List Int, ns.length ≤ n → (∀ z ∈ ns, Builtin.Int.intBits z ≤ 1048576) → ∃ h, m [.lst (ns.map D.int)] [] = .ok (.bl true) h) :
    LawAtM l w K (L2.CX l.prog w) k n x mg fa h := by
  have mem : ∀ {p : Addr × Addr}, p ∈ tf.map (fun f => cT K (f, none)) → ∃ f, (f, none) ∈ (tf.map fun f => ((f, none) : Defn)) ∧ p = cT K (f, none) := fun {p} hp => by
    obtain ⟨f, hf, rfl⟩ := List.mem_map.mp hp
    exact ⟨f, List.mem_map.mpr ⟨f, hf, rfl⟩, rfl⟩
  refine ⟨fd, tf.map (fun f => cT K (f, none)), spF (Gm lam tf K mg) 1 m, fun p hp => ?_, fun p hp => ?_, fun p hp => ?_, hb, fun H a ns hl hz hT hS => hsp_of hT hS (pl ns hl hz), fun base _ _ tb => F base fun f hf => tb _ (List.mem_map.mpr ⟨f, hf, rfl⟩)⟩
  · obtain ⟨f, hf, rfl⟩ := mem hp; exact c.empty _ hf
  · obtain ⟨f, hf, rfl⟩ := mem hp; exact c.out _ hf
  · obtain ⟨f, hf, rfl⟩ := mem hp; exact PySem.W.codeHd_of_K X (c.hd _ hf)
end
end MP
end
section
set_option Elab.async false
set_option linter.all false
set_option maxRecDepth 100000
set_option maxHeartbeats 2000000
/-! M25: reading a mirror: what an expression and a statement end with. -/
namespace MP
open PySem PySem.Spec PyProof.Rows L2

/-! ### pure and cut promises -/
section
variable {Γ : G} {P : Program} {w : World} {K : PySem.W.Frag} {mg : Str → Option Value} {base : Heap} {CX : CXT} {k n : Nat} {f : Addr} {fd : FuncData} {ps : List Str} {m : MF}
theorem FnOk.pure (F : FnOk P w K mg base CX k f fd ps (spF Γ n m)) : FnOk P w K mg base CX k f fd ps (spF Γ n (pureF m)) :=
  (FnOk.fz F).imp fun _ _ _ _ q => spF_pure q
theorem FnOk.cut (F : FnOk P w K mg base CX k f fd ps (spF Γ n m)) : FnOk P w K mg base CX k f fd ps (spF Γ n (cutF m)) :=
  (FnOk.fz F).imp fun _ _ _ _ q => spF_cut q
end

/-! ### ends -/
/-- a continuation that is not looked into -/
inductive Tg {α : Type} (f : α) : Type
  | u
def Kp {α : Type} (f : α) (t : Tg f) : α := f
theorem Kp_app {β : Type} {f : β → List MO → Prop} {t : Tg f} {d : β} {h : List MO} : Kp f t d h = f d h := id rfl
def Ok {α : Type} (r : Res α) (P : α → List MO → Prop) : Prop := match r with
  | .ok a h => P a h
  | _ => False
/-- an expression that may raise -/
def OkX {α : Type} (r : Res α) (P : α → List MO → Prop) (X : Ex → List MO → Prop) : Prop := match r with
  | .ok a h => P a h
  | .err e h => X e h
  | .stuck => False
structure Po where
  nx : Rho → List MO → Prop
  rt : D → List MO → Prop := fun _ _ => False
  bk : Rho → List MO → Prop := fun _ _ => False
  ct : Rho → List MO → Prop := fun _ _ => False
  er : Ex → List MO → Prop := fun _ _ => False
def OkS (r : RS) (P : Po) : Prop := match r with
  | .nx ρ h => P.nx ρ h
  | .rt d h => P.rt d h
  | .bk ρ h => P.bk ρ h
  | .ct ρ h => P.ct ρ h
  | .err e _ h => P.er e h
  | .stuck => False

section
variable {α β : Type} {P P' : α → List MO → Prop} {X X' : Ex → List MO → Prop} {ρ : Rho} {h : List MO}
theorem OkX.mono {r : Res α} (a : OkX r P X) (b : ∀ d h, P d h → P' d h) (c : ∀ e h, X e h → X' e h) : OkX r P' X' := by
  cases r with
  | ok d h => exact b _ _ a
  | err e h => exact c _ _ a
  | stuck => exact a
theorem OkX.of_eq {r : Res α} {d : α} (e : r = .ok d h) (p : P d h) : OkX r P X := by rw [e]; exact p
theorem OkX.ex {r : Res α} (a : OkX r P fun _ _ => False) : ∃ d h, r = .ok d h ∧ P d h := by
  cases r with
  | ok d h => exact ⟨d, h, rfl, a⟩
  | err e h => exact a.elim
  | stuck => exact a.elim
theorem OkX_ok {d : α} : OkX (.ok d h) P X = P d h := id rfl
theorem OkX_err {e : Ex} : OkX (α := α) (.err e h) P X = X e h := id rfl
theorem OkX_bind {r : Res β} {k : β → List MO → Res α} : OkX (r.bind k) P X = OkX r (fun a h => OkX (k a h) P X) X := by
  cases r <;> rfl
theorem OkS_toS {r : Res α} {k : α → List MO → RS} {N : Po} : OkS (r.toS ρ k) N = OkX r (fun a h => OkS (k a h) N) N.er := by
  cases r <;> rfl
theorem OkX_ite {c : Prop} [Decidable c] {a b : Res α} : OkX (if c then a else b) P X = if c then OkX a P X else OkX b P X := by split <;> rfl
theorem OkS_ite {c : Prop} [Decidable c] {a b : RS} {N : Po} : OkS (if c then a else b) N = if c then OkS a N else OkS b N := by split <;> rfl
end
/-! expressions -/
section
variable {P : D → List MO → Prop} {PB : Bool → List MO → Prop} {PA : List D → List MO → Prop} {X : Ex → List MO → Prop} {N : Po} {ρ : Rho} {h : List MO}
theorem w_var {i : Nat} : OkX (xVar i ρ h) P X = match ρ[i]? with
    | some (some d) => P d h
    | _ => False := by
  unfold xVar
  cases e : ρ[i]? with
  | none => rfl
  | some o => cases o <;> rfl
theorem w_c {d : D} : OkX (xC d ρ h) P X = P d h := id rfl
theorem v_op2 {g : D → D → List MO → Res D} {a b : ME} : OkX (xOp2 g a b ρ h) P X = OkX (a ρ h) (fun x h1 => OkX (b ρ h1) (fun y h2 => OkX (g x y h2) P X) X) X := by
  unfold xOp2; rw [OkX_bind]; congr; funext x h1; rw [OkX_bind]
theorem w_op2 {g : D → D → List MO → Res D} {a b : ME} : OkX (xOp2 g a b ρ h) P X = OkX (a ρ h) (Kp (fun x h1 => OkX (b ρ h1) (Kp (fun y h2 => OkX (g x y h2) P X) .u) X) .u) X := v_op2
theorem v_op1 {g : D → List MO → Res D} {a : ME} : OkX (xOp1 g a ρ h) P X = OkX (a ρ h) (fun x h1 => OkX (g x h1) P X) X := by
  unfold xOp1; rw [OkX_bind]
theorem w_op1 {g : D → List MO → Res D} {a : ME} : OkX (xOp1 g a ρ h) P X = OkX (a ρ h) (Kp (fun x h1 => OkX (g x h1) P X) .u) X := v_op1
theorem v_cb {g : List D → List MO → Res D} {a : MA} : OkX (xCB g a ρ h) P X = OkX (a ρ h) (fun x h1 => OkX (g x h1) P X) X := by
  unfold xCB; rw [OkX_bind]
theorem w_cb {g : List D → List MO → Res D} {a : MA} : OkX (xCB g a ρ h) P X = OkX (a ρ h) (Kp (fun x h1 => OkX (g x h1) P X) .u) X := v_cb
theorem w_nil : OkX (aNil ρ h) PA X = PA [] h := id rfl
theorem v_cons {f : ME} {g : MA} : OkX (aCons f g ρ h) PA X = OkX (f ρ h) (fun d h1 => OkX (g ρ h1) (fun ds h2 => PA (d :: ds) h2) X) X := by
  unfold aCons; rw [OkX_bind]; congr; funext x h1; rw [OkX_bind]; rfl
theorem w_cons {f : ME} {g : MA} : OkX (aCons f g ρ h) PA X = OkX (f ρ h) (Kp (fun d h1 => OkX (g ρ h1) (Kp (fun ds h2 => PA (d :: ds) h2) .u) X) .u) X := v_cons
theorem v_tup {f : MA} : OkX (xTup f ρ h) P X = OkX (f ρ h) (fun ds h1 => OkX (if ds.length ≤ LINE then .ok (.tup ds) h1 else .stuck) P X) X := by
  unfold xTup; rw [OkX_bind]
theorem w_tup {f : MA} : OkX (xTup f ρ h) P X = OkX (f ρ h) (Kp (fun ds h1 => OkX (if ds.length ≤ LINE then .ok (.tup ds) h1 else .stuck) P X) .u) X := v_tup
theorem v_lst {f : MA} : OkX (xLst f ρ h) P X = OkX (f ρ h) (fun ds h1 => OkX (if ds.length ≤ LINE then .ok (.lst ds) h1 else .stuck) P X) X := by
  unfold xLst; rw [OkX_bind]
theorem w_lst {f : MA} : OkX (xLst f ρ h) P X = OkX (f ρ h) (Kp (fun ds h1 => OkX (if ds.length ≤ LINE then .ok (.lst ds) h1 else .stuck) P X) .u) X := v_lst
theorem v_new {f : MA} : OkX (xNew f ρ h) P X = OkX (f ρ h) (fun ds h1 => OkX (if ds.length ≤ LINE then .ok (.ref h1.length) (h1 ++ [.lst ds]) else .stuck) P X) X := by
  unfold xNew; rw [OkX_bind]
theorem w_new {f : MA} : OkX (xNew f ρ h) P X = OkX (f ρ h) (Kp (fun ds h1 => OkX (if ds.length ≤ LINE then .ok (.ref h1.length) (h1 ++ [.lst ds]) else .stuck) P X) .u) X := v_new
theorem v_if {c : MT} {a b : ME} : OkX (xIf c a b ρ h) P X = OkX (c ρ h) (fun t h1 => if t then OkX (a ρ h1) P X else OkX (b ρ h1) P X) X := by
  unfold xIf; rw [OkX_bind]; congr; funext x h1; exact OkX_ite
theorem w_if {c : MT} {a b : ME} : OkX (xIf c a b ρ h) P X = OkX (c ρ h) (Kp (fun t h1 => if t then OkX (a ρ h1) P X else OkX (b ρ h1) P X) .u) X := v_if
theorem v_test {f : ME} : OkX (xTest f ρ h) PB X = OkX (f ρ h) (fun d h1 => ∃ b, d = .bl b ∧ PB b h1) X := by
  unfold xTest; rw [OkX_bind]; congr; funext d h1
  cases d <;> simp [OkX]
theorem w_test {f : ME} : OkX (xTest f ρ h) PB X = OkX (f ρ h) (Kp (fun d h1 => ∃ b, d = .bl b ∧ PB b h1) .u) X := v_test
theorem v_tru {f : ME} : OkX (xTru f ρ h) PB X = OkX (f ρ h) (fun d h1 => ∃ b, truD h1 d = some b ∧ PB b h1) X := by
  unfold xTru; rw [OkX_bind]; congr; funext d h1
  cases truD h1 d <;> simp [OkX]
theorem w_tru {f : ME} : OkX (xTru f ρ h) PB X = OkX (f ρ h) (Kp (fun d h1 => ∃ b, truD h1 d = some b ∧ PB b h1) .u) X := v_tru
theorem v_not {a : MT} : OkX (xNot a ρ h) PB X = OkX (a ρ h) (fun c h1 => PB (!c) h1) X := by
  unfold xNot; rw [OkX_bind]; rfl
theorem w_not {a : MT} : OkX (xNot a ρ h) PB X = OkX (a ρ h) (Kp (fun c h1 => PB (!c) h1) .u) X := v_not
theorem v_and {a b : MT} : OkX (xAnd a b ρ h) PB X = OkX (a ρ h) (fun c h1 => if c then OkX (b ρ h1) PB X else PB false h1) X := by
  unfold xAnd; rw [OkX_bind]; congr; funext c h1; cases c <;> rfl
theorem w_and {a b : MT} : OkX (xAnd a b ρ h) PB X = OkX (a ρ h) (Kp (fun c h1 => if c then OkX (b ρ h1) PB X else PB false h1) .u) X := v_and
theorem v_or {a b : MT} : OkX (xOr a b ρ h) PB X = OkX (a ρ h) (fun c h1 => if c then PB true h1 else OkX (b ρ h1) PB X) X := by
  unfold xOr; rw [OkX_bind]; congr; funext c h1; cases c <;> rfl
theorem w_or {a b : MT} : OkX (xOr a b ρ h) PB X = OkX (a ρ h) (Kp (fun c h1 => if c then PB true h1 else OkX (b ρ h1) PB X) .u) X := v_or
theorem v_andV {a b : ME} : OkX (xAndV a b ρ h) P X = OkX (a ρ h) (fun d h1 => ∃ c, d = .bl c ∧ if c then OkX (b ρ h1) P X else P (.bl false) h1) X := by
  unfold xAndV; rw [OkX_bind]; congr; funext d h1
  cases d with
  | bl b => cases b <;> simp [OkX]
  | _ => simp [OkX]
theorem w_andV {a b : ME} : OkX (xAndV a b ρ h) P X = OkX (a ρ h) (Kp (fun d h1 => ∃ c, d = .bl c ∧ if c then OkX (b ρ h1) P X else P (.bl false) h1) .u) X := v_andV
theorem v_orV {a b : ME} : OkX (xOrV a b ρ h) P X = OkX (a ρ h) (fun d h1 => ∃ c, d = .bl c ∧ if c then P (.bl true) h1 else OkX (b ρ h1) P X) X := by
  unfold xOrV; rw [OkX_bind]; congr; funext d h1
  cases d with
  | bl b => cases b <;> simp [OkX]
  | _ => simp [OkX]
theorem w_orV {a b : ME} : OkX (xOrV a b ρ h) P X = OkX (a ρ h) (Kp (fun d h1 => ∃ c, d = .bl c ∧ if c then P (.bl true) h1 else OkX (b ρ h1) P X) .u) X := v_orV
theorem v_notV {a : ME} : OkX (xNotV a ρ h) P X = OkX (a ρ h) (fun d h1 => ∃ c, d = .bl c ∧ P (.bl (!c)) h1) X := by
  unfold xNotV; rw [OkX_bind]; congr; funext d h1
  cases d <;> simp [OkX]
theorem w_notV {a : ME} : OkX (xNotV a ρ h) P X = OkX (a ρ h) (Kp (fun d h1 => ∃ c, d = .bl c ∧ P (.bl (!c)) h1) .u) X := v_notV
theorem v_chain {g g' : D → D → List MO → Res D} {a b c : ME} : OkX (xChain g g' a b c ρ h) P X = OkX (a ρ h) (fun x h1 => OkX (b ρ h1) (fun y h2 => OkX (g x y h2) (fun z h3 => ∃ t, z = .bl t ∧ if t then OkX (c ρ h3) (fun w h4 => OkX (g' y w h4) P X) X else P (.bl false) h3) X) X) X := by
  unfold xChain; rw [OkX_bind]; congr; funext x h1; rw [OkX_bind]; congr; funext y h2; rw [OkX_bind]; congr; funext z h3
  cases z with
  | bl b => cases b <;> simp [OkX_bind, OkX_ok]
  | _ => simp [OkX]
theorem w_chain {g g' : D → D → List MO → Res D} {a b c : ME} : OkX (xChain g g' a b c ρ h) P X = OkX (a ρ h) (Kp (fun x h1 => OkX (b ρ h1) (Kp (fun y h2 => OkX (g x y h2) (Kp (fun z h3 => ∃ t, z = .bl t ∧ if t then OkX (c ρ h3) (Kp (fun w h4 => OkX (g' y w h4) P X) .u) X else P (.bl false) h3) .u) X) .u) X) .u) X := v_chain
theorem v_call {g : MF} {dds : List D} {a : MA} : OkX (xCall g dds a ρ h) P X = OkX (a ρ h) (fun ds h1 => OkX (g (ds ++ dds) h1) P X) X := by
  unfold xCall; rw [OkX_bind]
theorem w_call {g : MF} {dds : List D} {a : MA} : OkX (xCall g dds a ρ h) P X = OkX (a ρ h) (Kp (fun ds h1 => OkX (g (ds ++ dds) h1) P X) .u) X := v_call
theorem v_callK {g : MF} {src : List Src} {a b : MA} : OkX (xCallK g src a b ρ h) P X = OkX (a ρ h) (fun ds h1 => OkX (b ρ h1) (fun es h2 => OkX (g (src.map (Src.pick ds es)) h2) P X) X) X := by
  unfold xCallK; rw [OkX_bind]; congr; funext x h1; rw [OkX_bind]
theorem w_callK {g : MF} {src : List Src} {a b : MA} : OkX (xCallK g src a b ρ h) P X = OkX (a ρ h) (Kp (fun ds h1 => OkX (b ρ h1) (Kp (fun es h2 => OkX (g (src.map (Src.pick ds es)) h2) P X) .u) X) .u) X := v_callK
theorem v_sl {a : ME} {l u : Option ME} : OkX (xSl a l u ρ h) P X = OkX (a ρ h) (fun x h1 => OkX (xPart l ρ h1) (fun i h2 => OkX (xPart u ρ h2) (fun j h3 => OkX (oSl x i j h3) P X) X) X) X := by
  unfold xSl; rw [OkX_bind]; congr; funext x h1; rw [OkX_bind]; congr; funext y h2; rw [OkX_bind]
theorem w_sl {a : ME} {l u : Option ME} : OkX (xSl a l u ρ h) P X = OkX (a ρ h) (Kp (fun x h1 => OkX (xPart l ρ h1) (Kp (fun i h2 => OkX (xPart u ρ h2) (Kp (fun j h3 => OkX (oSl x i j h3) P X) .u) X) .u) X) .u) X := v_sl
theorem w_part0 {PO : Option Int → List MO → Prop} : OkX (xPart none ρ h) PO X = PO none h := id rfl
theorem v_part1 {f : ME} {PO : Option Int → List MO → Prop} : OkX (xPart (some f) ρ h) PO X = OkX (f ρ h) (fun d h1 => ∃ i, d = .int i ∧ PO (some i) h1) X := by
  unfold xPart; show OkX ((f ρ h).bind _) PO X = _; rw [OkX_bind]; congr; funext d h1
  cases d <;> simp [OkX]
theorem w_part1 {f : ME} {PO : Option Int → List MO → Prop} : OkX (xPart (some f) ρ h) PO X = OkX (f ρ h) (Kp (fun d h1 => ∃ i, d = .int i ∧ PO (some i) h1) .u) X := v_part1
theorem v_isi {ns : List String} {f : ME} : OkX (xIsi ns f ρ h) P X = OkX (f ρ h) (fun d h1 => ∃ b, isiD ns d = some b ∧ P (.bl b) h1) X := by
  unfold xIsi; rw [OkX_bind]; congr; funext d h1
  cases isiD ns d <;> simp [OkX]
theorem w_isi {ns : List String} {f : ME} : OkX (xIsi ns f ρ h) P X = OkX (f ρ h) (Kp (fun d h1 => ∃ b, isiD ns d = some b ∧ P (.bl b) h1) .u) X := v_isi
theorem v_join {a b : ME} : OkX (xJoin a b ρ h) P X = OkX (a ρ h) (fun s h1 => ∃ sep, s = .str sep ∧ OkX (b ρ h1) (fun d h2 => OkX (oJoin sep d h2) P X) X) X := by
  unfold xJoin; rw [OkX_bind]; congr; funext d h1
  cases d with
  | str l => simp only [D.str.injEq, exists_eq_left', OkX_bind]
  | _ => simp [OkX]
theorem w_join {a b : ME} : OkX (xJoin a b ρ h) P X = OkX (a ρ h) (Kp (fun s h1 => ∃ sep, s = .str sep ∧ OkX (b ρ h1) (Kp (fun d h2 => OkX (oJoin sep d h2) P X) .u) X) .u) X := v_join
theorem v_mt {g : List D → List D → Option (D × List D)} {a : ME} {b : MA} : OkX (xMt g a b ρ h) P X = OkX (a ρ h) (fun o h1 => ∃ i, o = .ref i ∧ OkX (b ρ h1) (fun ds h2 => match hl h2 i with
    | some es => (match g es ds with
      | some (d, es') => P d (h2.set i (.lst es'))
      | none => False)
    | none => False) X) X := by
  unfold xMt; rw [OkX_bind]; congr; funext d h1
  cases d with
  | ref i =>
    simp only [D.ref.injEq, exists_eq_left', OkX_bind]
    apply congrArg (fun z => OkX (b ρ h1) z X)
    funext ds h2
    cases hl h2 i with
    | none => rfl
    | some es =>
      cases e2 : g es ds with
      | none => simp only [e2]; rfl
      | some p => obtain ⟨d, es'⟩ := p; simp only [e2]; rfl
  | _ => simp [OkX]
theorem w_mt {g : List D → List D → Option (D × List D)} {a : ME} {b : MA} : OkX (xMt g a b ρ h) P X = OkX (a ρ h) (Kp (fun o h1 => ∃ i, o = .ref i ∧ OkX (b ρ h1) (Kp (fun ds h2 => match hl h2 i with
    | some es => (match g es ds with
      | some (d, es') => P d (h2.set i (.lst es'))
      | none => False)
    | none => False) .u) X) .u) X := v_mt
theorem v_lc {i : MI} {p : Pat} {t : MT} {e : ME} {own : List Nat} : OkX (xLc i p t e own ρ h) P X = OkX (xLcA i p t e own ρ h) (fun ds h1 => P (.lst ds) h1) X := by
  unfold xLc; rw [OkX_bind]; rfl
theorem w_lc {i : MI} {p : Pat} {t : MT} {e : ME} {own : List Nat} : OkX (xLc i p t e own ρ h) P X = OkX (xLcA i p t e own ρ h) (Kp (fun ds h1 => P (.lst ds) h1) .u) X := v_lc
theorem v_lcN {i : MI} {p : Pat} {t : MT} {e : ME} {own : List Nat} : OkX (xLcN i p t e own ρ h) P X = OkX (xLcA i p t e own ρ h) (fun ds h1 => P (.ref h1.length) (h1 ++ [.lst ds])) X := by
  unfold xLcN; rw [OkX_bind]; rfl
theorem w_lcN {i : MI} {p : Pat} {t : MT} {e : ME} {own : List Nat} : OkX (xLcN i p t e own ρ h) P X = OkX (xLcA i p t e own ρ h) (Kp (fun ds h1 => P (.ref h1.length) (h1 ++ [.lst ds])) .u) X := v_lcN
theorem v_lcA {i : MI} {p : Pat} {t : MT} {e : ME} {own : List Nat} : OkX (xLcA i p t e own ρ h) PA X = OkX (i ρ h) (fun it h1 => OkX (loopC p t e it (wipeD ρ own) it.items [] h1) PA X) X := by
  unfold xLcA; rw [OkX_bind]
theorem w_lcA {i : MI} {p : Pat} {t : MT} {e : ME} {own : List Nat} : OkX (xLcA i p t e own ρ h) PA X = OkX (i ρ h) (Kp (fun it h1 => OkX (loopC p t e it (wipeD ρ own) it.items [] h1) PA X) .u) X := v_lcA
/-! what is walked -/
variable {PI : IterD → List MO → Prop}
theorem v_it {f : ME} : OkX (xIt f ρ h) PI X = OkX (f ρ h) (fun d h1 => ∃ it, itemsD h1 d = some it ∧ PI it h1) X := by
  unfold xIt; rw [OkX_bind]; congr; funext d h1
  cases itemsD h1 d <;> simp [OkX]
theorem w_it {f : ME} : OkX (xIt f ρ h) PI X = OkX (f ρ h) (Kp (fun d h1 => ∃ it, itemsD h1 d = some it ∧ PI it h1) .u) X := v_it
theorem v_range1 {f : MA} : OkX (xRange1 f ρ h) PI X = OkX (f ρ h) (fun ds h1 => match ds with
    | [.int j] => big62 j ∧ PI ⟨rangeD 0 j.toNat, none⟩ h1
    | _ => False) X := by
  unfold xRange1; rw [OkX_bind]; congr; funext ds h1
  split
  · rename_i j; rw [OkX_ite]; by_cases hb : big62 j
    · rw [if_pos hb]; exact propext ⟨fun z => ⟨hb, z⟩, fun z => z.2⟩
    · rw [if_neg hb]; exact propext ⟨fun z => z.elim, fun z => hb z.1⟩
  · simp_all [OkX, OkS]
theorem w_range1 {f : MA} : OkX (xRange1 f ρ h) PI X = OkX (f ρ h) (Kp (fun ds h1 => match ds with
    | [.int j] => big62 j ∧ PI ⟨rangeD 0 j.toNat, none⟩ h1
    | _ => False) .u) X := v_range1
theorem v_range2 {f : MA} : OkX (xRange2 f ρ h) PI X = OkX (f ρ h) (fun ds h1 => match ds with
    | [.int i, .int j] => (big62 i ∧ big62 j) ∧ PI ⟨rangeD i (j - i).toNat, none⟩ h1
    | _ => False) X := by
  unfold xRange2; rw [OkX_bind]; congr; funext ds h1
  split
  · rename_i i j; rw [OkX_ite]; by_cases hb : big62 i ∧ big62 j
    · rw [if_pos hb]; exact propext ⟨fun z => ⟨hb, z⟩, fun z => z.2⟩
    · rw [if_neg hb]; exact propext ⟨fun z => z.elim, fun z => hb z.1⟩
  · simp_all [OkX, OkS]
theorem w_range2 {f : MA} : OkX (xRange2 f ρ h) PI X = OkX (f ρ h) (Kp (fun ds h1 => match ds with
    | [.int i, .int j] => (big62 i ∧ big62 j) ∧ PI ⟨rangeD i (j - i).toNat, none⟩ h1
    | _ => False) .u) X := v_range2
theorem v_enum {f : MA} : OkX (xEnum f ρ h) PI X = OkX (f ρ h) (fun ds h1 => match ds with
    | [.lst es] => PI ⟨enumD 0 es, none⟩ h1
    | [.ref i] => (match hl h1 i with
      | some es => PI ⟨enumD 0 es, some (i, es)⟩ h1
      | none => False)
    | _ => False) X := by
  unfold xEnum; rw [OkX_bind]; congr; funext ds h1
  split
  · rfl
  · rename_i i
    cases e : hl h1 i with
    | none => simp only [e]; rfl
    | some es => simp only [e]; rfl
  · simp_all [OkX, OkS]
theorem w_enum {f : MA} : OkX (xEnum f ρ h) PI X = OkX (f ρ h) (Kp (fun ds h1 => match ds with
    | [.lst es] => PI ⟨enumD 0 es, none⟩ h1
    | [.ref i] => (match hl h1 i with
      | some es => PI ⟨enumD 0 es, some (i, es)⟩ h1
      | none => False)
    | _ => False) .u) X := v_enum
theorem v_enumS {f : MA} : OkX (xEnumS f ρ h) PI X = OkX (f ρ h) (fun ds h1 => match ds with
    | [.str l] => PI ⟨enumD 0 (l.map fun c => .str [c]), none⟩ h1
    | _ => False) X := by
  unfold xEnumS; rw [OkX_bind]; congr; funext ds h1
  split <;> first | rfl | simp_all [OkX, OkS]
theorem w_enumS {f : MA} : OkX (xEnumS f ρ h) PI X = OkX (f ρ h) (Kp (fun ds h1 => match ds with
    | [.str l] => PI ⟨enumD 0 (l.map fun c => .str [c]), none⟩ h1
    | _ => False) .u) X := v_enumS
theorem v_zip {f : MA} : OkX (xZip f ρ h) PI X = OkX (f ρ h) (fun ds h1 => match ds with
    | [.lst a, .lst b] => PI ⟨zipD a b, none⟩ h1
    | [.tup a, .tup b] => PI ⟨zipD a b, none⟩ h1
    | _ => False) X := by
  unfold xZip; rw [OkX_bind]; congr; funext ds h1
  split <;> first | rfl | simp_all [OkX, OkS]
theorem w_zip {f : MA} : OkX (xZip f ρ h) PI X = OkX (f ρ h) (Kp (fun ds h1 => match ds with
    | [.lst a, .lst b] => PI ⟨zipD a b, none⟩ h1
    | [.tup a, .tup b] => PI ⟨zipD a b, none⟩ h1
    | _ => False) .u) X := v_zip
/-! statements -/
theorem w_sNil : OkS (sNil ρ h) N = N.nx ρ h := id rfl
theorem v_seq {a b : MS} : OkS (sSeq a b ρ h) N = OkS (a ρ h) { N with nx := fun ρ1 h1 => OkS (b ρ1 h1) N } := by
  unfold sSeq; cases a ρ h <;> rfl
theorem w_seq {a b : MS} : OkS (sSeq a b ρ h) N = OkS (a ρ h) { N with nx := Kp (fun ρ1 h1 => OkS (b ρ1 h1) N) .u } := v_seq
theorem w_break : OkS (sBreak ρ h) N = N.bk ρ h := id rfl
theorem w_cont : OkS (sCont ρ h) N = N.ct ρ h := id rfl
theorem v_expr {f : ME} : OkS (sExpr f ρ h) N = OkX (f ρ h) (fun _ h1 => N.nx ρ h1) N.er := by unfold sExpr; rw [OkS_toS]; rfl
theorem w_expr {f : ME} : OkS (sExpr f ρ h) N = OkX (f ρ h) (Kp (fun _ h1 => N.nx ρ h1) .u) N.er := v_expr
theorem v_ret {f : ME} : OkS (sRet f ρ h) N = OkX (f ρ h) (fun d h1 => N.rt d h1) N.er := by unfold sRet; rw [OkS_toS]; rfl
theorem w_ret {f : ME} : OkS (sRet f ρ h) N = OkX (f ρ h) (Kp (fun d h1 => N.rt d h1) .u) N.er := v_ret
theorem w_retN : OkS (sRetN ρ h) N = N.rt .non h := id rfl
theorem v_sIf {c : MT} {a b : MS} : OkS (sIf c a b ρ h) N = OkX (c ρ h) (fun t h1 => if t then OkS (a ρ h1) N else OkS (b ρ h1) N) N.er := by
  unfold sIf; rw [OkS_toS]; congr; funext t h1; exact OkS_ite
theorem w_sIf {c : MT} {a b : MS} : OkS (sIf c a b ρ h) N = OkX (c ρ h) (Kp (fun t h1 => if t then OkS (a ρ h1) N else OkS (b ρ h1) N) .u) N.er := v_sIf
theorem v_set {i : Nat} {f : ME} : OkS (sSet i f ρ h) N = OkX (f ρ h) (fun d h1 => N.nx (ρ.set i (some d)) h1) N.er := by unfold sSet; rw [OkS_toS]; rfl
theorem w_set {i : Nat} {f : ME} : OkS (sSet i f ρ h) N = OkX (f ρ h) (Kp (fun d h1 => N.nx (ρ.set i (some d)) h1) .u) N.er := v_set
theorem v_par {i j : Nat} {f : MA} : OkS (sPar i j f ρ h) N = OkX (f ρ h) (fun ds h1 => match ds with
    | [a, b] => N.nx ((ρ.set i (some a)).set j (some b)) h1
    | _ => False) N.er := by
  unfold sPar; rw [OkS_toS]; congr; funext ds h1
  split <;> first | rfl | simp_all [OkX, OkS]
theorem w_par {i j : Nat} {f : MA} : OkS (sPar i j f ρ h) N = OkX (f ρ h) (Kp (fun ds h1 => match ds with
    | [a, b] => N.nx ((ρ.set i (some a)).set j (some b)) h1
    | _ => False) .u) N.er := v_par
theorem v_par3 {i j l : Nat} {f : MA} : OkS (sPar3 i j l f ρ h) N = OkX (f ρ h) (fun ds h1 => match ds with
    | [a, b, c] => N.nx (((ρ.set i (some a)).set j (some b)).set l (some c)) h1
    | _ => False) N.er := by
  unfold sPar3; rw [OkS_toS]; congr; funext ds h1
  split <;> first | rfl | simp_all [OkX, OkS]
theorem w_par3 {i j l : Nat} {f : MA} : OkS (sPar3 i j l f ρ h) N = OkX (f ρ h) (Kp (fun ds h1 => match ds with
    | [a, b, c] => N.nx (((ρ.set i (some a)).set j (some b)).set l (some c)) h1
    | _ => False) .u) N.er := v_par3
theorem v_asg {p : Pat} {f : ME} : OkS (sAsg p f ρ h) N = OkX (f ρ h) (fun d h1 => match bindP p d ρ with
    | some ρ1 => N.nx ρ1 h1
    | none => False) N.er := by
  unfold sAsg; rw [OkS_toS]; congr; funext d h1
  cases bindP p d ρ <;> rfl
theorem w_asg {p : Pat} {f : ME} : OkS (sAsg p f ρ h) N = OkX (f ρ h) (Kp (fun d h1 => match bindP p d ρ with
    | some ρ1 => N.nx ρ1 h1
    | none => False) .u) N.er := v_asg
theorem v_aug {i : Nat} {g : D → D → List MO → Res D} {f : ME} : OkS (sAug i g f ρ h) N = match ρ[i]? with
    | some (some d) => OkX (f ρ h) (fun e h1 => OkX (g d e h1) (fun z h2 => N.nx (ρ.set i (some z)) h2) N.er) N.er
    | _ => False := by
  unfold sAug
  cases e : ρ[i]? with
  | none => rfl
  | some o => cases o with
    | none => rfl
    | some d => simp only [OkS_toS]; rfl
theorem w_aug {i : Nat} {g : D → D → List MO → Res D} {f : ME} : OkS (sAug i g f ρ h) N = match ρ[i]? with
    | some (some d) => OkX (f ρ h) (Kp (fun e h1 => OkX (g d e h1) (Kp (fun z h2 => N.nx (ρ.set i (some z)) h2) .u) N.er) .u) N.er
    | _ => False := v_aug
theorem v_sub {f fo fi : ME} : OkS (sSub f fo fi ρ h) N = OkX (f ρ h) (fun d h1 => OkX (fo ρ h1) (fun o h2 => OkX (fi ρ h2) (fun i h3 => match o, i with
    | .ref a, .int k => (match hl h3 a with
      | some ds => (match ixN ds.length k with
        | some j => N.nx ρ (h3.set a (.lst (ds.set j d)))
        | none => False)
      | none => False)
    | _, _ => False) N.er) N.er) N.er := by
  unfold sSub; rw [OkS_toS]; congr; funext d h1; rw [OkS_toS]; congr; funext o h2; rw [OkS_toS]; congr; funext i h3
  split
  · rename_i a k
    cases e0 : hl h3 a with
    | none => simp only [e0]; rfl
    | some ds =>
      simp only [e0]
      cases e : ixN ds.length k with
      | none => simp only [e]; rfl
      | some j => simp only [e]; rfl
  · simp_all [OkX, OkS]
theorem w_sub {f fo fi : ME} : OkS (sSub f fo fi ρ h) N = OkX (f ρ h) (Kp (fun d h1 => OkX (fo ρ h1) (Kp (fun o h2 => OkX (fi ρ h2) (Kp (fun i h3 => match o, i with
    | .ref a, .int k => (match hl h3 a with
      | some ds => (match ixN ds.length k with
        | some j => N.nx ρ (h3.set a (.lst (ds.set j d)))
        | none => False)
      | none => False)
    | _, _ => False) .u) N.er) .u) N.er) .u) N.er := v_sub
theorem v_for {i : MI} {p : Pat} {b : MS} : OkS (sFor i p b ρ h) N = OkX (i ρ h) (fun it h1 => OkS (loopF p b it it.items ρ h1) N) N.er := by unfold sFor; rw [OkS_toS]
theorem w_for {i : MI} {p : Pat} {b : MS} : OkS (sFor i p b ρ h) N = OkX (i ρ h) (Kp (fun it h1 => OkS (loopF p b it it.items ρ h1) N) .u) N.er := v_for
theorem v_raise {cls : Str} {fs : List Str} {f : MA} : OkS (sRaise cls fs f ρ h) N = OkX (f ρ h) (fun ds h1 => ds.length = fs.length ∧ N.er ⟨cls, fs.zip ds⟩ h1) N.er := by
  unfold sRaise; rw [OkS_toS]; congr; funext ds h1
  rw [OkS_ite]; by_cases e : ds.length = fs.length <;> simp [e, OkS]
theorem w_raise {cls : Str} {fs : List Str} {f : MA} : OkS (sRaise cls fs f ρ h) N = OkX (f ρ h) (Kp (fun ds h1 => ds.length = fs.length ∧ N.er ⟨cls, fs.zip ds⟩ h1) .u) N.er := v_raise
theorem v_run {n : Nat} {b : MS} {ds : List D} : OkX (runF n b ds h) P X = OkS (b (ds.map some ++ List.replicate (n - ds.length) none) h) ⟨fun _ h1 => P .non h1, P, fun _ _ => False, fun _ _ => False, X⟩ := by
  unfold runF; cases b (ds.map some ++ List.replicate (n - ds.length) none) h <;> rfl
theorem w_run {n : Nat} {b : MS} {ds : List D} : OkX (runF n b ds h) P X = OkS (b (ds.map some ++ List.replicate (n - ds.length) none) h) ⟨Kp (fun _ h1 => P .non h1) .u, P, fun _ _ => False, fun _ _ => False, X⟩ := v_run
theorem w_pure {m : MF} {ds : List D} (hb : belowDs 0 ds = true) (q : OkX (m ds []) (fun d h1 => ∃ d2, deD 0 h1 d = some d2 ∧ P d2 h) (fun e _ => belowDs 0 (e.fs.map (·.2)) = true ∧ X e h)) : OkX (pureF m ds h) P X := by
  unfold pureF; rw [if_pos hb]
  cases e : m ds [] with
  | ok d h1 =>
    rw [e] at q
    obtain ⟨d2, e2, p⟩ := q
    simp only [e2]; exact p
  | err ex h1 =>
    rw [e] at q
    obtain ⟨e2, p⟩ := q
    simp only [e2]; exact p
  | stuck => rw [e] at q; exact q.elim
theorem w_cut {m : MF} {ds : List D} (q : OkX (m ds h) (fun d h1 => ∃ d2, deD h.length h1 d = some d2 ∧ (h1.take h.length).all (belowM h.length) = true ∧ P d2 (h1.take h.length)) (fun e h1 => (h1.take h.length).all (belowM h.length) = true ∧ belowDs h.length (e.fs.map (·.2)) = true ∧ X e (h1.take h.length))) : OkX (cutF m ds h) P X := by
  unfold cutF
  cases e : m ds h with
  | ok d h1 =>
    rw [e] at q
    obtain ⟨d2, e2, e3, p⟩ := q
    simp only [e2, e3]; exact p
  | err ex h1 =>
    rw [e] at q
    obtain ⟨e2, e3, p⟩ := q
    simp only [e2, e3]; exact p
  | stuck => rw [e] at q; exact q.elim
/-! loops -/
theorem OkS.mono {r : RS} {N N' : Po} (a : OkS r N) (b1 : ∀ ρ h, N.nx ρ h → N'.nx ρ h) (b2 : ∀ ρ h, N.rt ρ h → N'.rt ρ h) (b3 : ∀ ρ h, N.bk ρ h → N'.bk ρ h) (b4 : ∀ ρ h, N.ct ρ h → N'.ct ρ h) (b5 : ∀ ρ h, N.er ρ h → N'.er ρ h) : OkS r N' := by
  cases r with
  | nx ρ h => exact b1 _ _ a
  | rt d h => exact b2 _ _ a
  | bk ρ h => exact b3 _ _ a
  | ct ρ h => exact b4 _ _ a
  | err e ρ h => exact b5 _ _ a
  | stuck => exact a
/-- a for: what holds, by what was taken -/
theorem w_loopF {p : Pat} {b : MS} {it : IterD} (I : List D → Rho → List MO → Prop) (ck : ∀ l ρ h, I l ρ h → ckOk it h = true) : ∀ (pre ds : List D) (ρ : Rho) (h : List MO), I pre ρ h →
    (∀ l d r ρ h, pre ++ ds = l ++ d :: r → I l ρ h → ∃ ρ1, bindP p d ρ = some ρ1 ∧ OkS (b ρ1 h) ⟨I (l ++ [d]), N.rt, N.nx, I (l ++ [d]), N.er⟩) →
    (∀ ρ h, I (pre ++ ds) ρ h → N.nx ρ h) → OkS (loopF p b it ds ρ h) N
  | pre, [], ρ, h, i, _, e => by
    unfold loopF; rw [if_pos (ck _ _ _ i)]
    exact e ρ h (by rw [List.append_nil]; exact i)
  | pre, d :: ds, ρ, h, i, t, e => by
    unfold loopF; rw [if_pos (ck _ _ _ i)]
    obtain ⟨ρ1, e1, q⟩ := t pre d ds ρ h rfl i
    have ea : pre ++ d :: ds = (pre ++ [d]) ++ ds := by simp
    have next := fun ρ h (i : I (pre ++ [d]) ρ h) => w_loopF I ck (pre ++ [d]) ds ρ h i (fun l d' r ρ h e' => t l d' r ρ h (ea.trans e')) (fun ρ h j => e ρ h (by rw [ea]; exact j))
    simp only [e1]
    cases eb : b ρ1 h with
    | nx ρ2 h2 => rw [eb] at q; exact next _ _ q
    | ct ρ2 h2 => rw [eb] at q; exact next _ _ q
    | bk ρ2 h2 => rw [eb] at q; exact q
    | rt d h2 => rw [eb] at q; exact q
    | err ex ρ2 h2 => rw [eb] at q; exact q
    | stuck => rw [eb] at q; exact q.elim
/-- a for over things of a row in plain Lean -/
theorem w_loopFm {α : Type} {p : Pat} {b : MS} {it : IterD} (f : α → D) (I : List α → Rho → List MO → Prop) (ck : ∀ l ρ h, I l ρ h → ckOk it h = true) (xs : List α) (ρ : Rho) (h : List MO) (i0 : I [] ρ h)
    (t : ∀ l x r ρ h, xs = l ++ x :: r → I l ρ h → ∃ ρ1, bindP p (f x) ρ = some ρ1 ∧ OkS (b ρ1 h) ⟨I (l ++ [x]), N.rt, N.nx, I (l ++ [x]), N.er⟩)
    (e : ∀ ρ h, I xs ρ h → N.nx ρ h) : OkS (loopF p b it (xs.map f) ρ h) N := by
  have gen : ∀ (ys pre : List α) (ρ : Rho) (h : List MO), pre ++ ys = xs → I pre ρ h → OkS (loopF p b it (ys.map f) ρ h) N := by
    intro ys
    induction ys with
    | nil => intro pre ρ h e1 i; rw [List.append_nil] at e1; subst e1; unfold loopF; rw [List.map_nil]; simp only [ck _ _ _ i, if_true]; exact e ρ h i
    | cons x ys ih =>
      intro pre ρ h e1 i
      unfold loopF; rw [List.map_cons]; simp only [ck _ _ _ i, if_true]
      obtain ⟨ρ1, e2, q⟩ := t pre x ys ρ h e1.symm i
      have next := fun ρ h (i : I (pre ++ [x]) ρ h) => ih (pre ++ [x]) ρ h (by rw [← e1]; simp) i
      simp only [e2]
      cases eb : b ρ1 h with
      | nx ρ2 h2 => rw [eb] at q; exact next _ _ q
      | ct ρ2 h2 => rw [eb] at q; exact next _ _ q
      | bk ρ2 h2 => rw [eb] at q; exact q
      | rt d h2 => rw [eb] at q; exact q
      | err ex ρ2 h2 => rw [eb] at q; exact q
      | stuck => rw [eb] at q; exact q.elim
  exact gen xs [] ρ h rfl i0
/-- a while: what holds, a number that falls -/
theorem w_loopW {c : MT} {b : MS} (I : Nat → Rho → List MO → Prop) (t : ∀ k ρ h, I k ρ h → OkX (c ρ h) (fun t h1 => if t then OkS (b ρ h1) ⟨fun ρ2 h2 => ∃ j, j < k ∧ I j ρ2 h2, N.rt, N.nx, fun ρ2 h2 => ∃ j, j < k ∧ I j ρ2 h2, N.er⟩ else N.nx ρ h1) N.er) :
    ∀ (n k : Nat) (ρ : Rho) (h : List MO), k < n → I k ρ h → OkS (loopW c b n ρ h) N
  | 0, k, _, _, hk, _ => absurd hk (Nat.not_lt_zero _)
  | n + 1, k, ρ, h, hk, i => by
    unfold loopW; rw [OkS_toS]
    refine (t k ρ h i).mono (fun tt h1 q => ?_) fun e h q => q
    cases tt with
    | false => exact q
    | true =>
      rw [if_pos rfl] at q ⊢
      cases eb : b ρ h1 with
      | nx ρ2 h2 => rw [eb] at q; obtain ⟨j, hj, i2⟩ := q; exact w_loopW I t n j ρ2 h2 (by omega) i2
      | ct ρ2 h2 => rw [eb] at q; obtain ⟨j, hj, i2⟩ := q; exact w_loopW I t n j ρ2 h2 (by omega) i2
      | bk ρ2 h2 => rw [eb] at q; exact q
      | rt d h2 => rw [eb] at q; exact q
      | err ex ρ2 h2 => rw [eb] at q; exact q
      | stuck => rw [eb] at q; exact q.elim
/-- a comprehension: what holds, by what was taken -/
theorem w_loopC {p : Pat} {ft : MT} {fe : ME} {it : IterD} {ρ0 : Rho} {α : Type} (f : α → D) (I : List α → List D → List MO → Prop) (ck : ∀ l a h, I l a h → ckOk it h = true) (xs : List α) (h : List MO) (i0 : I [] [] h)
    (t : ∀ l x r a h, xs = l ++ x :: r → I l a h → ∃ ρ1, bindP p (f x) ρ0 = some ρ1 ∧ OkX (ft ρ1 h) (fun c h1 => if c then OkX (fe ρ1 h1) (fun y h2 => a.length < LINE ∧ I (l ++ [x]) (a ++ [y]) h2) (fun _ _ => False) else I (l ++ [x]) a h1) fun _ _ => False)
    (e : ∀ a h, I xs a h → PA a h) : OkX (loopC p ft fe it ρ0 (xs.map f) [] h) PA X := by
  have gen : ∀ (ys pre : List α) (a : List D) (h : List MO), pre ++ ys = xs → I pre a h → OkX (loopC p ft fe it ρ0 (ys.map f) a h) PA X := by
    intro ys
    induction ys with
    | nil => intro pre a h e1 i; rw [List.append_nil] at e1; subst e1; unfold loopC; rw [List.map_nil]; simp only [ck _ _ _ i, if_true]; exact e a h i
    | cons x ys ih =>
      intro pre a h e1 i
      unfold loopC; rw [List.map_cons]; simp only [ck _ _ _ i, if_true]
      obtain ⟨ρ1, e2, q⟩ := t pre x ys a h e1.symm i
      have next := fun a h (i : I (pre ++ [x]) a h) => ih (pre ++ [x]) a h (by rw [← e1]; simp) i
      simp only [e2]
      obtain ⟨c, h1, e3, q⟩ := q.ex
      rw [e3]
      cases c with
      | false => exact next _ _ q
      | true =>
        rw [if_pos rfl] at q
        obtain ⟨y, h2, e4, hl, q⟩ := q.ex
        simp only [e4, hl, if_true]
        exact next _ _ q
  exact gen xs [] [] h rfl i0
end
end MP
end
section
set_option Elab.async false
set_option linter.all false
set_option maxRecDepth 100000
set_option maxHeartbeats 2000000
/-! M26: the reading as rules. -/
namespace MP
open PySem PySem.Spec PyProof.Rows L2
section
variable {P : D → List MO → Prop} {PA : List D → List MO → Prop} {X : Ex → List MO → Prop} {h : List MO}
theorem OkX_stuck {α : Type} {P : α → List MO → Prop} : OkX (Res.stuck : Res α) P X = False := id rfl
theorem OkX_guard {α : Type} {P : α → List MO → Prop} {c : Prop} [Decidable c] {d : α} : OkX (if c then .ok d h else .stuck) P X = (c ∧ P d h) := by
  by_cases e : c <;> simp [e, OkX]
theorem o_addS {a b : List Nat} : OkX (oAdd (.str a) (.str b) h) P X = (a.length + b.length ≤ LINE ∧ P (.str (a ++ b)) h) := OkX_guard
theorem o_addT {a b : List D} : OkX (oAdd (.tup a) (.tup b) h) P X = (a.length + b.length ≤ LINE ∧ P (.tup (a ++ b)) h) := OkX_guard
theorem o_addLr {a b : D} (ha : ∀ i, a ≠ .int i) (hs : ∀ i, a ≠ .str i) (ht : ∀ i, a ≠ .tup i) {x y : List D} (e1 : getL h a = some x) (e2 : getL h b = some y) : OkX (oAdd a b h) P X = (x.length + y.length ≤ LINE ∧ P (.lst (x ++ y)) h) := by
  unfold oAdd
  split
  · exact absurd rfl (ha _)
  · exact absurd rfl (hs _)
  · exact absurd rfl (ht _)
  · rw [e1, e2]; exact OkX_guard
theorem o_addLL {a b : List D} : OkX (oAdd (.lst a) (.lst b) h) P X = (a.length + b.length ≤ LINE ∧ P (.lst (a ++ b)) h) := o_addLr (fun _ z => by cases z) (fun _ z => by cases z) (fun _ z => by cases z) rfl rfl
theorem o_addRL {i : Nat} {b : List D} : OkX (oAdd (.ref i) (.lst b) h) P X = match hl h i with
    | some a => (a.length + b.length ≤ LINE ∧ P (.lst (a ++ b)) h)
    | none => False := by
  cases e : hl h i with
  | none => unfold oAdd; simp only [getL, e]; rfl
  | some a => simp only [o_addLr (a := .ref i) (b := .lst b) (fun _ z => by cases z) (fun _ z => by cases z) (fun _ z => by cases z) (h := h) e rfl]
theorem o_addII {i j : Int} : OkX (oAdd (.int i) (.int j) h) P X = P (.int (i + j)) h := id rfl
theorem o_subI {i j : Int} : OkX (oSub (.int i) (.int j) h) P X = P (.int (i - j)) h := id rfl
theorem o_mulI {i j : Int} : OkX (oMul (.int i) (.int j) h) P X = (mulOk i j ∧ P (.int (i * j)) h) := OkX_guard
theorem o_mulS {l : List Nat} {k : Int} : OkX (oMul (.str l) (.int k) h) P X = ((k < 2 ^ 40 ∧ - 2 ^ 40 < k ∧ l.length * k.toNat ≤ LINE) ∧ P (.str (repS k.toNat l)) h) := OkX_guard
theorem o_fdivI {i j : Int} : OkX (oFdiv (.int i) (.int j) h) P X = ((j ≠ 0 ∧ j.natAbs.log2 < 9000) ∧ P (.int (i.fdiv j)) h) := OkX_guard
theorem o_modI {i j : Int} : OkX (oMod (.int i) (.int j) h) P X = (j ≠ 0 ∧ P (.int (i.fmod j)) h) := OkX_guard
theorem o_powI {i j : Int} : OkX (oPow (.int i) (.int j) h) P X = ((0 ≤ j ∧ j ≤ 1000000 ∧ i.natAbs < 2 ^ 64) ∧ P (.int (i ^ j.toNat)) h) := OkX_guard
theorem o_negI {i : Int} : OkX (oNeg (.int i) h) P X = P (.int (-i)) h := id rfl
theorem o_ltI {i j : Int} : OkX (oLt (.int i) (.int j) h) P X = P (.bl (decide (i < j))) h := id rfl
theorem o_leI {i j : Int} : OkX (oLe (.int i) (.int j) h) P X = P (.bl (decide (i ≤ j))) h := id rfl
theorem o_gtI {i j : Int} : OkX (oGt (.int i) (.int j) h) P X = P (.bl (decide (j < i))) h := id rfl
theorem o_geI {i j : Int} : OkX (oGe (.int i) (.int j) h) P X = P (.bl (decide (j ≤ i))) h := id rfl
theorem o_ltS {i j : List Nat} : OkX (oLt (.str i) (.str j) h) P X = P (.bl (decide (i < j))) h := id rfl
theorem o_leS {i j : List Nat} : OkX (oLe (.str i) (.str j) h) P X = P (.bl (!decide (j < i))) h := id rfl
theorem o_gtS {i j : List Nat} : OkX (oGt (.str i) (.str j) h) P X = P (.bl (decide (j < i))) h := id rfl
theorem o_geS {i j : List Nat} : OkX (oGe (.str i) (.str j) h) P X = P (.bl (!decide (i < j))) h := id rfl
theorem o_eqI {i j : Int} : OkX (oEq (.int i) (.int j) h) P X = P (.bl (decide (i = j))) h := by
  show P (.bl (decide (D.int i = .int j))) h = _
  rw [show decide (D.int i = .int j) = decide (i = j) from by simp]
theorem o_eqS {i j : List Nat} : OkX (oEq (.str i) (.str j) h) P X = P (.bl (decide (i = j))) h := by
  show P (.bl (decide (D.str i = .str j))) h = _
  rw [show decide (D.str i = .str j) = decide (i = j) from by simp]
theorem o_neI {i j : Int} : OkX (oNe (.int i) (.int j) h) P X = P (.bl (!decide (i = j))) h := by
  show P (.bl (!decide (D.int i = .int j))) h = _
  rw [show decide (D.int i = .int j) = decide (i = j) from by simp]
theorem o_neS {i j : List Nat} : OkX (oNe (.str i) (.str j) h) P X = P (.bl (!decide (i = j))) h := by
  show P (.bl (!decide (D.str i = .str j))) h = _
  rw [show decide (D.str i = .str j) = decide (i = j) from by simp]
theorem o_eqD {a b : D} : OkX (oEq a b h) P X = match eqD h a b with
    | some c => P (.bl c) h
    | none => False := by unfold oEq; cases eqD h a b <;> rfl
theorem o_neD {a b : D} : OkX (oNe a b h) P X = match eqD h a b with
    | some c => P (.bl (!c)) h
    | none => False := by unfold oNe; cases eqD h a b <;> rfl
theorem o_isD {a b : D} : OkX (oIs a b h) P X = (isK b ∧ P (.bl (decide (a = b))) h) := OkX_guard
theorem o_isnotD {a b : D} : OkX (oIsNot a b h) P X = (isK b ∧ P (.bl (!decide (a = b))) h) := OkX_guard
theorem o_inS {neg : Bool} {c : Nat} {l : List Nat} : OkX (oIn neg (.str [c]) (.str l) h) P X = P (.bl (if neg then !decide (c ∈ l) else decide (c ∈ l))) h := id rfl
theorem o_inT {neg : Bool} {a : D} {ds : List D} : OkX (oIn neg a (.tup ds) h) P X = ((flatD a && ds.all flatD) = true ∧ P (.bl (if neg then !(ds.any fun y => eqF y a) else ds.any fun y => eqF y a)) h) := by
  unfold oIn; split
  · rename_i e; cases e
  · simp only [getQ, getL]; exact OkX_guard
theorem o_inL {neg : Bool} {a : D} {ds : List D} : OkX (oIn neg a (.lst ds) h) P X = ((flatD a && ds.all flatD) = true ∧ P (.bl (if neg then !(ds.any fun y => eqF y a) else ds.any fun y => eqF y a)) h) := by
  unfold oIn; split
  · rename_i e; cases e
  · simp only [getQ, getL]; exact OkX_guard
theorem o_ixS {l : List Nat} {i : Int} : OkX (oIx (.str l) (.int i) h) P X = (l.length ≤ LINE ∧ match atI l i with
    | some c => P (.str [c]) h
    | none => False) := by
  unfold oIx
  by_cases e : l.length ≤ LINE
  · simp only [e, if_true, true_and]; cases atI l i <;> rfl
  · simp [e, OkX]
theorem o_ixT {l : List D} {i : Int} : OkX (oIx (.tup l) (.int i) h) P X = match atI l i with
    | some c => P c h
    | none => False := by
  unfold oIx; simp only [getQ]; cases atI l i <;> rfl
theorem o_ixL {l : List D} {i : Int} : OkX (oIx (.lst l) (.int i) h) P X = match atI l i with
    | some c => P c h
    | none => False := by
  unfold oIx; simp only [getQ, getL]; cases atI l i <;> rfl
theorem o_ixR {a : Nat} {i : Int} : OkX (oIx (.ref a) (.int i) h) P X = match hl h a with
    | some l => (match atI l i with
      | some c => P c h
      | none => False)
    | none => False := by
  unfold oIx; simp only [getQ, getL]
  cases hl h a with
  | none => rfl
  | some l => simp only; cases atI l i <;> rfl
theorem o_slS {l : List Nat} {a b : Option Int} : OkX (oSl (.str l) a b h) P X = (l.length ≤ LINE ∧ P (.str (cutD l a b)) h) := OkX_guard
theorem o_slT {l : List D} {a b : Option Int} : OkX (oSl (.tup l) a b h) P X = P (.tup (cutD l a b)) h := id rfl
theorem o_slL {l : List D} {a b : Option Int} : OkX (oSl (.lst l) a b h) P X = P (.lst (cutD l a b)) h := id rfl
theorem o_slR {i : Nat} {a b : Option Int} : OkX (oSl (.ref i) a b h) P X = match hl h i with
    | some l => P (.lst (cutD l a b)) h
    | none => False := by
  unfold oSl; simp only [getL]; cases hl h i <;> rfl
theorem o_lenS {l : List Nat} : OkX (oLen [.str l] h) P X = (l.length ≤ LINE ∧ P (.int l.length) h) := OkX_guard
theorem o_lenT {l : List D} : OkX (oLen [.tup l] h) P X = P (.int l.length) h := id rfl
theorem o_lenL {l : List D} : OkX (oLen [.lst l] h) P X = P (.int l.length) h := id rfl
theorem o_lenR {i : Nat} : OkX (oLen [.ref i] h) P X = match hl h i with
    | some l => P (.int l.length) h
    | none => False := by
  unfold oLen; simp only [getQ, getL]; cases hl h i <;> rfl
theorem o_absI {i : Int} : OkX (oAbs [.int i] h) P X = P (.int i.natAbs) h := id rfl
theorem o_intI {i : Int} : OkX (oInt [.int i] h) P X = P (.int i) h := id rfl
theorem o_intB {b : Bool} : OkX (oInt [.bl b] h) P X = P (.int (if b then 1 else 0)) h := id rfl
theorem o_tupT {l : List D} : OkX (oTuple [.tup l] h) P X = P (.tup l) h := id rfl
theorem o_tupL {l : List D} : OkX (oTuple [.lst l] h) P X = P (.tup l) h := id rfl
theorem o_tupR {i : Nat} : OkX (oTuple [.ref i] h) P X = match hl h i with
    | some l => P (.tup l) h
    | none => False := by
  unfold oTuple; simp only [getL]; cases hl h i <;> rfl
theorem o_maxI {i j : Int} : OkX (oMax [.int i, .int j] h) P X = P (.int (max i j)) h := id rfl
theorem o_minI {i j : Int} : OkX (oMin [.int i, .int j] h) P X = P (.int (min i j)) h := id rfl
end
/-! places in rows -/
theorem atI_nat {α : Type} (l : List α) (k : Nat) : atI l (k : Int) = l[k]? := by
  unfold atI ixN
  by_cases e : (k : Int) < (l.length : Int)
  · simp [e]
  · simp only [Int.natCast_nonneg, if_true, e, if_false, Option.bind_none]
    rw [List.getElem?_eq_none (by omega)]
theorem atI_of {α : Type} {l : List α} {i : Int} {k : Nat} (e : i = (k : Int)) : atI l i = l[k]? := by rw [e]; exact atI_nat l k
theorem atI_0 {α : Type} {l : List α} : atI l 0 = l[0]? := atI_nat l 0
theorem atI_1 {α : Type} {l : List α} : atI l 1 = l[1]? := atI_nat l 1
theorem atI_2 {α : Type} {l : List α} : atI l 2 = l[2]? := atI_nat l 2
theorem atI_3 {α : Type} {l : List α} : atI l 3 = l[3]? := atI_nat l 3
theorem ixN_0 {n : Nat} : ixN (n + 1) 0 = some 0 := by
  unfold ixN
  rw [if_pos (by omega), if_pos (by omega)]; rfl
theorem ixN_1 {n : Nat} : ixN (n + 2) 1 = some 1 := by
  unfold ixN
  rw [if_pos (by omega), if_pos (by omega)]; rfl
theorem cut_to {α : Type} (xs : List α) (k : Nat) : cutD xs none (some (k : Int)) = xs.take k := by
  unfold cutD
  rw [HT.sIx_none, HT.sIx_nat]
  simp only [List.drop_zero, Nat.sub_zero]
  rcases Nat.le_total k xs.length with h | h
  · rw [Nat.min_eq_left h]
  · rw [Nat.min_eq_right h, List.take_length, List.take_of_length_le h]
theorem cut_from {α : Type} (xs : List α) (k : Nat) : cutD xs (some (k : Int)) none = xs.drop k := by
  unfold cutD
  rw [HT.sIx_none, HT.sIx_nat]
  rcases Nat.le_total k xs.length with h | h
  · rw [Nat.min_eq_left h]; exact List.take_of_length_le (by rw [List.length_drop]; exact Nat.le_refl _)
  · rw [Nat.min_eq_right h, Nat.sub_self, List.take_zero, List.drop_eq_nil_of_le h]
theorem cut_mid {α : Type} (xs : List α) (i j : Nat) : cutD xs (some (i : Int)) (some (j : Int)) = (xs.drop i).take (j - i) := by
  unfold cutD
  rw [HT.sIx_nat, HT.sIx_nat]
  rcases Nat.le_total i xs.length with h | h
  · rw [Nat.min_eq_left h]
    rcases Nat.le_total j xs.length with h2 | h2
    · rw [Nat.min_eq_left h2]
    · rw [Nat.min_eq_right h2, List.take_of_length_le (by rw [List.length_drop]; exact Nat.le_refl _), List.take_of_length_le (by rw [List.length_drop]; omega)]
  · rw [Nat.min_eq_right h, List.drop_eq_nil_of_le (Nat.le_refl xs.length), List.drop_eq_nil_of_le h]; simp
theorem hl_app {h : List MO} {ds : List D} : hl (h ++ [.lst ds]) h.length = some ds := hl_iff.mpr (by simp)
theorem set_app {h : List MO} {a b : MO} : (h ++ [a]).set h.length b = h ++ [b] := by simp
theorem app_append {es : List D} {d : D} (e : es.length < LINE) : gAppend es [d] = some (.non, es ++ [d]) := by unfold gAppend; simp only [e, if_true]
theorem w_lf_nil {p : Pat} {b : MS} {it : IterD} {ρ : Rho} {h : List MO} {N : Po} : OkS (loopF p b it [] ρ h) N = (ckOk it h = true ∧ N.nx ρ h) := by
  unfold loopF; by_cases e : ckOk it h = true <;> simp [e, OkS]
theorem v_lf_cons {p : Pat} {b : MS} {it : IterD} {d : D} {ds : List D} {ρ : Rho} {h : List MO} {N : Po} : OkS (loopF p b it (d :: ds) ρ h) N = (ckOk it h = true ∧ match bindP p d ρ with
    | some ρ1 => OkS (b ρ1 h) ⟨fun ρ2 h2 => OkS (loopF p b it ds ρ2 h2) N, N.rt, N.nx, fun ρ2 h2 => OkS (loopF p b it ds ρ2 h2) N, N.er⟩
    | none => False) := by
  by_cases e : ckOk it h = true
  · simp only [loopF, e, if_true, true_and]
    cases bindP p d ρ with
    | none => rfl
    | some ρ1 =>
      simp only
      generalize b ρ1 h = r
      cases r <;> rfl
  · simp [loopF, e, OkS]
theorem w_lf_cons {p : Pat} {b : MS} {it : IterD} {d : D} {ds : List D} {ρ : Rho} {h : List MO} {N : Po} : OkS (loopF p b it (d :: ds) ρ h) N = (ckOk it h = true ∧ match bindP p d ρ with
    | some ρ1 => OkS (b ρ1 h) ⟨Kp (fun ρ2 h2 => OkS (loopF p b it ds ρ2 h2) N) .u, N.rt, N.nx, Kp (fun ρ2 h2 => OkS (loopF p b it ds ρ2 h2) N) .u, N.er⟩
    | none => False) := v_lf_cons
end MP
end
section
set_option Elab.async false
set_option linter.all false
set_option maxRecDepth 100000
set_option maxHeartbeats 2000000
/-! M27: the helpers of the laws. -/
namespace MP
open PySem PySem.Spec PyProof.Rows L2

/-! ### == of plain data -/
def niceD : Nat → D → Bool
  | _, .non => true
  | _, .int _ => true
  | _, .str l => l.all (· < 1114112)
  | k + 1, .tup ds => ds.all (niceD k)
  | k + 1, .lst ds => ds.all (niceD k)
  | _, _ => false
theorem nice_ps {k : Nat} (ih : ∀ d, niceD k d = true → ∃ p, toP d = some p ∧ p.canLay0 = true ∧ p.depth ≤ k) : ∀ ds : List D, ds.all (niceD k) = true → ∃ ps, toPs ds = some ps ∧ PyData.canLayAll0 ps = true ∧ PyData.depthAll ps ≤ k
  | [], _ => ⟨[], rfl, rfl, Nat.zero_le _⟩
  | d :: ds, h => by
    rw [List.all_cons, Bool.and_eq_true] at h
    obtain ⟨p, e1, e2, e3⟩ := ih d h.1
    obtain ⟨ps, f1, f2, f3⟩ := nice_ps ih ds h.2
    refine ⟨p :: ps, by unfold toPs; rw [e1, f1], by unfold PyData.canLayAll0; rw [e2, f2]; rfl, ?_⟩
    unfold PyData.depthAll; omega
theorem nice_p : ∀ (k : Nat) (d : D), niceD k d = true → ∃ p, toP d = some p ∧ p.canLay0 = true ∧ p.depth ≤ k
  | k, .non, _ => ⟨_, rfl, rfl, Nat.zero_le _⟩
  | k, .int i, _ => ⟨_, rfl, rfl, Nat.zero_le _⟩
  | k, .str l, h => ⟨_, rfl, by
      unfold niceD at h
      unfold PyData.canLay0 PyData.strOk
      simpa using h, Nat.zero_le _⟩
  | k + 1, .tup ds, h => by
    unfold niceD at h
    obtain ⟨ps, e1, e2, e3⟩ := nice_ps (nice_p k) ds h
    exact ⟨.tuple ps, by unfold toP; rw [e1]; rfl, e2, by unfold PyData.depth; omega⟩
  | k + 1, .lst ds, h => by
    unfold niceD at h
    obtain ⟨ps, e1, e2, e3⟩ := nice_ps (nice_p k) ds h
    exact ⟨.list ps, by unfold toP; rw [e1]; rfl, e2, by unfold PyData.depth; omega⟩
  | 0, .tup ds, h => by unfold niceD at h; cases h
  | 0, .lst ds, h => by unfold niceD at h; cases h
  | k, .bl _, h => by unfold niceD at h; cases h
  | k, .ref _, h => by unfold niceD at h; cases h
  | k, .glo _, h => by unfold niceD at h; cases h
  | k, .clo _ _, h => by unfold niceD at h; cases h
theorem nice_evs {k : Nat} (ih : ∀ a b p q, niceD k a = true → niceD k b = true → toP a = some p → toP b = some q → PyData.eqv p q = decide (a = b)) :
    ∀ (as bs : List D) ps qs, as.all (niceD k) = true → bs.all (niceD k) = true → toPs as = some ps → toPs bs = some qs → PyData.eqvAll ps qs = decide (as = bs)
  | [], [], ps, qs, _, _, e1, e2 => by cases e1; cases e2; rfl
  | [], b :: bs, ps, qs, _, hb, e1, e2 => by
    cases e1
    rw [List.all_cons, Bool.and_eq_true] at hb
    obtain ⟨q, f1, _, _⟩ := nice_p k b hb.1
    obtain ⟨r, f2, _, _⟩ := nice_ps (nice_p k) bs hb.2
    unfold toPs at e2; rw [f1, f2] at e2; cases e2; rfl
  | a :: as, [], ps, qs, hb, _, e2, e1 => by
    cases e1
    rw [List.all_cons, Bool.and_eq_true] at hb
    obtain ⟨q, f1, _, _⟩ := nice_p k a hb.1
    obtain ⟨r, f2, _, _⟩ := nice_ps (nice_p k) as hb.2
    unfold toPs at e2; rw [f1, f2] at e2; cases e2; rfl
  | a :: as, b :: bs, ps, qs, ha, hb, e1, e2 => by
    rw [List.all_cons, Bool.and_eq_true] at ha hb
    obtain ⟨p, f1, _, _⟩ := nice_p k a ha.1
    obtain ⟨r, f2, _, _⟩ := nice_ps (nice_p k) as ha.2
    obtain ⟨q, g1, _, _⟩ := nice_p k b hb.1
    obtain ⟨t, g2, _, _⟩ := nice_ps (nice_p k) bs hb.2
    unfold toPs at e1 e2; rw [f1, f2] at e1; rw [g1, g2] at e2; cases e1; cases e2
    have h1 := ih a b p q ha.1 hb.1 f1 g1
    have h2 := nice_evs ih as bs r t ha.2 hb.2 f2 g2
    unfold PyData.eqvAll; rw [h1, h2]
    by_cases c1 : a = b <;> by_cases c2 : as = bs <;> simp [c1, c2]
theorem S_beq (a b : List Nat) : (S a == S b) = decide (a = b) := by
  by_cases e : a = b
  · subst e; simp
  · have : S a ≠ S b := fun z => e (S_inj z)
    simp [e, this]
theorem nice_ev : ∀ (k : Nat) (a b : D) p q, niceD k a = true → niceD k b = true → toP a = some p → toP b = some q → PyData.eqv p q = decide (a = b) := by
  intro k
  induction k with
  | zero =>
    intro a b p q ha hb e1 e2
    cases a <;> simp [niceD] at ha <;> cases b <;> simp [niceD] at hb <;> cases e1 <;> cases e2 <;> first | rfl | (unfold PyData.eqv; rw [S_beq]; simp; done) | (unfold PyData.eqv; simp; done) | (unfold PyData.eqv; simp; exact rfl) | skip
  | succ k ih =>
    intro a b p q ha hb e1 e2
    have hT : ∀ {ds : List D} {p : PyData}, toP (.tup ds) = some p → ∃ ps, toPs ds = some ps ∧ p = .tuple ps := fun {ds p} e => by
      unfold toP at e
      cases f : toPs ds with
      | none => rw [f] at e; cases e
      | some ps => rw [f] at e; cases e; exact ⟨ps, rfl, rfl⟩
    have hL : ∀ {ds : List D} {p : PyData}, toP (.lst ds) = some p → ∃ ps, toPs ds = some ps ∧ p = .list ps := fun {ds p} e => by
      unfold toP at e
      cases f : toPs ds with
      | none => rw [f] at e; cases e
      | some ps => rw [f] at e; cases e; exact ⟨ps, rfl, rfl⟩
    cases a with
    | tup as =>
      obtain ⟨ps, f1, rfl⟩ := hT e1
      cases b with
      | tup bs =>
        obtain ⟨qs, f2, rfl⟩ := hT e2
        unfold PyData.eqv
        rw [nice_evs ih as bs ps qs (by simpa [niceD] using ha) (by simpa [niceD] using hb) f1 f2]
        simp
      | lst bs => obtain ⟨qs, f2, rfl⟩ := hL e2; unfold PyData.eqv; simp
      | non => cases e2; unfold PyData.eqv; simp
      | int _ => cases e2; unfold PyData.eqv; simp
      | str _ => cases e2; unfold PyData.eqv; simp
      | _ => simp [niceD] at hb
    | lst as =>
      obtain ⟨ps, f1, rfl⟩ := hL e1
      cases b with
      | lst bs =>
        obtain ⟨qs, f2, rfl⟩ := hL e2
        unfold PyData.eqv
        rw [nice_evs ih as bs ps qs (by simpa [niceD] using ha) (by simpa [niceD] using hb) f1 f2]
        simp
      | tup bs => obtain ⟨qs, f2, rfl⟩ := hT e2; unfold PyData.eqv; simp
      | non => cases e2; unfold PyData.eqv; simp
      | int _ => cases e2; unfold PyData.eqv; simp
      | str _ => cases e2; unfold PyData.eqv; simp
      | _ => simp [niceD] at hb
    | non =>
      cases e1
      cases b with
      | tup bs => obtain ⟨qs, f2, rfl⟩ := hT e2; unfold PyData.eqv; simp
      | lst bs => obtain ⟨qs, f2, rfl⟩ := hL e2; unfold PyData.eqv; simp
      | non => cases e2; unfold PyData.eqv; simp
      | int _ => cases e2; unfold PyData.eqv; simp
      | str _ => cases e2; unfold PyData.eqv; simp
      | _ => simp [niceD] at hb
    | int i =>
      cases e1
      cases b with
      | tup bs => obtain ⟨qs, f2, rfl⟩ := hT e2; unfold PyData.eqv; simp
      | lst bs => obtain ⟨qs, f2, rfl⟩ := hL e2; unfold PyData.eqv; simp
      | non => cases e2; unfold PyData.eqv; simp
      | int j => cases e2; unfold PyData.eqv; by_cases c : i = j <;> simp [c]
      | str _ => cases e2; unfold PyData.eqv; simp
      | _ => simp [niceD] at hb
    | str l =>
      cases e1
      cases b with
      | tup bs => obtain ⟨qs, f2, rfl⟩ := hT e2; unfold PyData.eqv; simp
      | lst bs => obtain ⟨qs, f2, rfl⟩ := hL e2; unfold PyData.eqv; simp
      | non => cases e2; unfold PyData.eqv; simp
      | int j => cases e2; unfold PyData.eqv; simp
      | str _ => cases e2; unfold PyData.eqv; rw [S_beq]; simp
      | _ => simp [niceD] at hb
    | _ => simp [niceD] at ha
theorem nice_nf {k : Nat} {d : D} (h : List MO) (n : niceD k d = true) : nf h d = d := by
  cases d with
  | ref _ => unfold niceD at n; cases n
  | _ => rfl
theorem eqD_nice {k : Nat} {a b : D} {h : List MO} (ha : niceD k a = true) (hb : niceD k b = true) (hk : k ≤ 64 := by decide) : eqD h a b = some (decide (a = b)) := by
  unfold eqD
  split
  · rfl
  · rw [nice_nf h ha, nice_nf h hb]
    obtain ⟨p, e1, e2, e3⟩ := nice_p k a ha
    obtain ⟨q, f1, f2, f3⟩ := nice_p k b hb
    rw [e1, f1]
    have s1 : SeqAt.shaped p = true := by unfold SeqAt.shaped; rw [e2]; simp; omega
    have s2 : SeqAt.shaped q = true := by unfold SeqAt.shaped; rw [f2]; simp; omega
    simp only [s1, s2, Bool.and_self, if_true]
    rw [nice_ev k a b p q ha hb e1 f1]
theorem nice_ints {k : Nat} (l : List Int) : niceD (k + 1) (.lst (l.map .int)) = true := by
  unfold niceD; rw [List.all_map]; exact List.all_eq_true.mpr fun _ _ => by cases k <;> rfl

/-! ### the box of draws -/
def bTake : MS := (sSeq (sIf (xTest (xOp2 oNe (xOp2 oIx (xVar 0) (xC (.int 0))) (xLst aNil))) (sSeq (sSet 2 (xOp2 oIx (xOp2 oIx (xVar 0) (xC (.int 0))) (xC (.int 0)))) (sSeq (sSub (xOp2 oAdd (xIf (xTest (xOp2 oGe (xVar 2) (xVar 1))) (xLst (aCons (xOp2 oFdiv (xVar 2) (xVar 1)) aNil)) (xLst aNil)) (xSl (xOp2 oIx (xVar 0) (xC (.int 0))) (some (xC (.int 1))) none)) (xVar 0) (xC (.int 0))) (sSeq (sRet (xOp2 oMod (xCB oInt (aCons (xVar 2) aNil)) (xVar 1))) sNil))) sNil) (sSeq (sSub (xOp2 oMod (xCB oInt (aCons (xOp2 oMul (xOp2 oIx (xVar 0) (xC (.int 1))) (xC (.int 48271))) aNil)) (xC (.int 2147483647))) (xVar 0) (xC (.int 1))) (sSeq (sRet (xOp2 oMod (xCB oInt (aCons (xOp2 oFdiv (xOp2 oAdd (xOp2 oMul (xOp2 oIx (xVar 0) (xC (.int 1))) (xC (.int 69621))) (xC (.int 7))) (xC (.int 1013))) aNil)) (xVar 1))) sNil)))
def bPick : MS := (sSeq (sRet (xOp2 oIx (xVar 1) (xCall (runF 3 bTake) [] (aCons (xVar 0) (aCons (xCB oLen (aCons (xVar 1) aNil)) aNil))))) sNil)
def bBoxP (s0 c0 : Int) : MS := (sSeq (sPar 1 2 (aCons (xNew aNil) (aCons (xC (.int s0)) aNil))) (sSeq (sFor (xEnum (aCons (xSl (xVar 0) none (some (xC (.int 63)))) aNil)) (.tp [(.nm 3), (.nm 4)]) (sSeq (sSet 5 (xOp2 oAdd (xOp2 oMul (xCB oAbs (aCons (xVar 4) aNil)) (xC (.int 2))) (xCB oInt (aCons (xOp2 oLt (xVar 4) (xC (.int 0))) aNil)))) (sSeq (sIf (xTest (xOp2 oGe (xCB oAbs (aCons (xVar 4) aNil)) (xOp2 oPow (xC (.int 10)) (xC (.int 18))))) (sSeq (sExpr (xMt gAppend (xVar 1) (aCons (xCB oAbs (aCons (xVar 4) aNil)) aNil))) sNil) sNil) (sSeq (sSet 2 (xOp2 oAdd (xOp2 oMod (xCB oInt (aCons (xOp2 oAdd (xOp2 oAdd (xOp2 oMul (xVar 2) (xC (.int 48271))) (xOp2 oMul (xOp2 oMod (xCB oInt (aCons (xVar 5) aNil)) (xC (.int 2147483629))) (xOp2 oAdd (xOp2 oMul (xC (.int 2)) (xVar 3)) (xC (.int c0))))) (xC (.int 17))) aNil)) (xC (.int 2147483629))) (xC (.int 1)))) sNil)))) (sSeq (sRet (xNew (aCons (xVar 1) (aCons (xVar 2) aNil)))) sNil)))
abbrev bBox : MS := bBoxP 20887 50021
def bIs (rec_ : MF) : MS := (sSeq (sIf (xTru (xIsi ["tuple"] (xVar 1))) (sSeq (sIf (xOr (xNot (xTru (xIsi ["tuple"] (xVar 0)))) (xTest (xOp2 oNe (xCB oLen (aCons (xVar 0) aNil)) (xCB oLen (aCons (xVar 1) aNil))))) (sSeq (sRet (xC (.bl false))) sNil) sNil) (sSeq (sRet (xOp2 oEq (xLc (xZip (aCons (xVar 0) (aCons (xVar 1) aNil))) (.tp [(.nm 2), (.nm 3)]) (xNot (xTru (xCall rec_ [] (aCons (xVar 2) (aCons (xVar 3) aNil))))) (xC (.int 1)) [2, 3]) (xLst aNil))) sNil)) sNil) (sSeq (sIf (xOr (xTest (xOp2 oIs (xVar 1) (xC .non))) (xOr (xTest (xOp2 oIs (xVar 1) (xC (.bl true)))) (xTest (xOp2 oIs (xVar 1) (xC (.bl false)))))) (sSeq (sRet (xIf (xTest (xOp2 oIs (xVar 1) (xC .non))) (xOp2 oIs (xVar 0) (xC .non)) (xIf (xTest (xOp2 oIs (xVar 1) (xC (.bl true)))) (xOp2 oIs (xVar 0) (xC (.bl true))) (xOp2 oIs (xVar 0) (xC (.bl false)))))) sNil) sNil) (sSeq (sIf (xTru (xIsi ["int"] (xVar 1))) (sSeq (sRet (xAndV (xIsi ["int"] (xVar 0)) (xAndV (xNotV (xIsi ["bool"] (xVar 0))) (xOp2 oEq (xVar 0) (xVar 1))))) sNil) sNil) (sSeq (sRet (xAndV (xIsi ["str"] (xVar 1)) (xAndV (xIsi ["str"] (xVar 0)) (xOp2 oEq (xVar 0) (xVar 1))))) sNil))))

theorem hl_some {h : List MO} {i : Nat} {ds : List D} (e : hl h i = some ds) : i < h.length := by
  have := hl_iff.mp e
  exact (List.getElem?_eq_some_iff.mp this).1
theorem hl_set {h : List MO} {i : Nat} {ds : List D} (l : i < h.length) : hl (h.set i (.lst ds)) i = some ds := hl_iff.mpr (by simp [l])
theorem hl_ne {h : List MO} {i j : Nat} {o : MO} (n : i ≠ j) : hl (h.set i o) j = hl h j := by
  unfold hl; rw [List.getElem?_set_ne n]
/-- where the great cells stand: a list by itself, or the first list, ahead of the box -/
def CellsAt (h : List MO) (b : Nat) (c : D) (cells : List Int) : Prop := c = .lst (cells.map .int) ∨ ∃ r, r < b ∧ c = .ref r ∧ hl h r = some (cells.map .int)
/-- a box: great cells, a state -/
structure BoxIs (h : List MO) (b : Nat) (cells : List Int) (st : Int) : Prop where
  at_ : ∃ c, hl h b = some [c, .int st] ∧ CellsAt h b c cells
  pos : ∀ c ∈ cells, 0 ≤ c
  few : cells.length ≤ 63
  st0 : 0 ≤ st
  st1 : st < 2147483648
def Box (h : List MO) (b : Nat) : Prop := ∃ cells st, BoxIs h b cells st
/-- but for the box all stays -/
structure Bx (b : Nat) (h h' : List MO) : Prop where
  len : h'.length = h.length
  off : ∀ i, i ≠ b → h'[i]? = h[i]?
  box : Box h' b
theorem Bx.refl {b : Nat} {h : List MO} (x : Box h b) : Bx b h h := ⟨rfl, fun _ _ => rfl, x⟩
theorem Bx.trans {b : Nat} {h h1 h2 : List MO} (x : Bx b h h1) (y : Bx b h1 h2) : Bx b h h2 := ⟨y.len.trans x.len, fun i n => (y.off i n).trans (x.off i n), y.box⟩
theorem Bx.hl {b : Nat} {h h' : List MO} (x : Bx b h h') {i : Nat} (n : i ≠ b) : MP.hl h' i = MP.hl h i := by unfold MP.hl; rw [x.off i n]
theorem Box.keep {b : Nat} {h h' : List MO} (x : Box h b) (e : ∀ i, i ≤ b → h'[i]? = h[i]?) : Box h' b := by
  obtain ⟨cells, st, ⟨c, e1, e2⟩, a1, a2, a3, a4⟩ := x
  refine ⟨cells, st, ⟨c, by unfold hl; rw [e b (Nat.le_refl _)]; exact e1, ?_⟩, a1, a2, a3, a4⟩
  rcases e2 with e2 | ⟨r, h1, h2, h3⟩
  · exact .inl e2
  · exact .inr ⟨r, h1, h2, by unfold hl; rw [e r (Nat.le_of_lt h1)]; exact h3⟩
theorem Box.app {b : Nat} {h l : List MO} (x : Box h b) : Box (h ++ l) b := x.keep fun i hi => by
  obtain ⟨cells, st, ⟨c, e1, e2⟩, _⟩ := x
  exact List.getElem?_append_left (Nat.lt_of_le_of_lt hi (hl_some e1))
theorem Box.set {b i : Nat} {h : List MO} {o : MO} (x : Box h b) (n : b < i) : Box (h.set i o) b := x.keep fun j hj => List.getElem?_set_ne (by omega)
theorem Box.lt {b : Nat} {h : List MO} (x : Box h b) : b < h.length := by
  obtain ⟨cells, st, ⟨c, e1, e2⟩, _⟩ := x
  exact hl_some e1
theorem mulOk_of {i j : Int} (a b : Nat) (ha : i.natAbs < 2 ^ a) (hb : j.natAbs < 2 ^ b) (h : a + b ≤ 134217728 := by decide) : mulOk i j := mulx_ok ha hb h
theorem take_ok {h : List MO} {b : Nat} {n : Int} {P : D → List MO → Prop} {X : Ex → List MO → Prop} (x : Box h b) (h0 : 0 < n) (h1 : n.natAbs.log2 < 9000)
    (q : ∀ k h', 0 ≤ k → k < n → Bx b h h' → P (.int k) h') : OkX (runF 3 bTake [.ref b, .int n] h) P X := by
  obtain ⟨cells, st, ⟨c0, e, ca⟩, hp, hf, hs0, hs1⟩ := x
  have hb := hl_some e
  have eqn : eqD h c0 (.lst []) = some (decide (D.lst (cells.map .int) = .lst [])) := by
    rcases ca with rfl | ⟨r, hr, rfl, er⟩
    · exact eqD_nice (k := 1) (nice_ints cells) (show niceD 1 (.lst []) = true from rfl)
    · have : eqD h (.ref r) (.lst []) = eqD h (.lst (cells.map .int)) (.lst []) := by
        show (match toP (nf h (.ref r)), toP (nf h (.lst [])) with | some p, some q => _ | _, _ => none) = (match toP (nf h (.lst (cells.map .int))), toP (nf h (.lst [])) with | some p, some q => _ | _, _ => none)
        have : nf h (.ref r) = nf h (.lst (cells.map .int)) := by simp only [nf, er]
        rw [this]
      rw [this]
      exact eqD_nice (k := 1) (nice_ints cells) (show niceD 1 (.lst []) = true from rfl)
  have ixn : ∀ (i : Int) (P : D → List MO → Prop) (X : Ex → List MO → Prop), OkX (oIx c0 (.int i) h) P X = match atI (cells.map D.int) i with
      | some c => P c h
      | none => False := fun i P X => by
    rcases ca with rfl | ⟨r, hr, rfl, er⟩
    · exact o_ixL
    · rw [o_ixR]; simp only [er]; try (cases atI (cells.map D.int) i <;> rfl)
  have sln : ∀ (i j : Option Int) (P : D → List MO → Prop) (X : Ex → List MO → Prop), OkX (oSl c0 i j h) P X = P (.lst (cutD (cells.map D.int) i j)) h := fun i j P X => by
    rcases ca with rfl | ⟨r, hr, rfl, er⟩
    · exact o_slL
    · rw [o_slR]; simp only [er]
  have hn := h1
  have hne : ∀ {c : List Int}, ((D.lst (c.map .int) = .lst []) ↔ c = []) := fun {c} => by simp
  rw [w_run]
  unfold bTake
  simp (dsimp := false) only [e, o_neD, eqn, ↓Kp_app, ↓w_seq, ↓w_sNil, ↓w_set, ↓w_ret, ↓w_retN, ↓w_sIf, ↓w_expr, ↓w_par, ↓w_par3, ↓w_asg, ↓w_aug, ↓w_sub, ↓w_for, ↓w_raise, ↓w_break, ↓w_cont, ↓w_op2, ↓w_op1, ↓w_cb, ↓w_c, ↓w_var, ↓w_nil, ↓w_cons, ↓w_tup, ↓w_lst, ↓w_new, ↓w_if, ↓w_test, ↓w_tru, ↓w_not, ↓w_and, ↓w_or, ↓w_andV, ↓w_orV, ↓w_notV, ↓w_chain, ↓w_call, ↓w_callK, ↓w_sl, ↓w_part0, ↓w_part1, ↓w_isi, ↓w_join, ↓w_mt, ↓w_lc, ↓w_lcN, ↓w_lcA, ↓w_it, ↓w_range1, ↓w_range2, ↓w_enum, ↓w_enumS, ↓w_zip,   OkX_ok, OkX_err, OkX_stuck, OkX_guard, o_addS, o_addT, o_addLL, o_addRL, o_addII, o_subI, o_mulI, o_mulS, o_fdivI, o_modI, o_powI, o_negI, o_ltI, o_leI, o_gtI, o_geI, o_ltS, o_leS, o_gtS, o_geS, o_eqI, o_eqS, o_neI, o_neS, o_isD, o_isnotD, o_inS, o_ixS, o_ixT, o_ixL, o_ixR, o_slS, o_slT, o_slL, o_slR, o_lenS, o_lenT, o_lenL, o_lenR, o_absI, o_intI, o_intB, o_tupT, o_tupL, o_tupR, o_maxI, o_minI,   List.set_cons_zero, List.set_cons_succ, List.getElem?_cons_zero, List.getElem?_cons_succ, List.map_cons, List.map_nil, List.length_cons, List.length_nil, List.replicate_succ, List.replicate_zero, List.cons_append, List.nil_append, Nat.reduceSub, Nat.reduceAdd, Nat.reduceLeDiff, exists_eq_left', D.bl.injEq, D.int.injEq, D.str.injEq, D.ref.injEq, D.tup.injEq, true_and, and_true, if_true, if_false, Bool.false_eq_true, Bool.not_true, Bool.not_false, decide_true, decide_false, bindP, bindPs, isK, atI_0, atI_1, atI_2, atI_3, ixN_0, ixN_1, Nat.zero_add, LINE, Nat.zero_le, truD, wipeD, Option.some.injEq]
  cases cells with
  | nil =>
    simp only [List.map_nil, decide_true, Bool.not_true, Bool.false_eq_true, if_false]
    have hm := Int.fmod_eq_emod_of_nonneg (a := st * 48271) (b := 2147483647) (by omega)
    have hl1 : hl (h.set b (.lst [c0, .int ((st * 48271).fmod 2147483647)])) b = some [c0, .int ((st * 48271).fmod 2147483647)] := hl_set hb
    simp (dsimp := false) only [e, hl1, ↓Kp_app, ↓w_seq, ↓w_sNil, ↓w_set, ↓w_ret, ↓w_retN, ↓w_sIf, ↓w_expr, ↓w_par, ↓w_par3, ↓w_asg, ↓w_aug, ↓w_sub, ↓w_for, ↓w_raise, ↓w_break, ↓w_cont, ↓w_op2, ↓w_op1, ↓w_cb, ↓w_c, ↓w_var, ↓w_nil, ↓w_cons, ↓w_tup, ↓w_lst, ↓w_new, ↓w_if, ↓w_test, ↓w_tru, ↓w_not, ↓w_and, ↓w_or, ↓w_andV, ↓w_orV, ↓w_notV, ↓w_chain, ↓w_call, ↓w_callK, ↓w_sl, ↓w_part0, ↓w_part1, ↓w_isi, ↓w_join, ↓w_mt, ↓w_lc, ↓w_lcN, ↓w_lcA, ↓w_it, ↓w_range1, ↓w_range2, ↓w_enum, ↓w_enumS, ↓w_zip,   OkX_ok, OkX_err, OkX_stuck, OkX_guard, o_addS, o_addT, o_addLL, o_addRL, o_addII, o_subI, o_mulI, o_mulS, o_fdivI, o_modI, o_powI, o_negI, o_ltI, o_leI, o_gtI, o_geI, o_ltS, o_leS, o_gtS, o_geS, o_eqI, o_eqS, o_neI, o_neS, o_isD, o_isnotD, o_inS, o_ixS, o_ixT, o_ixL, o_ixR, o_slS, o_slT, o_slL, o_slR, o_lenS, o_lenT, o_lenL, o_lenR, o_absI, o_intI, o_intB, o_tupT, o_tupL, o_tupR, o_maxI, o_minI,   List.set_cons_zero, List.set_cons_succ, List.getElem?_cons_zero, List.getElem?_cons_succ, List.map_cons, List.map_nil, List.length_cons, List.length_nil, List.replicate_succ, List.replicate_zero, List.cons_append, List.nil_append, Nat.reduceSub, Nat.reduceAdd, Nat.reduceLeDiff, exists_eq_left', D.bl.injEq, D.int.injEq, D.str.injEq, D.ref.injEq, D.tup.injEq, true_and, and_true, if_true, if_false, Bool.false_eq_true, Bool.not_true, Bool.not_false, decide_true, decide_false, bindP, bindPs, isK, atI_0, atI_1, atI_2, atI_3, ixN_0, ixN_1, Nat.zero_add, LINE, Nat.zero_le, truD, wipeD, Option.some.injEq]
    have m1 : mulOk st 48271 := mulOk_of 40 40 (by omega) (by omega)
    rw [hm] at *
    have r0 := Int.emod_nonneg (st * 48271) (show (2147483647 : Int) ≠ 0 by omega)
    have r1 := Int.emod_lt_of_pos (st * 48271) (show (0 : Int) < 2147483647 by omega)
    have m2 : mulOk (st * 48271 % 2147483647) 69621 := mulOk_of 40 40 (by omega) (by omega)
    refine ⟨m1, by omega, m2, ⟨by omega, by decide +kernel⟩, by omega, ?_⟩
    rw [Int.fmod_eq_emod_of_nonneg _ (by omega)]
    refine q _ _ (Int.emod_nonneg _ (by omega)) (Int.emod_lt_of_pos _ h0) ⟨by simp, fun i hi => List.getElem?_set_ne (Ne.symm hi), [], _, ⟨c0, hl1, ?_⟩, fun c m => (nomatch m), by decide, r0, by omega⟩
    rcases ca with ca | ⟨r, hr, h2, h3⟩
    · exact .inl ca
    · exact .inr ⟨r, hr, h2, by rw [hl_ne (by omega)]; exact h3⟩
  | cons c cs =>
    have c0 : 0 ≤ c := hp c List.mem_cons_self
    have e0 : decide ((D.lst ((c :: cs).map .int)) = .lst []) = false := by simp
    simp only [e0, Bool.not_false, if_true]
    simp (dsimp := false) only [e, ixn, sln, ↓Kp_app, ↓w_seq, ↓w_sNil, ↓w_set, ↓w_ret, ↓w_retN, ↓w_sIf, ↓w_expr, ↓w_par, ↓w_par3, ↓w_asg, ↓w_aug, ↓w_sub, ↓w_for, ↓w_raise, ↓w_break, ↓w_cont, ↓w_op2, ↓w_op1, ↓w_cb, ↓w_c, ↓w_var, ↓w_nil, ↓w_cons, ↓w_tup, ↓w_lst, ↓w_new, ↓w_if, ↓w_test, ↓w_tru, ↓w_not, ↓w_and, ↓w_or, ↓w_andV, ↓w_orV, ↓w_notV, ↓w_chain, ↓w_call, ↓w_callK, ↓w_sl, ↓w_part0, ↓w_part1, ↓w_isi, ↓w_join, ↓w_mt, ↓w_lc, ↓w_lcN, ↓w_lcA, ↓w_it, ↓w_range1, ↓w_range2, ↓w_enum, ↓w_enumS, ↓w_zip,   OkX_ok, OkX_err, OkX_stuck, OkX_guard, o_addS, o_addT, o_addLL, o_addRL, o_addII, o_subI, o_mulI, o_mulS, o_fdivI, o_modI, o_powI, o_negI, o_ltI, o_leI, o_gtI, o_geI, o_ltS, o_leS, o_gtS, o_geS, o_eqI, o_eqS, o_neI, o_neS, o_isD, o_isnotD, o_inS, o_ixS, o_ixT, o_ixL, o_ixR, o_slS, o_slT, o_slL, o_slR, o_lenS, o_lenT, o_lenL, o_lenR, o_absI, o_intI, o_intB, o_tupT, o_tupL, o_tupR, o_maxI, o_minI,   List.set_cons_zero, List.set_cons_succ, List.getElem?_cons_zero, List.getElem?_cons_succ, List.map_cons, List.map_nil, List.length_cons, List.length_nil, List.replicate_succ, List.replicate_zero, List.cons_append, List.nil_append, Nat.reduceSub, Nat.reduceAdd, Nat.reduceLeDiff, exists_eq_left', D.bl.injEq, D.int.injEq, D.str.injEq, D.ref.injEq, D.tup.injEq, true_and, and_true, if_true, if_false, Bool.false_eq_true, Bool.not_true, Bool.not_false, decide_true, decide_false, bindP, bindPs, isK, atI_0, atI_1, atI_2, atI_3, ixN_0, ixN_1, Nat.zero_add, LINE, Nat.zero_le, truD, wipeD, Option.some.injEq]
    have cf := cut_from (D.int c :: cs.map .int) 1
    rw [show ((1 : Nat) : Int) = 1 from rfl] at cf
    have fl : ∀ l : List Int, (∀ c ∈ l, 0 ≤ c) → l.length ≤ 63 → Bx b h (h.set b (.lst [.lst (l.map .int), .int st])) := fun l h1 h2 => ⟨by simp, fun i hi => List.getElem?_set_ne (Ne.symm hi), l, st, ⟨_, hl_set hb, .inl rfl⟩, h1, h2, hs0, hs1⟩
    have last : ∀ h', Bx b h h' → P (.int (c.fmod n)) h' := fun h' x => by
      rw [Int.fmod_eq_emod_of_nonneg _ (by omega)]
      exact q _ _ (Int.emod_nonneg _ (by omega)) (Int.emod_lt_of_pos _ h0) x
    have hcs : ∀ c ∈ cs, 0 ≤ c := fun d m => hp d (List.mem_cons_of_mem _ m)
    have hlen : cs.length ≤ 62 := by simp at hf; omega
    by_cases g : n ≤ c
    · simp only [g, decide_true, if_true]
      simp (dsimp := false) only [e, cf, ixn, sln, ↓Kp_app, ↓w_seq, ↓w_sNil, ↓w_set, ↓w_ret, ↓w_retN, ↓w_sIf, ↓w_expr, ↓w_par, ↓w_par3, ↓w_asg, ↓w_aug, ↓w_sub, ↓w_for, ↓w_raise, ↓w_break, ↓w_cont, ↓w_op2, ↓w_op1, ↓w_cb, ↓w_c, ↓w_var, ↓w_nil, ↓w_cons, ↓w_tup, ↓w_lst, ↓w_new, ↓w_if, ↓w_test, ↓w_tru, ↓w_not, ↓w_and, ↓w_or, ↓w_andV, ↓w_orV, ↓w_notV, ↓w_chain, ↓w_call, ↓w_callK, ↓w_sl, ↓w_part0, ↓w_part1, ↓w_isi, ↓w_join, ↓w_mt, ↓w_lc, ↓w_lcN, ↓w_lcA, ↓w_it, ↓w_range1, ↓w_range2, ↓w_enum, ↓w_enumS, ↓w_zip,   OkX_ok, OkX_err, OkX_stuck, OkX_guard, o_addS, o_addT, o_addLL, o_addRL, o_addII, o_subI, o_mulI, o_mulS, o_fdivI, o_modI, o_powI, o_negI, o_ltI, o_leI, o_gtI, o_geI, o_ltS, o_leS, o_gtS, o_geS, o_eqI, o_eqS, o_neI, o_neS, o_isD, o_isnotD, o_inS, o_ixS, o_ixT, o_ixL, o_ixR, o_slS, o_slT, o_slL, o_slR, o_lenS, o_lenT, o_lenL, o_lenR, o_absI, o_intI, o_intB, o_tupT, o_tupL, o_tupR, o_maxI, o_minI,   List.set_cons_zero, List.set_cons_succ, List.getElem?_cons_zero, List.getElem?_cons_succ, List.map_cons, List.map_nil, List.length_cons, List.length_nil, List.replicate_succ, List.replicate_zero, List.cons_append, List.nil_append, Nat.reduceSub, Nat.reduceAdd, Nat.reduceLeDiff, exists_eq_left', D.bl.injEq, D.int.injEq, D.str.injEq, D.ref.injEq, D.tup.injEq, true_and, and_true, if_true, if_false, Bool.false_eq_true, Bool.not_true, Bool.not_false, decide_true, decide_false, bindP, bindPs, isK, atI_0, atI_1, atI_2, atI_3, ixN_0, ixN_1, Nat.zero_add, LINE, Nat.zero_le, truD, wipeD, Option.some.injEq]
      simp only [List.drop_succ_cons, List.drop_zero]
      refine ⟨⟨by omega, hn⟩, by simp; omega, by omega, ?_⟩
      rw [Int.fdiv_eq_ediv_of_nonneg _ (by omega)]
      refine last _ (fl (c / n :: cs) (fun d m => ?_) (by simp; omega))
      rcases List.mem_cons.mp m with rfl | m
      · exact Int.ediv_nonneg c0 (by omega)
      · exact hcs d m
    · simp only [g, decide_false, Bool.false_eq_true, if_false]
      simp (dsimp := false) only [e, cf, ixn, sln, ↓Kp_app, ↓w_seq, ↓w_sNil, ↓w_set, ↓w_ret, ↓w_retN, ↓w_sIf, ↓w_expr, ↓w_par, ↓w_par3, ↓w_asg, ↓w_aug, ↓w_sub, ↓w_for, ↓w_raise, ↓w_break, ↓w_cont, ↓w_op2, ↓w_op1, ↓w_cb, ↓w_c, ↓w_var, ↓w_nil, ↓w_cons, ↓w_tup, ↓w_lst, ↓w_new, ↓w_if, ↓w_test, ↓w_tru, ↓w_not, ↓w_and, ↓w_or, ↓w_andV, ↓w_orV, ↓w_notV, ↓w_chain, ↓w_call, ↓w_callK, ↓w_sl, ↓w_part0, ↓w_part1, ↓w_isi, ↓w_join, ↓w_mt, ↓w_lc, ↓w_lcN, ↓w_lcA, ↓w_it, ↓w_range1, ↓w_range2, ↓w_enum, ↓w_enumS, ↓w_zip,   OkX_ok, OkX_err, OkX_stuck, OkX_guard, o_addS, o_addT, o_addLL, o_addRL, o_addII, o_subI, o_mulI, o_mulS, o_fdivI, o_modI, o_powI, o_negI, o_ltI, o_leI, o_gtI, o_geI, o_ltS, o_leS, o_gtS, o_geS, o_eqI, o_eqS, o_neI, o_neS, o_isD, o_isnotD, o_inS, o_ixS, o_ixT, o_ixL, o_ixR, o_slS, o_slT, o_slL, o_slR, o_lenS, o_lenT, o_lenL, o_lenR, o_absI, o_intI, o_intB, o_tupT, o_tupL, o_tupR, o_maxI, o_minI,   List.set_cons_zero, List.set_cons_succ, List.getElem?_cons_zero, List.getElem?_cons_succ, List.map_cons, List.map_nil, List.length_cons, List.length_nil, List.replicate_succ, List.replicate_zero, List.cons_append, List.nil_append, Nat.reduceSub, Nat.reduceAdd, Nat.reduceLeDiff, exists_eq_left', D.bl.injEq, D.int.injEq, D.str.injEq, D.ref.injEq, D.tup.injEq, true_and, and_true, if_true, if_false, Bool.false_eq_true, Bool.not_true, Bool.not_false, decide_true, decide_false, bindP, bindPs, isK, atI_0, atI_1, atI_2, atI_3, ixN_0, ixN_1, Nat.zero_add, LINE, Nat.zero_le, truD, wipeD, Option.some.injEq]
      simp only [List.drop_succ_cons, List.drop_zero]
      refine ⟨by simp; omega, by omega, last _ (fl cs hcs (by omega))⟩
end MP
end
section
set_option Elab.async false
set_option linter.all false
set_option maxRecDepth 100000
set_option maxHeartbeats 2000000
/-! M28: pick, is, error. -/
namespace MP
open PySem PySem.Spec PyProof.Rows L2
section
variable {ds : List D} {i : Int} {l : List Nat} {b : Bool}
theorem isi_tt : isiD ["tuple"] (.tup ds) = some true := by rfl
theorem isi_ti : isiD ["tuple"] (.int i) = some false := by rfl
theorem isi_ts : isiD ["tuple"] (.str l) = some false := by rfl
theorem isi_tb : isiD ["tuple"] (.bl b) = some false := by rfl
theorem isi_tn : isiD ["tuple"] .non = some false := by rfl
theorem isi_tl : isiD ["tuple"] (.lst ds) = some false := by rfl
theorem isi_ii : isiD ["int"] (.int i) = some true := by rfl
theorem isi_is : isiD ["int"] (.str l) = some false := by rfl
theorem isi_it : isiD ["int"] (.tup ds) = some false := by rfl
theorem isi_il : isiD ["int"] (.lst ds) = some false := by rfl
theorem isi_ib : isiD ["int"] (.bl b) = some true := by rfl
theorem isi_in : isiD ["int"] .non = some false := by rfl
theorem isi_bi : isiD ["bool"] (.int i) = some false := by rfl
theorem isi_bb : isiD ["bool"] (.bl b) = some true := by rfl
theorem isi_ss : isiD ["str"] (.str l) = some true := by rfl
theorem isi_si : isiD ["str"] (.int i) = some false := by rfl
theorem isi_sb : isiD ["str"] (.bl b) = some false := by rfl
theorem isi_sn : isiD ["str"] .non = some false := by rfl
theorem isi_st : isiD ["str"] (.tup ds) = some false := by rfl
theorem isi_sl : isiD ["str"] (.lst ds) = some false := by rfl
end
theorem zip_self : ∀ ds : List D, zipD ds ds = ds.map fun d => .tup [d, d]
  | [] => rfl
  | d :: ds => by unfold zipD; rw [zip_self ds]; rfl
def sameD : Nat → D → Bool
  | _, .non => true
  | _, .bl _ => true
  | _, .int _ => true
  | _, .str _ => true
  | k + 1, .tup ds => ds.all (sameD k)
  | _, _ => false
def mIs : Nat → MF
  | 0 => fun _ _ => .stuck
  | n + 1 => runF 4 (bIs (mIs n))
theorem eqD_self_lst {h : List MO} : eqD h (.lst []) (.lst []) = some true := eqD_nice (k := 1) rfl rfl
theorem is_ok : ∀ (n : Nat) (d : D) (h : List MO) (P : D → List MO → Prop) (X : Ex → List MO → Prop), sameD n d = true → P (.bl true) h → OkX (mIs (n + 1) [d, d] h) P X
  | n, .non, h, P, X, _, q => by
    unfold mIs; rw [w_run]; unfold bIs
    simp (dsimp := false) only [isi_tn, ↓Kp_app, ↓w_seq, ↓w_sNil, ↓w_set, ↓w_ret, ↓w_retN, ↓w_sIf, ↓w_expr, ↓w_par, ↓w_par3, ↓w_asg, ↓w_aug, ↓w_sub, ↓w_for, ↓w_raise, ↓w_break, ↓w_cont, ↓w_op2, ↓w_op1, ↓w_cb, ↓w_c, ↓w_var, ↓w_nil, ↓w_cons, ↓w_tup, ↓w_lst, ↓w_new, ↓w_if, ↓w_test, ↓w_tru, ↓w_not, ↓w_and, ↓w_or, ↓w_andV, ↓w_orV, ↓w_notV, ↓w_chain, ↓w_call, ↓w_callK, ↓w_sl, ↓w_part0, ↓w_part1, ↓w_isi, ↓w_join, ↓w_mt, ↓w_lc, ↓w_lcN, ↓w_lcA, ↓w_it, ↓w_range1, ↓w_range2, ↓w_enum, ↓w_enumS, ↓w_zip,   OkX_ok, OkX_err, OkX_stuck, OkX_guard, o_addS, o_addT, o_addLL, o_addRL, o_addII, o_subI, o_mulI, o_mulS, o_fdivI, o_modI, o_powI, o_negI, o_ltI, o_leI, o_gtI, o_geI, o_ltS, o_leS, o_gtS, o_geS, o_eqI, o_eqS, o_neI, o_neS, o_isD, o_isnotD, o_inS, o_ixS, o_ixT, o_ixL, o_ixR, o_slS, o_slT, o_slL, o_slR, o_lenS, o_lenT, o_lenL, o_lenR, o_absI, o_intI, o_intB, o_tupT, o_tupL, o_tupR, o_maxI, o_minI,   List.set_cons_zero, List.set_cons_succ, List.getElem?_cons_zero, List.getElem?_cons_succ, List.map_cons, List.map_nil, List.length_cons, List.length_nil, List.replicate_succ, List.replicate_zero, List.cons_append, List.nil_append, Nat.reduceSub, Nat.reduceAdd, Nat.reduceLeDiff, exists_eq_left', D.bl.injEq, D.int.injEq, D.str.injEq, D.ref.injEq, D.tup.injEq, true_and, and_true, if_true, if_false, Bool.false_eq_true, Bool.not_true, Bool.not_false, decide_true, decide_false, bindP, bindPs, isK, atI_0, atI_1, atI_2, atI_3, ixN_0, ixN_1, Nat.zero_add, LINE, Nat.zero_le, truD, wipeD, Option.some.injEq]
    simpa using q
  | n, .bl b, h, P, X, _, q => by
    unfold mIs; rw [w_run]; unfold bIs
    simp (dsimp := false) only [isi_tb, ↓Kp_app, ↓w_seq, ↓w_sNil, ↓w_set, ↓w_ret, ↓w_retN, ↓w_sIf, ↓w_expr, ↓w_par, ↓w_par3, ↓w_asg, ↓w_aug, ↓w_sub, ↓w_for, ↓w_raise, ↓w_break, ↓w_cont, ↓w_op2, ↓w_op1, ↓w_cb, ↓w_c, ↓w_var, ↓w_nil, ↓w_cons, ↓w_tup, ↓w_lst, ↓w_new, ↓w_if, ↓w_test, ↓w_tru, ↓w_not, ↓w_and, ↓w_or, ↓w_andV, ↓w_orV, ↓w_notV, ↓w_chain, ↓w_call, ↓w_callK, ↓w_sl, ↓w_part0, ↓w_part1, ↓w_isi, ↓w_join, ↓w_mt, ↓w_lc, ↓w_lcN, ↓w_lcA, ↓w_it, ↓w_range1, ↓w_range2, ↓w_enum, ↓w_enumS, ↓w_zip,   OkX_ok, OkX_err, OkX_stuck, OkX_guard, o_addS, o_addT, o_addLL, o_addRL, o_addII, o_subI, o_mulI, o_mulS, o_fdivI, o_modI, o_powI, o_negI, o_ltI, o_leI, o_gtI, o_geI, o_ltS, o_leS, o_gtS, o_geS, o_eqI, o_eqS, o_neI, o_neS, o_isD, o_isnotD, o_inS, o_ixS, o_ixT, o_ixL, o_ixR, o_slS, o_slT, o_slL, o_slR, o_lenS, o_lenT, o_lenL, o_lenR, o_absI, o_intI, o_intB, o_tupT, o_tupL, o_tupR, o_maxI, o_minI,   List.set_cons_zero, List.set_cons_succ, List.getElem?_cons_zero, List.getElem?_cons_succ, List.map_cons, List.map_nil, List.length_cons, List.length_nil, List.replicate_succ, List.replicate_zero, List.cons_append, List.nil_append, Nat.reduceSub, Nat.reduceAdd, Nat.reduceLeDiff, exists_eq_left', D.bl.injEq, D.int.injEq, D.str.injEq, D.ref.injEq, D.tup.injEq, true_and, and_true, if_true, if_false, Bool.false_eq_true, Bool.not_true, Bool.not_false, decide_true, decide_false, bindP, bindPs, isK, atI_0, atI_1, atI_2, atI_3, ixN_0, ixN_1, Nat.zero_add, LINE, Nat.zero_le, truD, wipeD, Option.some.injEq]
    cases b <;> simp <;> exact q
  | n, .int i, h, P, X, _, q => by
    unfold mIs; rw [w_run]; unfold bIs
    simp (dsimp := false) only [isi_ti, isi_ii, isi_bi, ↓Kp_app, ↓w_seq, ↓w_sNil, ↓w_set, ↓w_ret, ↓w_retN, ↓w_sIf, ↓w_expr, ↓w_par, ↓w_par3, ↓w_asg, ↓w_aug, ↓w_sub, ↓w_for, ↓w_raise, ↓w_break, ↓w_cont, ↓w_op2, ↓w_op1, ↓w_cb, ↓w_c, ↓w_var, ↓w_nil, ↓w_cons, ↓w_tup, ↓w_lst, ↓w_new, ↓w_if, ↓w_test, ↓w_tru, ↓w_not, ↓w_and, ↓w_or, ↓w_andV, ↓w_orV, ↓w_notV, ↓w_chain, ↓w_call, ↓w_callK, ↓w_sl, ↓w_part0, ↓w_part1, ↓w_isi, ↓w_join, ↓w_mt, ↓w_lc, ↓w_lcN, ↓w_lcA, ↓w_it, ↓w_range1, ↓w_range2, ↓w_enum, ↓w_enumS, ↓w_zip,   OkX_ok, OkX_err, OkX_stuck, OkX_guard, o_addS, o_addT, o_addLL, o_addRL, o_addII, o_subI, o_mulI, o_mulS, o_fdivI, o_modI, o_powI, o_negI, o_ltI, o_leI, o_gtI, o_geI, o_ltS, o_leS, o_gtS, o_geS, o_eqI, o_eqS, o_neI, o_neS, o_isD, o_isnotD, o_inS, o_ixS, o_ixT, o_ixL, o_ixR, o_slS, o_slT, o_slL, o_slR, o_lenS, o_lenT, o_lenL, o_lenR, o_absI, o_intI, o_intB, o_tupT, o_tupL, o_tupR, o_maxI, o_minI,   List.set_cons_zero, List.set_cons_succ, List.getElem?_cons_zero, List.getElem?_cons_succ, List.map_cons, List.map_nil, List.length_cons, List.length_nil, List.replicate_succ, List.replicate_zero, List.cons_append, List.nil_append, Nat.reduceSub, Nat.reduceAdd, Nat.reduceLeDiff, exists_eq_left', D.bl.injEq, D.int.injEq, D.str.injEq, D.ref.injEq, D.tup.injEq, true_and, and_true, if_true, if_false, Bool.false_eq_true, Bool.not_true, Bool.not_false, decide_true, decide_false, bindP, bindPs, isK, atI_0, atI_1, atI_2, atI_3, ixN_0, ixN_1, Nat.zero_add, LINE, Nat.zero_le, truD, wipeD, Option.some.injEq]
    simpa using q
  | n, .str i, h, P, X, _, q => by
    unfold mIs; rw [w_run]; unfold bIs
    simp (dsimp := false) only [isi_ts, isi_ss, isi_is, ↓Kp_app, ↓w_seq, ↓w_sNil, ↓w_set, ↓w_ret, ↓w_retN, ↓w_sIf, ↓w_expr, ↓w_par, ↓w_par3, ↓w_asg, ↓w_aug, ↓w_sub, ↓w_for, ↓w_raise, ↓w_break, ↓w_cont, ↓w_op2, ↓w_op1, ↓w_cb, ↓w_c, ↓w_var, ↓w_nil, ↓w_cons, ↓w_tup, ↓w_lst, ↓w_new, ↓w_if, ↓w_test, ↓w_tru, ↓w_not, ↓w_and, ↓w_or, ↓w_andV, ↓w_orV, ↓w_notV, ↓w_chain, ↓w_call, ↓w_callK, ↓w_sl, ↓w_part0, ↓w_part1, ↓w_isi, ↓w_join, ↓w_mt, ↓w_lc, ↓w_lcN, ↓w_lcA, ↓w_it, ↓w_range1, ↓w_range2, ↓w_enum, ↓w_enumS, ↓w_zip,   OkX_ok, OkX_err, OkX_stuck, OkX_guard, o_addS, o_addT, o_addLL, o_addRL, o_addII, o_subI, o_mulI, o_mulS, o_fdivI, o_modI, o_powI, o_negI, o_ltI, o_leI, o_gtI, o_geI, o_ltS, o_leS, o_gtS, o_geS, o_eqI, o_eqS, o_neI, o_neS, o_isD, o_isnotD, o_inS, o_ixS, o_ixT, o_ixL, o_ixR, o_slS, o_slT, o_slL, o_slR, o_lenS, o_lenT, o_lenL, o_lenR, o_absI, o_intI, o_intB, o_tupT, o_tupL, o_tupR, o_maxI, o_minI,   List.set_cons_zero, List.set_cons_succ, List.getElem?_cons_zero, List.getElem?_cons_succ, List.map_cons, List.map_nil, List.length_cons, List.length_nil, List.replicate_succ, List.replicate_zero, List.cons_append, List.nil_append, Nat.reduceSub, Nat.reduceAdd, Nat.reduceLeDiff, exists_eq_left', D.bl.injEq, D.int.injEq, D.str.injEq, D.ref.injEq, D.tup.injEq, true_and, and_true, if_true, if_false, Bool.false_eq_true, Bool.not_true, Bool.not_false, decide_true, decide_false, bindP, bindPs, isK, atI_0, atI_1, atI_2, atI_3, ixN_0, ixN_1, Nat.zero_add, LINE, Nat.zero_le, truD, wipeD, Option.some.injEq]
    simpa using q
  | 0, .tup _, _, _, _, s, _ => by unfold sameD at s; cases s
  | _, .lst _, _, _, _, s, _ => by unfold sameD at s; cases s
  | _, .ref _, _, _, _, s, _ => by unfold sameD at s; cases s
  | _, .glo _, _, _, _, s, _ => by unfold sameD at s; cases s
  | _, .clo _ _, _, _, _, s, _ => by unfold sameD at s; cases s
  | n + 1, .tup ds, h, P, X, s, q => by
    unfold sameD at s
    unfold mIs; rw [w_run]; unfold bIs
    simp (dsimp := false) only [isi_tt, zip_self, ↓Kp_app, ↓w_seq, ↓w_sNil, ↓w_set, ↓w_ret, ↓w_retN, ↓w_sIf, ↓w_expr, ↓w_par, ↓w_par3, ↓w_asg, ↓w_aug, ↓w_sub, ↓w_for, ↓w_raise, ↓w_break, ↓w_cont, ↓w_op2, ↓w_op1, ↓w_cb, ↓w_c, ↓w_var, ↓w_nil, ↓w_cons, ↓w_tup, ↓w_lst, ↓w_new, ↓w_if, ↓w_test, ↓w_tru, ↓w_not, ↓w_and, ↓w_or, ↓w_andV, ↓w_orV, ↓w_notV, ↓w_chain, ↓w_call, ↓w_callK, ↓w_sl, ↓w_part0, ↓w_part1, ↓w_isi, ↓w_join, ↓w_mt, ↓w_lc, ↓w_lcN, ↓w_lcA, ↓w_it, ↓w_range1, ↓w_range2, ↓w_enum, ↓w_enumS, ↓w_zip,   OkX_ok, OkX_err, OkX_stuck, OkX_guard, o_addS, o_addT, o_addLL, o_addRL, o_addII, o_subI, o_mulI, o_mulS, o_fdivI, o_modI, o_powI, o_negI, o_ltI, o_leI, o_gtI, o_geI, o_ltS, o_leS, o_gtS, o_geS, o_eqI, o_eqS, o_neI, o_neS, o_isD, o_isnotD, o_inS, o_ixS, o_ixT, o_ixL, o_ixR, o_slS, o_slT, o_slL, o_slR, o_lenS, o_lenT, o_lenL, o_lenR, o_absI, o_intI, o_intB, o_tupT, o_tupL, o_tupR, o_maxI, o_minI,   List.set_cons_zero, List.set_cons_succ, List.getElem?_cons_zero, List.getElem?_cons_succ, List.map_cons, List.map_nil, List.length_cons, List.length_nil, List.replicate_succ, List.replicate_zero, List.cons_append, List.nil_append, Nat.reduceSub, Nat.reduceAdd, Nat.reduceLeDiff, exists_eq_left', D.bl.injEq, D.int.injEq, D.str.injEq, D.ref.injEq, D.tup.injEq, true_and, and_true, if_true, if_false, Bool.false_eq_true, Bool.not_true, Bool.not_false, decide_true, decide_false, bindP, bindPs, isK, atI_0, atI_1, atI_2, atI_3, ixN_0, ixN_1, Nat.zero_add, LINE, Nat.zero_le, truD, wipeD, Option.some.injEq]
    refine w_loopC (fun d => D.tup [d, d]) (fun _ a h' => a = [] ∧ h' = h) (fun _ _ _ _ => by rfl) ds h ⟨rfl, rfl⟩ (fun l x r a h' e i => ?_) (fun a h' i => ?_)
    · obtain ⟨rfl, rfl⟩ := i
      refine ⟨_, rfl, ?_⟩
      simp (dsimp := false) only [↓Kp_app, ↓w_seq, ↓w_sNil, ↓w_set, ↓w_ret, ↓w_retN, ↓w_sIf, ↓w_expr, ↓w_par, ↓w_par3, ↓w_asg, ↓w_aug, ↓w_sub, ↓w_for, ↓w_raise, ↓w_break, ↓w_cont, ↓w_op2, ↓w_op1, ↓w_cb, ↓w_c, ↓w_var, ↓w_nil, ↓w_cons, ↓w_tup, ↓w_lst, ↓w_new, ↓w_if, ↓w_test, ↓w_tru, ↓w_not, ↓w_and, ↓w_or, ↓w_andV, ↓w_orV, ↓w_notV, ↓w_chain, ↓w_call, ↓w_callK, ↓w_sl, ↓w_part0, ↓w_part1, ↓w_isi, ↓w_join, ↓w_mt, ↓w_lc, ↓w_lcN, ↓w_lcA, ↓w_it, ↓w_range1, ↓w_range2, ↓w_enum, ↓w_enumS, ↓w_zip,   OkX_ok, OkX_err, OkX_stuck, OkX_guard, o_addS, o_addT, o_addLL, o_addRL, o_addII, o_subI, o_mulI, o_mulS, o_fdivI, o_modI, o_powI, o_negI, o_ltI, o_leI, o_gtI, o_geI, o_ltS, o_leS, o_gtS, o_geS, o_eqI, o_eqS, o_neI, o_neS, o_isD, o_isnotD, o_inS, o_ixS, o_ixT, o_ixL, o_ixR, o_slS, o_slT, o_slL, o_slR, o_lenS, o_lenT, o_lenL, o_lenR, o_absI, o_intI, o_intB, o_tupT, o_tupL, o_tupR, o_maxI, o_minI,   List.set_cons_zero, List.set_cons_succ, List.getElem?_cons_zero, List.getElem?_cons_succ, List.map_cons, List.map_nil, List.length_cons, List.length_nil, List.replicate_succ, List.replicate_zero, List.cons_append, List.nil_append, Nat.reduceSub, Nat.reduceAdd, Nat.reduceLeDiff, exists_eq_left', D.bl.injEq, D.int.injEq, D.str.injEq, D.ref.injEq, D.tup.injEq, true_and, and_true, if_true, if_false, Bool.false_eq_true, Bool.not_true, Bool.not_false, decide_true, decide_false, bindP, bindPs, isK, atI_0, atI_1, atI_2, atI_3, ixN_0, ixN_1, Nat.zero_add, LINE, Nat.zero_le, truD, wipeD, Option.some.injEq]
      refine is_ok n x _ _ _ (List.all_eq_true.mp s x (by rw [e]; simp)) ?_
      simp (dsimp := false) only [↓Kp_app, ↓w_seq, ↓w_sNil, ↓w_set, ↓w_ret, ↓w_retN, ↓w_sIf, ↓w_expr, ↓w_par, ↓w_par3, ↓w_asg, ↓w_aug, ↓w_sub, ↓w_for, ↓w_raise, ↓w_break, ↓w_cont, ↓w_op2, ↓w_op1, ↓w_cb, ↓w_c, ↓w_var, ↓w_nil, ↓w_cons, ↓w_tup, ↓w_lst, ↓w_new, ↓w_if, ↓w_test, ↓w_tru, ↓w_not, ↓w_and, ↓w_or, ↓w_andV, ↓w_orV, ↓w_notV, ↓w_chain, ↓w_call, ↓w_callK, ↓w_sl, ↓w_part0, ↓w_part1, ↓w_isi, ↓w_join, ↓w_mt, ↓w_lc, ↓w_lcN, ↓w_lcA, ↓w_it, ↓w_range1, ↓w_range2, ↓w_enum, ↓w_enumS, ↓w_zip,   OkX_ok, OkX_err, OkX_stuck, OkX_guard, o_addS, o_addT, o_addLL, o_addRL, o_addII, o_subI, o_mulI, o_mulS, o_fdivI, o_modI, o_powI, o_negI, o_ltI, o_leI, o_gtI, o_geI, o_ltS, o_leS, o_gtS, o_geS, o_eqI, o_eqS, o_neI, o_neS, o_isD, o_isnotD, o_inS, o_ixS, o_ixT, o_ixL, o_ixR, o_slS, o_slT, o_slL, o_slR, o_lenS, o_lenT, o_lenL, o_lenR, o_absI, o_intI, o_intB, o_tupT, o_tupL, o_tupR, o_maxI, o_minI,   List.set_cons_zero, List.set_cons_succ, List.getElem?_cons_zero, List.getElem?_cons_succ, List.map_cons, List.map_nil, List.length_cons, List.length_nil, List.replicate_succ, List.replicate_zero, List.cons_append, List.nil_append, Nat.reduceSub, Nat.reduceAdd, Nat.reduceLeDiff, exists_eq_left', D.bl.injEq, D.int.injEq, D.str.injEq, D.ref.injEq, D.tup.injEq, true_and, and_true, if_true, if_false, Bool.false_eq_true, Bool.not_true, Bool.not_false, decide_true, decide_false, bindP, bindPs, isK, atI_0, atI_1, atI_2, atI_3, ixN_0, ixN_1, Nat.zero_add, LINE, Nat.zero_le, truD, wipeD, Option.some.injEq]
    · obtain ⟨rfl, rfl⟩ := i
      simp (dsimp := false) only [o_eqD, eqD_self_lst, ↓Kp_app, ↓w_seq, ↓w_sNil, ↓w_set, ↓w_ret, ↓w_retN, ↓w_sIf, ↓w_expr, ↓w_par, ↓w_par3, ↓w_asg, ↓w_aug, ↓w_sub, ↓w_for, ↓w_raise, ↓w_break, ↓w_cont, ↓w_op2, ↓w_op1, ↓w_cb, ↓w_c, ↓w_var, ↓w_nil, ↓w_cons, ↓w_tup, ↓w_lst, ↓w_new, ↓w_if, ↓w_test, ↓w_tru, ↓w_not, ↓w_and, ↓w_or, ↓w_andV, ↓w_orV, ↓w_notV, ↓w_chain, ↓w_call, ↓w_callK, ↓w_sl, ↓w_part0, ↓w_part1, ↓w_isi, ↓w_join, ↓w_mt, ↓w_lc, ↓w_lcN, ↓w_lcA, ↓w_it, ↓w_range1, ↓w_range2, ↓w_enum, ↓w_enumS, ↓w_zip,   OkX_ok, OkX_err, OkX_stuck, OkX_guard, o_addS, o_addT, o_addLL, o_addRL, o_addII, o_subI, o_mulI, o_mulS, o_fdivI, o_modI, o_powI, o_negI, o_ltI, o_leI, o_gtI, o_geI, o_ltS, o_leS, o_gtS, o_geS, o_eqI, o_eqS, o_neI, o_neS, o_isD, o_isnotD, o_inS, o_ixS, o_ixT, o_ixL, o_ixR, o_slS, o_slT, o_slL, o_slR, o_lenS, o_lenT, o_lenL, o_lenR, o_absI, o_intI, o_intB, o_tupT, o_tupL, o_tupR, o_maxI, o_minI,   List.set_cons_zero, List.set_cons_succ, List.getElem?_cons_zero, List.getElem?_cons_succ, List.map_cons, List.map_nil, List.length_cons, List.length_nil, List.replicate_succ, List.replicate_zero, List.cons_append, List.nil_append, Nat.reduceSub, Nat.reduceAdd, Nat.reduceLeDiff, exists_eq_left', D.bl.injEq, D.int.injEq, D.str.injEq, D.ref.injEq, D.tup.injEq, true_and, and_true, if_true, if_false, Bool.false_eq_true, Bool.not_true, Bool.not_false, decide_true, decide_false, bindP, bindPs, isK, atI_0, atI_1, atI_2, atI_3, ixN_0, ixN_1, Nat.zero_add, LINE, Nat.zero_le, truD, wipeD, Option.some.injEq]
      exact q
theorem pick_ok {h : List MO} {b : Nat} {ds : List D} {P : D → List MO → Prop} {X : Ex → List MO → Prop} (x : Box h b) (h0 : ds ≠ []) (h1 : ds.length < 2 ^ 60)
    (q : ∀ d h', d ∈ ds → Bx b h h' → P d h') : OkX (runF 2 bPick [.ref b, .lst ds] h) P X := by
  rw [w_run]; unfold bPick
  simp (dsimp := false) only [↓Kp_app, ↓w_seq, ↓w_sNil, ↓w_set, ↓w_ret, ↓w_retN, ↓w_sIf, ↓w_expr, ↓w_par, ↓w_par3, ↓w_asg, ↓w_aug, ↓w_sub, ↓w_for, ↓w_raise, ↓w_break, ↓w_cont, ↓w_op2, ↓w_op1, ↓w_cb, ↓w_c, ↓w_var, ↓w_nil, ↓w_cons, ↓w_tup, ↓w_lst, ↓w_new, ↓w_if, ↓w_test, ↓w_tru, ↓w_not, ↓w_and, ↓w_or, ↓w_andV, ↓w_orV, ↓w_notV, ↓w_chain, ↓w_call, ↓w_callK, ↓w_sl, ↓w_part0, ↓w_part1, ↓w_isi, ↓w_join, ↓w_mt, ↓w_lc, ↓w_lcN, ↓w_lcA, ↓w_it, ↓w_range1, ↓w_range2, ↓w_enum, ↓w_enumS, ↓w_zip,   OkX_ok, OkX_err, OkX_stuck, OkX_guard, o_addS, o_addT, o_addLL, o_addRL, o_addII, o_subI, o_mulI, o_mulS, o_fdivI, o_modI, o_powI, o_negI, o_ltI, o_leI, o_gtI, o_geI, o_ltS, o_leS, o_gtS, o_geS, o_eqI, o_eqS, o_neI, o_neS, o_isD, o_isnotD, o_inS, o_ixS, o_ixT, o_ixL, o_ixR, o_slS, o_slT, o_slL, o_slR, o_lenS, o_lenT, o_lenL, o_lenR, o_absI, o_intI, o_intB, o_tupT, o_tupL, o_tupR, o_maxI, o_minI,   List.set_cons_zero, List.set_cons_succ, List.getElem?_cons_zero, List.getElem?_cons_succ, List.map_cons, List.map_nil, List.length_cons, List.length_nil, List.replicate_succ, List.replicate_zero, List.cons_append, List.nil_append, Nat.reduceSub, Nat.reduceAdd, Nat.reduceLeDiff, exists_eq_left', D.bl.injEq, D.int.injEq, D.str.injEq, D.ref.injEq, D.tup.injEq, true_and, and_true, if_true, if_false, Bool.false_eq_true, Bool.not_true, Bool.not_false, decide_true, decide_false, bindP, bindPs, isK, atI_0, atI_1, atI_2, atI_3, ixN_0, ixN_1, Nat.zero_add, LINE, Nat.zero_le, truD, wipeD, Option.some.injEq]
  have h2 := List.length_pos_iff.mpr h0
  refine take_ok (n := (ds.length : Int)) x (by omega) ?_ fun k h' k0 k1 hx => ?_
  · rw [Int.natAbs_natCast]
    have : ds.length.log2 < 60 := (Nat.log2_lt (by omega)).mpr h1
    omega
  obtain ⟨m, rfl⟩ := Int.eq_ofNat_of_zero_le k0
  have hm : m < ds.length := by omega
  simp (dsimp := false) only [atI_nat, List.getElem?_eq_getElem hm, ↓Kp_app, ↓w_seq, ↓w_sNil, ↓w_set, ↓w_ret, ↓w_retN, ↓w_sIf, ↓w_expr, ↓w_par, ↓w_par3, ↓w_asg, ↓w_aug, ↓w_sub, ↓w_for, ↓w_raise, ↓w_break, ↓w_cont, ↓w_op2, ↓w_op1, ↓w_cb, ↓w_c, ↓w_var, ↓w_nil, ↓w_cons, ↓w_tup, ↓w_lst, ↓w_new, ↓w_if, ↓w_test, ↓w_tru, ↓w_not, ↓w_and, ↓w_or, ↓w_andV, ↓w_orV, ↓w_notV, ↓w_chain, ↓w_call, ↓w_callK, ↓w_sl, ↓w_part0, ↓w_part1, ↓w_isi, ↓w_join, ↓w_mt, ↓w_lc, ↓w_lcN, ↓w_lcA, ↓w_it, ↓w_range1, ↓w_range2, ↓w_enum, ↓w_enumS, ↓w_zip,   OkX_ok, OkX_err, OkX_stuck, OkX_guard, o_addS, o_addT, o_addLL, o_addRL, o_addII, o_subI, o_mulI, o_mulS, o_fdivI, o_modI, o_powI, o_negI, o_ltI, o_leI, o_gtI, o_geI, o_ltS, o_leS, o_gtS, o_geS, o_eqI, o_eqS, o_neI, o_neS, o_isD, o_isnotD, o_inS, o_ixS, o_ixT, o_ixL, o_ixR, o_slS, o_slT, o_slL, o_slR, o_lenS, o_lenT, o_lenL, o_lenR, o_absI, o_intI, o_intB, o_tupT, o_tupL, o_tupR, o_maxI, o_minI,   List.set_cons_zero, List.set_cons_succ, List.getElem?_cons_zero, List.getElem?_cons_succ, List.map_cons, List.map_nil, List.length_cons, List.length_nil, List.replicate_succ, List.replicate_zero, List.cons_append, List.nil_append, Nat.reduceSub, Nat.reduceAdd, Nat.reduceLeDiff, exists_eq_left', D.bl.injEq, D.int.injEq, D.str.injEq, D.ref.injEq, D.tup.injEq, true_and, and_true, if_true, if_false, Bool.false_eq_true, Bool.not_true, Bool.not_false, decide_true, decide_false, bindP, bindPs, isK, atI_0, atI_1, atI_2, atI_3, ixN_0, ixN_1, Nat.zero_add, LINE, Nat.zero_le, truD, wipeD, Option.some.injEq]
  exact q _ _ (List.getElem_mem hm) hx
theorem enum_at {α : Type} (f : α → D) {xs : List α} {n : Nat} {l r : List D} {d : D} (e : enumD n (xs.map f) = l ++ d :: r) : ∃ x, xs[l.length]? = some x ∧ d = .tup [.int ((n + l.length : Nat) : Int), f x] := by
  have h := congrArg (fun z => z[l.length]?) e
  simp only [enumD_get] at h
  rw [List.getElem?_append_right (Nat.le_refl _), Nat.sub_self, List.getElem?_cons_zero, List.getElem?_map] at h
  cases e2 : xs[l.length]? with
  | none => rw [e2] at h; cases h
  | some x =>
    rw [e2] at h
    simp only [Option.map_some, Option.some.injEq] at h
    exact ⟨x, rfl, h.symm⟩
theorem bits_lt {z : Int} (h : Builtin.Int.intBits z ≤ 1048576) : ∃ a, a ≤ 1048576 ∧ z.natAbs < 2 ^ a := by
  unfold Builtin.Int.intBits at h
  by_cases e : z = 0
  · subst e; exact ⟨0, Nat.zero_le _, by decide⟩
  · rw [if_neg (by simpa using e)] at h
    exact ⟨_, h, (Nat.log2_lt (by omega)).mp (Nat.lt_succ_self _)⟩
/-- the box is made -/
theorem box_okP {ns : List Int} {h : List MO} {P : D → List MO → Prop} {X : Ex → List MO → Prop} {s0 c0 : Int} (hs0' : 0 ≤ s0 ∧ s0 < 2147483648) (hc0' : 0 ≤ c0 ∧ c0 < 1000000) (hl0 : ns.length ≤ 63) (hz : ∀ z ∈ ns, Builtin.Int.intBits z ≤ 1048576)
    (q : ∀ b h', b = h.length + 1 → h'.length = h.length + 2 → (∀ i, i < h.length → h'[i]? = h[i]?) → Box h' b → P (.ref b) h') : OkX (runF 6 (bBoxP s0 c0) [.lst (ns.map .int)] h) P X := by
  rw [w_run]; unfold bBoxP
  simp (dsimp := false) only [↓Kp_app, ↓w_seq, ↓w_sNil, ↓w_set, ↓w_ret, ↓w_retN, ↓w_sIf, ↓w_expr, ↓w_par, ↓w_par3, ↓w_asg, ↓w_aug, ↓w_sub, ↓w_for, ↓w_raise, ↓w_break, ↓w_cont, ↓w_op2, ↓w_op1, ↓w_cb, ↓w_c, ↓w_var, ↓w_nil, ↓w_cons, ↓w_tup, ↓w_lst, ↓w_new, ↓w_if, ↓w_test, ↓w_tru, ↓w_not, ↓w_and, ↓w_or, ↓w_andV, ↓w_orV, ↓w_notV, ↓w_chain, ↓w_call, ↓w_callK, ↓w_sl, ↓w_part0, ↓w_part1, ↓w_isi, ↓w_join, ↓w_mt, ↓w_lc, ↓w_lcN, ↓w_lcA, ↓w_it, ↓w_range1, ↓w_range2, ↓w_enum, ↓w_enumS, ↓w_zip,   OkX_ok, OkX_err, OkX_stuck, OkX_guard, o_addS, o_addT, o_addLL, o_addRL, o_addII, o_subI, o_mulI, o_mulS, o_fdivI, o_modI, o_powI, o_negI, o_ltI, o_leI, o_gtI, o_geI, o_ltS, o_leS, o_gtS, o_geS, o_eqI, o_eqS, o_neI, o_neS, o_isD, o_isnotD, o_inS, o_ixS, o_ixT, o_ixL, o_ixR, o_slS, o_slT, o_slL, o_slR, o_lenS, o_lenT, o_lenL, o_lenR, o_absI, o_intI, o_intB, o_tupT, o_tupL, o_tupR, o_maxI, o_minI,   List.set_cons_zero, List.set_cons_succ, List.getElem?_cons_zero, List.getElem?_cons_succ, List.map_cons, List.map_nil, List.length_cons, List.length_nil, List.replicate_succ, List.replicate_zero, List.cons_append, List.nil_append, Nat.reduceSub, Nat.reduceAdd, Nat.reduceLeDiff, exists_eq_left', D.bl.injEq, D.int.injEq, D.str.injEq, D.ref.injEq, D.tup.injEq, true_and, and_true, if_true, if_false, Bool.false_eq_true, Bool.not_true, Bool.not_false, decide_true, decide_false, bindP, bindPs, isK, atI_0, atI_1, atI_2, atI_3, ixN_0, ixN_1, Nat.zero_add, LINE, Nat.zero_le, truD, wipeD, Option.some.injEq]
  have ct : cutD (ns.map D.int) none (some 63) = ns.map D.int := by
    have := cut_to (ns.map D.int) 63
    rw [show ((63 : Nat) : Int) = 63 from rfl] at this
    rw [this, List.take_of_length_le (by simpa using hl0)]
  rw [ct]
  refine w_loopF (fun pre ρ h' => ∃ cells st x y z, ρ = [some (D.lst (ns.map .int)), some (.ref h.length), some (.int st), x, y, z] ∧ h' = h ++ [.lst (cells.map .int)] ∧ (∀ c ∈ cells, 0 ≤ c) ∧ cells.length ≤ pre.length ∧ 0 ≤ st ∧ st < 2147483648)
    (fun _ _ _ _ => rfl) [] _ _ _ ⟨[], s0, none, none, none, rfl, rfl, fun _ m => (nomatch m), Nat.le_refl _, by omega, by omega⟩ (fun l d r ρ h' e i => ?_) (fun ρ h' i => ?_)
  · obtain ⟨cells, st, x, y, z, rfl, rfl, hc, hcl, s0, s1⟩ := i
    rw [List.nil_append] at e
    obtain ⟨c, e1, rfl⟩ := enum_at D.int e
    have hm : c ∈ ns := List.mem_of_getElem? e1
    have hk : l.length < ns.length := (List.getElem?_eq_some_iff.mp e1).1
    obtain ⟨a, ha, hca⟩ := bits_lt (hz c hm)
    refine ⟨_, rfl, ?_⟩
    have m0 : mulOk (c.natAbs : Int) 2 := mulx_ok (a := a) (b := 40) (by simpa using hca) (by omega) (by omega)
    have hcl2 : cells.length ≤ 62 := by omega
    have fin : ∀ (t : Int) (cells2 : List Int), (∀ c ∈ cells2, 0 ≤ c) → cells2.length ≤ l.length + 1 → 0 ≤ t → (∀ u : Int, u = (st * 48271 + t.fmod 2147483629 * (2 * (l.length : Int) + c0) + 17).fmod 2147483629 + 1 → 
      mulOk st 48271 ∧ 2147483629 ≠ (0 : Int) ∧ mulOk 2 (l.length : Int) ∧ mulOk (t.fmod 2147483629) (2 * (l.length : Int) + c0) ∧ 2147483629 ≠ (0 : Int) ∧ ∃ (cells_1 : List Int) (st_1 : Int) (x y z : Option D), [some (D.lst (ns.map .int)), some (.ref h.length), some (.int u), some (.int (l.length : Int)), some (.int c), some (.int t)] = [some (D.lst (ns.map .int)), some (.ref h.length), some (.int st_1), x, y, z] ∧ h ++ [MO.lst (cells2.map .int)] = h ++ [.lst (cells_1.map .int)] ∧ (∀ c ∈ cells_1, 0 ≤ c) ∧ cells_1.length ≤ l.length + 1 ∧ 0 ≤ st_1 ∧ st_1 < 2147483648) := fun t cells2 h1 h2 t0 u hu => by
      have r0 := Int.emod_nonneg t (show (2147483629 : Int) ≠ 0 by omega)
      have r1 := Int.emod_lt_of_pos t (show (0 : Int) < 2147483629 by omega)
      rw [Int.fmod_eq_emod_of_nonneg t (by omega)] at *
      have hp : 0 ≤ t % 2147483629 * (2 * (l.length : Int) + c0) := Int.mul_nonneg r0 (by omega)
      have r2 := Int.emod_nonneg (st * 48271 + t % 2147483629 * (2 * (l.length : Int) + c0) + 17) (show (2147483629 : Int) ≠ 0 by omega)
      have r3 := Int.emod_lt_of_pos (st * 48271 + t % 2147483629 * (2 * (l.length : Int) + c0) + 17) (show (0 : Int) < 2147483629 by omega)
      rw [Int.fmod_eq_emod_of_nonneg _ (by omega)] at hu
      exact ⟨mulOk_of 40 40 (by omega) (by omega), by omega, mulOk_of 40 40 (by omega) (by omega), mulOk_of 40 40 (by omega) (by omega), by omega, cells2, u, _, _, _, rfl, rfl, h1, h2, by omega, by omega⟩
    have tt : 0 ≤ ((c.natAbs : Int) * 2 + if decide (c < 0) = true then 1 else 0) := by split <;> omega
    simp (dsimp := false) only [hl_app, set_app, ↓Kp_app, ↓w_seq, ↓w_sNil, ↓w_set, ↓w_ret, ↓w_retN, ↓w_sIf, ↓w_expr, ↓w_par, ↓w_par3, ↓w_asg, ↓w_aug, ↓w_sub, ↓w_for, ↓w_raise, ↓w_break, ↓w_cont, ↓w_op2, ↓w_op1, ↓w_cb, ↓w_c, ↓w_var, ↓w_nil, ↓w_cons, ↓w_tup, ↓w_lst, ↓w_new, ↓w_if, ↓w_test, ↓w_tru, ↓w_not, ↓w_and, ↓w_or, ↓w_andV, ↓w_orV, ↓w_notV, ↓w_chain, ↓w_call, ↓w_callK, ↓w_sl, ↓w_part0, ↓w_part1, ↓w_isi, ↓w_join, ↓w_mt, ↓w_lc, ↓w_lcN, ↓w_lcA, ↓w_it, ↓w_range1, ↓w_range2, ↓w_enum, ↓w_enumS, ↓w_zip,   OkX_ok, OkX_err, OkX_stuck, OkX_guard, o_addS, o_addT, o_addLL, o_addRL, o_addII, o_subI, o_mulI, o_mulS, o_fdivI, o_modI, o_powI, o_negI, o_ltI, o_leI, o_gtI, o_geI, o_ltS, o_leS, o_gtS, o_geS, o_eqI, o_eqS, o_neI, o_neS, o_isD, o_isnotD, o_inS, o_ixS, o_ixT, o_ixL, o_ixR, o_slS, o_slT, o_slL, o_slR, o_lenS, o_lenT, o_lenL, o_lenR, o_absI, o_intI, o_intB, o_tupT, o_tupL, o_tupR, o_maxI, o_minI,   List.set_cons_zero, List.set_cons_succ, List.getElem?_cons_zero, List.getElem?_cons_succ, List.map_cons, List.map_nil, List.length_cons, List.length_nil, List.replicate_succ, List.replicate_zero, List.cons_append, List.nil_append, Nat.reduceSub, Nat.reduceAdd, Nat.reduceLeDiff, exists_eq_left', D.bl.injEq, D.int.injEq, D.str.injEq, D.ref.injEq, D.tup.injEq, true_and, and_true, if_true, if_false, Bool.false_eq_true, Bool.not_true, Bool.not_false, decide_true, decide_false, bindP, bindPs, isK, atI_0, atI_1, atI_2, atI_3, ixN_0, ixN_1, Nat.zero_add, LINE, Nat.zero_le, truD, wipeD, Option.some.injEq]
    refine ⟨m0, by decide, ?_⟩
    by_cases g : decide ((10 : Int) ^ Int.toNat 18 ≤ (c.natAbs : Int)) = true
    · rw [if_pos g]
      simp (dsimp := false) only [app_append (show (cells.map D.int).length < LINE by simp [LINE]; omega), set_app, ↓Kp_app, ↓w_seq, ↓w_sNil, ↓w_set, ↓w_ret, ↓w_retN, ↓w_sIf, ↓w_expr, ↓w_par, ↓w_par3, ↓w_asg, ↓w_aug, ↓w_sub, ↓w_for, ↓w_raise, ↓w_break, ↓w_cont, ↓w_op2, ↓w_op1, ↓w_cb, ↓w_c, ↓w_var, ↓w_nil, ↓w_cons, ↓w_tup, ↓w_lst, ↓w_new, ↓w_if, ↓w_test, ↓w_tru, ↓w_not, ↓w_and, ↓w_or, ↓w_andV, ↓w_orV, ↓w_notV, ↓w_chain, ↓w_call, ↓w_callK, ↓w_sl, ↓w_part0, ↓w_part1, ↓w_isi, ↓w_join, ↓w_mt, ↓w_lc, ↓w_lcN, ↓w_lcA, ↓w_it, ↓w_range1, ↓w_range2, ↓w_enum, ↓w_enumS, ↓w_zip,   OkX_ok, OkX_err, OkX_stuck, OkX_guard, o_addS, o_addT, o_addLL, o_addRL, o_addII, o_subI, o_mulI, o_mulS, o_fdivI, o_modI, o_powI, o_negI, o_ltI, o_leI, o_gtI, o_geI, o_ltS, o_leS, o_gtS, o_geS, o_eqI, o_eqS, o_neI, o_neS, o_isD, o_isnotD, o_inS, o_ixS, o_ixT, o_ixL, o_ixR, o_slS, o_slT, o_slL, o_slR, o_lenS, o_lenT, o_lenL, o_lenR, o_absI, o_intI, o_intB, o_tupT, o_tupL, o_tupR, o_maxI, o_minI,   List.set_cons_zero, List.set_cons_succ, List.getElem?_cons_zero, List.getElem?_cons_succ, List.map_cons, List.map_nil, List.length_cons, List.length_nil, List.replicate_succ, List.replicate_zero, List.cons_append, List.nil_append, Nat.reduceSub, Nat.reduceAdd, Nat.reduceLeDiff, exists_eq_left', D.bl.injEq, D.int.injEq, D.str.injEq, D.ref.injEq, D.tup.injEq, true_and, and_true, if_true, if_false, Bool.false_eq_true, Bool.not_true, Bool.not_false, decide_true, decide_false, bindP, bindPs, isK, atI_0, atI_1, atI_2, atI_3, ixN_0, ixN_1, Nat.zero_add, LINE, Nat.zero_le, truD, wipeD, Option.some.injEq]
      have ea : cells.map D.int ++ [D.int (c.natAbs : Int)] = (cells ++ [(c.natAbs : Int)]).map .int := by simp
      rw [ea]
      have := fin _ (cells ++ [(c.natAbs : Int)]) (fun d m => by
        rcases List.mem_append.mp m with m | m
        · exact hc d m
        · rw [List.mem_singleton.mp m]; omega) (by simp; omega) tt _ rfl
      simpa using this
    · rw [if_neg g]
      have := fin _ cells hc (by omega) tt _ rfl
      simpa using this
  · obtain ⟨cells, st, x, y, z, rfl, rfl, hc, hcl, s0, s1⟩ := i
    simp (dsimp := false) only [↓Kp_app, ↓w_seq, ↓w_sNil, ↓w_set, ↓w_ret, ↓w_retN, ↓w_sIf, ↓w_expr, ↓w_par, ↓w_par3, ↓w_asg, ↓w_aug, ↓w_sub, ↓w_for, ↓w_raise, ↓w_break, ↓w_cont, ↓w_op2, ↓w_op1, ↓w_cb, ↓w_c, ↓w_var, ↓w_nil, ↓w_cons, ↓w_tup, ↓w_lst, ↓w_new, ↓w_if, ↓w_test, ↓w_tru, ↓w_not, ↓w_and, ↓w_or, ↓w_andV, ↓w_orV, ↓w_notV, ↓w_chain, ↓w_call, ↓w_callK, ↓w_sl, ↓w_part0, ↓w_part1, ↓w_isi, ↓w_join, ↓w_mt, ↓w_lc, ↓w_lcN, ↓w_lcA, ↓w_it, ↓w_range1, ↓w_range2, ↓w_enum, ↓w_enumS, ↓w_zip,   OkX_ok, OkX_err, OkX_stuck, OkX_guard, o_addS, o_addT, o_addLL, o_addRL, o_addII, o_subI, o_mulI, o_mulS, o_fdivI, o_modI, o_powI, o_negI, o_ltI, o_leI, o_gtI, o_geI, o_ltS, o_leS, o_gtS, o_geS, o_eqI, o_eqS, o_neI, o_neS, o_isD, o_isnotD, o_inS, o_ixS, o_ixT, o_ixL, o_ixR, o_slS, o_slT, o_slL, o_slR, o_lenS, o_lenT, o_lenL, o_lenR, o_absI, o_intI, o_intB, o_tupT, o_tupL, o_tupR, o_maxI, o_minI,   List.set_cons_zero, List.set_cons_succ, List.getElem?_cons_zero, List.getElem?_cons_succ, List.map_cons, List.map_nil, List.length_cons, List.length_nil, List.replicate_succ, List.replicate_zero, List.cons_append, List.nil_append, Nat.reduceSub, Nat.reduceAdd, Nat.reduceLeDiff, exists_eq_left', D.bl.injEq, D.int.injEq, D.str.injEq, D.ref.injEq, D.tup.injEq, true_and, and_true, if_true, if_false, Bool.false_eq_true, Bool.not_true, Bool.not_false, decide_true, decide_false, bindP, bindPs, isK, atI_0, atI_1, atI_2, atI_3, ixN_0, ixN_1, Nat.zero_add, LINE, Nat.zero_le, truD, wipeD, Option.some.injEq]
    have hlen : (h ++ [MO.lst (cells.map D.int)]).length = h.length + 1 := by simp
    refine q _ _ (by simp) (by simp) (fun i hi => ?_) ⟨cells, st, ⟨_, hl_app, .inr ⟨h.length, by simp, rfl, ?_⟩⟩, hc, ?_, s0, s1⟩
    · rw [List.append_assoc, List.getElem?_append_left hi]
    · rw [hl_iff, List.append_assoc, List.getElem?_append_right (Nat.le_refl _)]; simp
    · have : ([] ++ enumD 0 (ns.map D.int)).length = ns.length := by simp [enumD_len]
      omega
theorem box_ok {ns : List Int} {h : List MO} {P : D → List MO → Prop} {X : Ex → List MO → Prop} (hl0 : ns.length ≤ 63) (hz : ∀ z ∈ ns, Builtin.Int.intBits z ≤ 1048576)
    (q : ∀ b h', b = h.length + 1 → h'.length = h.length + 2 → (∀ i, i < h.length → h'[i]? = h[i]?) → Box h' b → P (.ref b) h') : OkX (runF 6 bBox [.lst (ns.map .int)] h) P X := box_okP (by omega) (by omega) hl0 hz q
end MP
end
section
set_option Elab.async false
set_option linter.all false
set_option maxRecDepth 100000
set_option maxHeartbeats 4000000
namespace Lw
open PySem PySem.Spec PyProof.Rows L2 LamX He MP
abbrev RW : PySem.W.OpenLaw := PySem.Challenge.rw_twoled_k01_whole_texts_cut_into_groups
abbrev PP : Program := RW.prog
def top (i : Nat) : Stmt := PySem.Challenge.pw_twoled_k01_whole_texts_cut_into_groups.main.body.getD i (.Pass ⟨0, 0, 0, 0⟩)
abbrev FnP (K : PySem.W.Frag) (x : Str) (i : Nat) (fd : FuncData) : Prop := FunD K x x (defArgs (top i)) (defBody (top i)) (defScope (top i)) [] [] (ga K x) fd
def ini_InvalidDeed : IniD := let s := sAt (clsBody (top 4)) 0; ⟨"InvalidDeed", "InvalidDeed.__init__", defArgs s, defBody s, defScope s⟩
def ini_InvalidPlace : IniD := let s := sAt (clsBody (top 3)) 0; ⟨"InvalidPlace", "InvalidPlace.__init__", defArgs s, defBody s, defScope s⟩
def ini_InvalidText : IniD := let s := sAt (clsBody (top 2)) 0; ⟨"InvalidText", "InvalidText.__init__", defArgs s, defBody s, defScope s⟩
def lam_0 : LamI := lamOf (lq "_law_all") (eAt (kidX (eAt (kidX (eAt (kidX (eAt (kidE (sAt (kidS (sAt (defBody (top 19)) 0)) 0)) 0)) 0)) 1)) 1)
def lam_1 : LamI := lamOf (lq "law") (eAt (kidX (eAt (kidX (eAt (kidX (eAt (kidE (sAt (kidS (sAt (defBody (top 23)) 2)) 5)) 0)) 0)) 1)) 1)
def lam_2 : LamI := lamOf (lq "law") (eAt (kidX (eAt (kidX (eAt (kidX (eAt (kidE (sAt (kidS (sAt (defBody (top 23)) 4)) 0)) 0)) 0)) 1)) 1)
def lam_3 : LamI := lamOf (lq "law") (eAt (kidX (eAt (kidX (eAt (kidE (sAt (defBody (top 23)) 6)) 0)) 0)) 1)
def lamTab : Nat → Option LamI
  | 0 => some lam_0
  | 1 => some lam_1
  | 2 => some lam_2
  | 3 => some lam_3
  | _ => none
abbrev TF : List Str := [("_law_all" : Str), ("law" : Str)]
abbrev Γm (K : PySem.W.Frag) (mg : Str → Option Value) : G := Gm lamTab TF K mg
structure Fs (K : PySem.W.Frag) (mg : Str → Option Value) where
  fd__law_is : FuncData
  F__law_is : FunD K "_law_is" "_law_is" (defArgs (top 18)) (defBody (top 18)) (defScope (top 18)) [] [] (ga K "_law_is") fd__law_is
  g__law_is : mg "_law_is" = some (.ref (ga K "_law_is"))
  fd_row_end : FuncData
  F_row_end : FunD K "row_end" "row_end" (defArgs (top 11)) (defBody (top 11)) (defScope (top 11)) [] [] (ga K "row_end") fd_row_end
  g_row_end : mg "row_end" = some (.ref (ga K "row_end"))
  fd_group_end : FuncData
  F_group_end : FunD K "group_end" "group_end" (defArgs (top 12)) (defBody (top 12)) (defScope (top 12)) [] [] (ga K "group_end") fd_group_end
  g_group_end : mg "group_end" = some (.ref (ga K "group_end"))
  fd_cut_groups : FuncData
  F_cut_groups : FunD K "cut_groups" "cut_groups" (defArgs (top 13)) (defBody (top 13)) (defScope (top 13)) [] [] (ga K "cut_groups") fd_cut_groups
  g_cut_groups : mg "cut_groups" = some (.ref (ga K "cut_groups"))
  fd__law_error : FuncData
  F__law_error : FunD K "_law_error" "_law_error" (defArgs (top 20)) (defBody (top 20)) (defScope (top 20)) [] [] (ga K "_law_error") fd__law_error
  g__law_error : mg "_law_error" = some (.ref (ga K "_law_error"))
  fd__law_all : FuncData
  F__law_all : FunD K "_law_all" "_law_all" (defArgs (top 19)) (defBody (top 19)) (defScope (top 19)) [] [] (ga K "_law_all") fd__law_all
  g__law_all : mg "_law_all" = some (.ref (ga K "_law_all"))
  fd__law_take : FuncData
  F__law_take : FunD K "_law_take" "_law_take" (defArgs (top 16)) (defBody (top 16)) (defScope (top 16)) [] [] (ga K "_law_take") fd__law_take
  g__law_take : mg "_law_take" = some (.ref (ga K "_law_take"))
  fd__law_pick : FuncData
  F__law_pick : FunD K "_law_pick" "_law_pick" (defArgs (top 17)) (defBody (top 17)) (defScope (top 17)) [] [] (ga K "_law_pick") fd__law_pick
  g__law_pick : mg "_law_pick" = some (.ref (ga K "_law_pick"))
  fd__law_kind : FuncData
  F__law_kind : FunD K "_law_kind" "_law_kind" (defArgs (top 21)) (defBody (top 21)) (defScope (top 21)) [] [] (ga K "_law_kind") fd__law_kind
  g__law_kind : mg "_law_kind" = some (.ref (ga K "_law_kind"))
  fd__law_told : FuncData
  F__law_told : FunD K "_law_told" "_law_told" (defArgs (top 22)) (defBody (top 22)) (defScope (top 22)) [] [] (ga K "_law_told") fd__law_told
  g__law_told : mg "_law_told" = some (.ref (ga K "_law_told"))
  fd__law_box : FuncData
  F__law_box : FunD K "_law_box" "_law_box" (defArgs (top 15)) (defBody (top 15)) (defScope (top 15)) [] [] (ga K "_law_box") fd__law_box
  g__law_box : mg "_law_box" = some (.ref (ga K "_law_box"))
  fd_law : FuncData
  F_law : FunD K "law" "law" (defArgs (top 23)) (defBody (top 23)) (defScope (top 23)) [] [] (ga K "law") fd_law
  g_law : mg "law" = some (.ref (ga K "law"))
  f_abs : mg "abs" = none
  f_bool : mg "bool" = none
  f_enumerate : mg "enumerate" = none
  f_int : mg "int" = none
  f_isinstance : mg "isinstance" = none
  f_len : mg "len" = none
  f_range : mg "range" = none
  f_str : mg "str" = none
  f_super : mg "super" = none
  f_tuple : mg "tuple" = none
  f_zip : mg "zip" = none
  c_FIGURES : CstOk K mg "FIGURES" (.str [48, 49, 50, 51, 52, 53, 54, 55, 56, 57])
  c_LETTERS : CstOk K mg "LETTERS" (.str [97, 98, 99, 100, 101, 102, 103, 104, 105, 106, 107, 108, 109, 110, 111, 112, 113, 114, 115, 116, 117, 118, 119, 120, 121, 122])
  c_MOST_GROUPS : CstOk K mg "MOST_GROUPS" (.int 4000)
  c_MOST_TEXT : CstOk K mg "MOST_TEXT" (.int 60000)
  c_READINGS : CstOk K mg "READINGS" (.tup [.str [110, 111, 32, 116, 101, 120, 116], .str [110, 111, 32, 115, 117, 99, 104, 32, 115, 105, 103, 110], .str [116, 111, 111, 32, 109, 97, 110, 121, 32, 103, 114, 111, 117, 112, 115], .str [116, 111, 111, 32, 108, 111, 110, 103], .str [110, 111, 116, 32, 116, 104, 105, 115, 32, 104, 101, 114, 101]])
  g_InvalidDeed : mg "InvalidDeed" = some (.ref (ga K "InvalidDeed"))
  X_InvalidDeed : MX.XiC PP K (ga K "InvalidDeed") (iAd K "InvalidDeed") ini_InvalidDeed.qual ini_InvalidDeed.params ini_InvalidDeed.body ini_InvalidDeed.scope ∧ XfC K (ga K "InvalidDeed")
  g_InvalidPlace : mg "InvalidPlace" = some (.ref (ga K "InvalidPlace"))
  X_InvalidPlace : MX.XiC PP K (ga K "InvalidPlace") (iAd K "InvalidPlace") ini_InvalidPlace.qual ini_InvalidPlace.params ini_InvalidPlace.body ini_InvalidPlace.scope ∧ XfC K (ga K "InvalidPlace")
  g_InvalidText : mg "InvalidText" = some (.ref (ga K "InvalidText"))
  X_InvalidText : MX.XiC PP K (ga K "InvalidText") (iAd K "InvalidText") ini_InvalidText.qual ini_InvalidText.params ini_InvalidText.body ini_InvalidText.scope ∧ XfC K (ga K "InvalidText")
  n_InvalidDeed_at : PySem.W.findIn K (.ref (ga K "InvalidDeed")) "at" = some none
  n_InvalidPlace_at : PySem.W.findIn K (.ref (ga K "InvalidPlace")) "at" = some none
  n_InvalidText_at : PySem.W.findIn K (.ref (ga K "InvalidText")) "at" = some none
  n_InvalidText_why : PySem.W.findIn K (.ref (ga K "InvalidText")) "why" = some none
  e_InvalidDeed_InvalidDeed : PySem.W.exmOne K (.ref (ga K "InvalidDeed")) (.ref (ga K "InvalidDeed")) = some true
  e_InvalidPlace_InvalidDeed : PySem.W.exmOne K (.ref (ga K "InvalidPlace")) (.ref (ga K "InvalidDeed")) = some false
  e_InvalidText_InvalidDeed : PySem.W.exmOne K (.ref (ga K "InvalidText")) (.ref (ga K "InvalidDeed")) = some false
  e_InvalidDeed_InvalidPlace : PySem.W.exmOne K (.ref (ga K "InvalidDeed")) (.ref (ga K "InvalidPlace")) = some false
  e_InvalidPlace_InvalidPlace : PySem.W.exmOne K (.ref (ga K "InvalidPlace")) (.ref (ga K "InvalidPlace")) = some true
  e_InvalidText_InvalidPlace : PySem.W.exmOne K (.ref (ga K "InvalidText")) (.ref (ga K "InvalidPlace")) = some false
  e_InvalidDeed_InvalidText : PySem.W.exmOne K (.ref (ga K "InvalidDeed")) (.ref (ga K "InvalidText")) = some false
  e_InvalidPlace_InvalidText : PySem.W.exmOne K (.ref (ga K "InvalidPlace")) (.ref (ga K "InvalidText")) = some false
  e_InvalidText_InvalidText : PySem.W.exmOne K (.ref (ga K "InvalidText")) (.ref (ga K "InvalidText")) = some true
  nd : (TF.map fun f => (cT K (f, none)).2).Nodup
section
variable {w : World} {K : PySem.W.Frag} {mg : Str → Option Value} {base : Heap}
theorem mkx_InvalidText {X : Cx} (Z : Fs K mg) (hP : X.prog = PP) (hK : X.K = K) (hM : X.mg = mg) {e : Expr} {es : List Expr} {p pos : Pos} (hr : Room 1 X.A) (hg : Gl X "InvalidText") (he : starEach (e :: es) X.env = (false, eval e X.env) :: starEach es X.env := by rfl) (hpl : (backTo pos (starEach es X.env)).any (·.1) = false := by rfl) : MakesX X "InvalidText" (ga K "InvalidText") ["at", "why"] e es p pos := by
  subst hK hM
  exact mk2 (by rw [hP]; exact Z.X_InvalidText.1) (MX.xiS_ok (by decide +kernel)) (by decide) (by decide) (by decide) rfl rfl Z.n_InvalidText_at Z.n_InvalidText_why Z.f_super rfl rfl (by rfl) (fun _ _ _ _ _ _ _ _ _ _ _ => rfl) hr hg Z.g_InvalidText (by decide) he hpl
def tab_InvalidDeed : Str → Option Bool := fun y => if y = "InvalidDeed" then some true else if y = "InvalidPlace" then some false else if y = "InvalidText" then some false else none
theorem tab_InvalidDeed_ok (Z : Fs K mg) : ∀ (y : Str) (b : Bool) (C : Addr), tab_InvalidDeed y = some b → mg y = some (.ref C) → PySem.W.exmOne K (.ref C) (.ref (ga K "InvalidDeed")) = some b := by
  intro y b C h m; unfold tab_InvalidDeed at h
  split at h
  · rename_i e; subst e; rw [Z.g_InvalidDeed] at m; cases m; cases h; exact Z.e_InvalidDeed_InvalidDeed
  split at h
  · rename_i e; subst e; rw [Z.g_InvalidPlace] at m; cases m; cases h; exact Z.e_InvalidPlace_InvalidDeed
  split at h
  · rename_i e; subst e; rw [Z.g_InvalidText] at m; cases m; cases h; exact Z.e_InvalidText_InvalidDeed
  cases h
theorem tab_InvalidDeed_1 : ∀ (y : Str), tab_InvalidDeed y = some true → y = "InvalidDeed" := by
  intro y h; unfold tab_InvalidDeed at h
  split at h
  · rename_i e; exact e
  split at h
  · cases h
  split at h
  · cases h
  cases h
def tab_InvalidPlace : Str → Option Bool := fun y => if y = "InvalidDeed" then some false else if y = "InvalidPlace" then some true else if y = "InvalidText" then some false else none
theorem tab_InvalidPlace_ok (Z : Fs K mg) : ∀ (y : Str) (b : Bool) (C : Addr), tab_InvalidPlace y = some b → mg y = some (.ref C) → PySem.W.exmOne K (.ref C) (.ref (ga K "InvalidPlace")) = some b := by
  intro y b C h m; unfold tab_InvalidPlace at h
  split at h
  · rename_i e; subst e; rw [Z.g_InvalidDeed] at m; cases m; cases h; exact Z.e_InvalidDeed_InvalidPlace
  split at h
  · rename_i e; subst e; rw [Z.g_InvalidPlace] at m; cases m; cases h; exact Z.e_InvalidPlace_InvalidPlace
  split at h
  · rename_i e; subst e; rw [Z.g_InvalidText] at m; cases m; cases h; exact Z.e_InvalidText_InvalidPlace
  cases h
theorem tab_InvalidPlace_1 : ∀ (y : Str), tab_InvalidPlace y = some true → y = "InvalidPlace" := by
  intro y h; unfold tab_InvalidPlace at h
  split at h
  · cases h
  split at h
  · rename_i e; exact e
  split at h
  · cases h
  cases h
def tab_InvalidText : Str → Option Bool := fun y => if y = "InvalidDeed" then some false else if y = "InvalidPlace" then some false else if y = "InvalidText" then some true else none
theorem tab_InvalidText_ok (Z : Fs K mg) : ∀ (y : Str) (b : Bool) (C : Addr), tab_InvalidText y = some b → mg y = some (.ref C) → PySem.W.exmOne K (.ref C) (.ref (ga K "InvalidText")) = some b := by
  intro y b C h m; unfold tab_InvalidText at h
  split at h
  · rename_i e; subst e; rw [Z.g_InvalidDeed] at m; cases m; cases h; exact Z.e_InvalidDeed_InvalidText
  split at h
  · rename_i e; subst e; rw [Z.g_InvalidPlace] at m; cases m; cases h; exact Z.e_InvalidPlace_InvalidText
  split at h
  · rename_i e; subst e; rw [Z.g_InvalidText] at m; cases m; cases h; exact Z.e_InvalidText_InvalidText
  cases h
theorem tab_InvalidText_1 : ∀ (y : Str), tab_InvalidText y = some true → y = "InvalidText" := by
  intro y h; unfold tab_InvalidText at h
  split at h
  · cases h
  split at h
  · cases h
  split at h
  · rename_i e; exact e
  cases h
theorem sc__law_is : FnScope [("told" : Str), ("due" : Str), ("one" : Str), ("other" : Str)] [("told" : Str), ("due" : Str)] (defScope (top 18)) := ⟨rfl, rfl, rfl, by decide +kernel, rfl, by decide +kernel, by decide +kernel⟩
theorem nd__law_is : ([("told" : Str), ("due" : Str), ("one" : Str), ("other" : Str)] : List Str).Nodup := by decide +kernel
theorem bd__law_is (Z : Fs K mg) : Binds K Z.fd__law_is [("told" : Str), ("due" : Str)] [] := Z.F__law_is.bindsN fun _ _ _ _ _ _ us hl => match us, hl with | [_, _], _ => rfl
def b__law_is (rec_ : MF) : MS := (sSeq (sIf (xTru (xIsi ["tuple"] (xVar 1))) (sSeq (sIf (xOr (xNot (xTru (xIsi ["tuple"] (xVar 0)))) (xTest (xOp2 oNe (xCB oLen (aCons (xVar 0) aNil)) (xCB oLen (aCons (xVar 1) aNil))))) (sSeq (sRet (xC (.bl false))) sNil) sNil) (sSeq (sRet (xOp2 oEq (xLc (xZip (aCons (xVar 0) (aCons (xVar 1) aNil))) (.tp [(.nm 2), (.nm 3)]) (xNot (xTru (xCall rec_ [] (aCons (xVar 2) (aCons (xVar 3) aNil))))) (xC (.int 1)) [2, 3]) (xLst aNil))) sNil)) sNil) (sSeq (sIf (xOr (xTest (xOp2 oIs (xVar 1) (xC .non))) (xOr (xTest (xOp2 oIs (xVar 1) (xC (.bl true)))) (xTest (xOp2 oIs (xVar 1) (xC (.bl false)))))) (sSeq (sRet (xIf (xTest (xOp2 oIs (xVar 1) (xC .non))) (xOp2 oIs (xVar 0) (xC .non)) (xIf (xTest (xOp2 oIs (xVar 1) (xC (.bl true)))) (xOp2 oIs (xVar 0) (xC (.bl true))) (xOp2 oIs (xVar 0) (xC (.bl false)))))) sNil) sNil) (sSeq (sIf (xTru (xIsi ["int"] (xVar 1))) (sSeq (sRet (xAndV (xIsi ["int"] (xVar 0)) (xAndV (xNotV (xIsi ["bool"] (xVar 0))) (xOp2 oEq (xVar 0) (xVar 1))))) sNil) sNil) (sSeq (sRet (xAndV (xIsi ["str"] (xVar 1)) (xAndV (xIsi ["str"] (xVar 0)) (xOp2 oEq (xVar 0) (xVar 1))))) sNil))))
def m__law_is : Nat → MF
  | 0 => fun _ _ => .stuck
  | n + 1 => (runF 4 (b__law_is (m__law_is n)))
theorem ok__law_is (Z : Fs K mg) (TB : ∀ p ∈ TF, TabB base mg (cT K (p, none)).1 (cT K (p, none)).2) : ∀ n : Nat, FnOk PP w K mg base (CX PP w) (n + 0) (ga K "_law_is") Z.fd__law_is [("told" : Str), ("due" : Str)] (spF (Γm K mg) 2 (m__law_is n))
  | 0 => fn_stuck
  | n + 1 => by
    have ih := ok__law_is Z TB n
    have h := fn_mirD (P := PP) (w := w) (mg := mg) (base := base) (Γ := Γm K mg) (k := n + 0) (N := [("told" : Str), ("due" : Str), ("one" : Str), ("other" : Str)]) (b := b__law_is (m__law_is n)) Z.F__law_is sc__law_is (fun cdv A outer s H E lk hcd hr =>
 (fss_cons (fs_if (ft_tru ⟨rfl, rfl⟩ (fe_isi ⟨rfl, rfl⟩ (by rfl) Z.f_isinstance (by rfl) Z.f_tuple (by decide +kernel) (fe_var (i := 1) rfl (by first | exact .inl rfl | exact .inr (.inl rfl) | exact .inr (.inr rfl))))) (fss_cons (fs_if (ft_w (fw_or (ft_not (ft_tru ⟨rfl, rfl⟩ (fe_isi ⟨rfl, rfl⟩ (by rfl) Z.f_isinstance (by rfl) Z.f_tuple (by decide +kernel) (fe_var (i := 0) rfl (by first | exact .inl rfl | exact .inr (.inl rfl) | exact .inr (.inr rfl)))))) (fw_or1 (ft_cmp (op_neA ⟨rfl, rfl⟩ hr) o_ne (fe_callB call_len (o_len ⟨rfl, rfl⟩) (by rfl) Z.f_len (by decide +kernel) (fa_cons (fe_var (i := 0) rfl (by first | exact .inl rfl | exact .inr (.inl rfl) | exact .inr (.inr rfl))) fa_nil)) (fe_callB call_len (o_len ⟨rfl, rfl⟩) (by rfl) Z.f_len (by decide +kernel) (fa_cons (fe_var (i := 1) rfl (by first | exact .inl rfl | exact .inr (.inl rfl) | exact .inr (.inr rfl))) fa_nil)) rfl)))) (fss_cons (fs_ret fe_bl)
 fss_nil) fss_nil)
 (fss_cons (fs_ret (fe_cmp (op_eqA ⟨rfl, rfl⟩ hr) o_eq (fe_lc (own := [("one", 2), ("other", 3)]) rfl (by exact nd__law_is) (fi_zip ⟨rfl, rfl⟩ (by rfl) Z.f_zip (fa_cons (fe_var (i := 0) rfl (by first | exact .inl rfl | exact .inr (.inl rfl) | exact .inr (.inr rfl))) (fa_cons (fe_var (i := 1) rfl (by first | exact .inl rfl | exact .inr (.inl rfl) | exact .inr (.inr rfl))) fa_nil))) (blkOk_by (by kernel_rfl)) (by decide) (fun _ _ _ _ _ => (fp_tup ⟨rfl, rfl⟩ rfl (fps_cons (fp_name (i := 2) nd__law_is rfl (by first | exact .inl rfl | exact .inr rfl)) (fps_cons (fp_name (i := 3) nd__law_is rfl (by first | exact .inl rfl | exact .inr rfl)) fps_nil)))) (fun _ _ _ _ _ => (ft_one (ft_not (ft_tru ⟨rfl, rfl⟩ (fe_call ih hr MP.takes0 (by rfl) Z.g__law_is Z.F__law_is.kp (bd__law_is Z) .nil (fun _ _ => rfl) (fa_cons (fe_var (i := 2) rfl (by first | exact .inl rfl | exact .inr (.inl rfl) | exact .inr (.inr rfl))) (fa_cons (fe_var (i := 3) rfl (by first | exact .inl rfl | exact .inr (.inl rfl) | exact .inr (.inr rfl))) fa_nil)) (len_cons (len_cons len_nil)) rfl))))) (fun _ _ _ _ _ => fe_int)) (fe_lst fa_nil) rfl))
 fss_nil)) fss_nil)
 (fss_cons (fs_if (ft_w (fw_or (ft_cmp op_isK o_is (fe_var (i := 1) rfl (by first | exact .inl rfl | exact .inr (.inl rfl) | exact .inr (.inr rfl))) fe_non rfl) (fw_or (ft_cmp op_isK o_is (fe_var (i := 1) rfl (by first | exact .inl rfl | exact .inr (.inl rfl) | exact .inr (.inr rfl))) fe_bl rfl) (fw_or1 (ft_cmp op_isK o_is (fe_var (i := 1) rfl (by first | exact .inl rfl | exact .inr (.inl rfl) | exact .inr (.inr rfl))) fe_bl rfl))))) (fss_cons (fs_ret (fe_if (ft_cmp op_isK o_is (fe_var (i := 1) rfl (by first | exact .inl rfl | exact .inr (.inl rfl) | exact .inr (.inr rfl))) fe_non rfl) (fe_cmp op_isK o_is (fe_var (i := 0) rfl (by first | exact .inl rfl | exact .inr (.inl rfl) | exact .inr (.inr rfl))) fe_non rfl) (fe_if (ft_cmp op_isK o_is (fe_var (i := 1) rfl (by first | exact .inl rfl | exact .inr (.inl rfl) | exact .inr (.inr rfl))) fe_bl rfl) (fe_cmp op_isK o_is (fe_var (i := 0) rfl (by first | exact .inl rfl | exact .inr (.inl rfl) | exact .inr (.inr rfl))) fe_bl rfl) (fe_cmp op_isK o_is (fe_var (i := 0) rfl (by first | exact .inl rfl | exact .inr (.inl rfl) | exact .inr (.inr rfl))) fe_bl rfl))))
 fss_nil) fss_nil)
 (fss_cons (fs_if (ft_tru ⟨rfl, rfl⟩ (fe_isi ⟨rfl, rfl⟩ (by rfl) Z.f_isinstance (by rfl) Z.f_int (by decide +kernel) (fe_var (i := 1) rfl (by first | exact .inl rfl | exact .inr (.inl rfl) | exact .inr (.inr rfl))))) (fss_cons (fs_ret (fe_and (fe_isi ⟨rfl, rfl⟩ (by rfl) Z.f_isinstance (by rfl) Z.f_int (by decide +kernel) (fe_var (i := 0) rfl (by first | exact .inl rfl | exact .inr (.inl rfl) | exact .inr (.inr rfl)))) (fe_and (fe_not (fe_isi ⟨rfl, rfl⟩ (by rfl) Z.f_isinstance (by rfl) Z.f_bool (by decide +kernel) (fe_var (i := 0) rfl (by first | exact .inl rfl | exact .inr (.inl rfl) | exact .inr (.inr rfl))))) (fe_one (fe_cmp (op_eqA ⟨rfl, rfl⟩ hr) o_eq (fe_var (i := 0) rfl (by first | exact .inl rfl | exact .inr (.inl rfl) | exact .inr (.inr rfl))) (fe_var (i := 1) rfl (by first | exact .inl rfl | exact .inr (.inl rfl) | exact .inr (.inr rfl))) rfl)))))
 fss_nil) fss_nil)
 (fss_cons (fs_ret (fe_and (fe_isi ⟨rfl, rfl⟩ (by rfl) Z.f_isinstance (by rfl) Z.f_str (by decide +kernel) (fe_var (i := 1) rfl (by first | exact .inl rfl | exact .inr (.inl rfl) | exact .inr (.inr rfl)))) (fe_and (fe_isi ⟨rfl, rfl⟩ (by rfl) Z.f_isinstance (by rfl) Z.f_str (by decide +kernel) (fe_var (i := 0) rfl (by first | exact .inl rfl | exact .inr (.inl rfl) | exact .inr (.inr rfl)))) (fe_one (fe_cmp (op_eqA ⟨rfl, rfl⟩ hr) o_eq (fe_var (i := 0) rfl (by first | exact .inl rfl | exact .inr (.inl rfl) | exact .inr (.inr rfl))) (fe_var (i := 1) rfl (by first | exact .inl rfl | exact .inr (.inl rfl) | exact .inr (.inr rfl))) rfl)))))
 fss_nil)))))
    exact h.mono (by omega)
theorem sc_row_end : FnScope [("text" : Str), ("at" : Str), ("signs" : Str)] [("text" : Str), ("at" : Str), ("signs" : Str)] (defScope (top 11)) := ⟨rfl, rfl, rfl, by decide +kernel, rfl, by decide +kernel, by decide +kernel⟩
theorem nd_row_end : ([("text" : Str), ("at" : Str), ("signs" : Str)] : List Str).Nodup := by decide +kernel
theorem bd_row_end (Z : Fs K mg) : Binds K Z.fd_row_end [("text" : Str), ("at" : Str), ("signs" : Str)] [] := Z.F_row_end.bindsN fun _ _ _ _ _ _ us hl => match us, hl with | [_, _, _], _ => rfl
def b_row_end : MS := (sSeq (loopW (xAnd (xTest (xOp2 oLt (xVar 1) (xCB oLen (aCons (xVar 0) aNil)))) (xTest (xOp2 (oIn false) (xOp2 oIx (xVar 0) (xVar 1)) (xVar 2)))) (sSeq (sAug 1 oAddI (xC (.int 1))) sNil) 100000) (sSeq (sRet (xVar 1)) sNil))
def m_row_end : MF := runF 3 b_row_end
theorem ok_row_end (Z : Fs K mg) (TB : ∀ p ∈ TF, TabB base mg (cT K (p, none)).1 (cT K (p, none)).2) : FnOk PP w K mg base (CX PP w) 1 (ga K "row_end") Z.fd_row_end [("text" : Str), ("at" : Str), ("signs" : Str)] (spF (Γm K mg) 3 m_row_end) :=
  fn_mirD (P := PP) (w := w) (mg := mg) (base := base) (Γ := Γm K mg) (k := 0) (N := [("text" : Str), ("at" : Str), ("signs" : Str)]) (b := b_row_end) Z.F_row_end sc_row_end (fun cdv A outer s H E lk hcd hr =>
 (fss_cons (fs_while passes_cx (ft_w (fw_and (ft_cmp op_ltA o_lt (fe_var (i := 1) rfl (by first | exact .inl rfl | exact .inr (.inl rfl) | exact .inr (.inr rfl))) (fe_callB call_len (o_len ⟨rfl, rfl⟩) (by rfl) Z.f_len (by decide +kernel) (fa_cons (fe_var (i := 0) rfl (by first | exact .inl rfl | exact .inr (.inl rfl) | exact .inr (.inr rfl))) fa_nil)) rfl) (fw_and1 (ft_cmp (op_inA ⟨rfl, rfl⟩) o_in (fe_ix (ix_all ⟨rfl, rfl⟩) o_ix (fe_var (i := 0) rfl (by first | exact .inl rfl | exact .inr (.inl rfl) | exact .inr (.inr rfl))) (fe_var (i := 1) rfl (by first | exact .inl rfl | exact .inr (.inl rfl) | exact .inr (.inr rfl))) (fun _ _ => rfl)) (fe_var (i := 2) rfl (by first | exact .inl rfl | exact .inr (.inl rfl) | exact .inr (.inr rfl))) rfl)))) (fss_cons (fs_aug (i := 1) nd_row_end rfl (by first | exact .inl rfl | exact .inr rfl) fe_int (op_augI (K := K)) (o_addI (K := K)))
 fss_nil))
 (fss_cons (fs_ret (fe_var (i := 1) rfl (by first | exact .inl rfl | exact .inr (.inl rfl) | exact .inr (.inr rfl))))
 fss_nil)))
theorem sc_group_end : FnScope [("text" : Str), ("at" : Str), ("signs" : Str)] [("text" : Str), ("at" : Str)] (defScope (top 12)) := ⟨rfl, rfl, rfl, by decide +kernel, rfl, by decide +kernel, by decide +kernel⟩
theorem nd_group_end : ([("text" : Str), ("at" : Str), ("signs" : Str)] : List Str).Nodup := by decide +kernel
theorem bd_group_end (Z : Fs K mg) : Binds K Z.fd_group_end [("text" : Str), ("at" : Str)] [] := Z.F_group_end.bindsN fun _ _ _ _ _ _ us hl => match us, hl with | [_, _], _ => rfl
def b_group_end : MS := (sSeq (sFor (xIt (xTup (aCons (xC (.str [97, 98, 99, 100, 101, 102, 103, 104, 105, 106, 107, 108, 109, 110, 111, 112, 113, 114, 115, 116, 117, 118, 119, 120, 121, 122])) (aCons (xC (.str [48, 49, 50, 51, 52, 53, 54, 55, 56, 57])) aNil)))) (.nm 2) (sSeq (sIf (xTest (xOp2 (oIn false) (xOp2 oIx (xVar 0) (xVar 1)) (xVar 2))) (sSeq (sRet (xCall m_row_end [] (aCons (xVar 0) (aCons (xVar 1) (aCons (xVar 2) aNil))))) sNil) sNil) sNil)) (sSeq (sRet (xOp2 oAdd (xVar 1) (xC (.int 1)))) sNil))
def m_group_end : MF := runF 3 b_group_end
theorem ok_group_end (Z : Fs K mg) (TB : ∀ p ∈ TF, TabB base mg (cT K (p, none)).1 (cT K (p, none)).2) : FnOk PP w K mg base (CX PP w) 2 (ga K "group_end") Z.fd_group_end [("text" : Str), ("at" : Str)] (spF (Γm K mg) 2 m_group_end) :=
  fn_mirD (P := PP) (w := w) (mg := mg) (base := base) (Γ := Γm K mg) (k := 1) (N := [("text" : Str), ("at" : Str), ("signs" : Str)]) (b := b_group_end) Z.F_group_end sc_group_end (fun cdv A outer s H E lk hcd hr =>
 (fss_cons (fs_for passes_cx rfl (fi_it ⟨rfl, rfl⟩ (fe_tup (fa_cons (fe_cst ⟨rfl, rfl⟩ (by rfl) Z.c_LETTERS) (fa_cons (fe_cst ⟨rfl, rfl⟩ (by rfl) Z.c_FIGURES) fa_nil)))) (fp_name (i := 2) nd_group_end rfl (by first | exact .inl rfl | exact .inr rfl)) (fss_cons (fs_if (ft_cmp (op_inA ⟨rfl, rfl⟩) o_in (fe_ix (ix_all ⟨rfl, rfl⟩) o_ix (fe_var (i := 0) rfl (by first | exact .inl rfl | exact .inr (.inl rfl) | exact .inr (.inr rfl))) (fe_var (i := 1) rfl (by first | exact .inl rfl | exact .inr (.inl rfl) | exact .inr (.inr rfl))) (fun _ _ => rfl)) (fe_var (i := 2) rfl (by first | exact .inl rfl | exact .inr (.inl rfl) | exact .inr (.inr rfl))) rfl) (fss_cons (fs_ret (fe_call (ok_row_end Z TB) (hr.mono (by omega)) takes_cx (by rfl) Z.g_row_end Z.F_row_end.kp (bd_row_end Z) .nil (fun _ _ => rfl) (fa_cons (fe_var (i := 0) rfl (by first | exact .inl rfl | exact .inr (.inl rfl) | exact .inr (.inr rfl))) (fa_cons (fe_var (i := 1) rfl (by first | exact .inl rfl | exact .inr (.inl rfl) | exact .inr (.inr rfl))) (fa_cons (fe_var (i := 2) rfl (by first | exact .inl rfl | exact .inr (.inl rfl) | exact .inr (.inr rfl))) fa_nil))) (len_cons (len_cons (len_cons len_nil))) rfl))
 fss_nil) fss_nil)
 fss_nil))
 (fss_cons (fs_ret (fe_binz (op_addAll ⟨rfl, rfl⟩) o_add (fe_var (i := 1) rfl (by first | exact .inl rfl | exact .inr (.inl rfl) | exact .inr (.inr rfl))) fe_int))
 fss_nil)))
theorem sc_cut_groups : FnScope [("text" : Str), ("at" : Str), ("sign" : Str), ("found" : Str), ("end" : Str)] [("text" : Str)] (defScope (top 13)) := ⟨rfl, rfl, rfl, by decide +kernel, rfl, by decide +kernel, by decide +kernel⟩
theorem nd_cut_groups : ([("text" : Str), ("at" : Str), ("sign" : Str), ("found" : Str), ("end" : Str)] : List Str).Nodup := by decide +kernel
theorem bd_cut_groups (Z : Fs K mg) : Binds K Z.fd_cut_groups [("text" : Str)] [] := Z.F_cut_groups.bindsN fun _ _ _ _ _ _ us hl => match us, hl with | [_], _ => rfl
theorem kb_cut_groups (Z : Fs K mg) : ∀ (s : Shared) (ws : List Value), ws.length = ([("text" : Str)] : List Str).length → BindsTo s Z.fd_cut_groups ⟨[], ([("text" : Str)] : List Str).zip ws⟩ (([("text" : Str)] : List Str).zip ws) := fun s ws hl => by
  obtain ⟨oc, od, dV, kV, doc, pm, an, cdv, ct, osl, e, lk, hcd, hD, hK⟩ := Z.F_cut_groups.ex
  rw [e]
  rcases hD with ⟨_, rfl⟩ | ⟨e, _⟩
  · match ws, hl with | [_], _ => exact .of_eq (by rfl)
  · exact absurd rfl e
def b_cut_groups : MS := (sSeq (sIf (xOr (xNot (xTru (xIsi ["str"] (xVar 0)))) (xTest (xOp2 oGt (xCB oLen (aCons (xVar 0) aNil)) (xC (.int 60000))))) (sSeq (sRaise "InvalidText" ["at", "why"] (aCons (xOp1 oNeg (xC (.int 1))) (aCons (xC (.int 0)) aNil))) sNil) sNil) (sSeq (sFor (xEnumS (aCons (xVar 0) aNil)) (.tp [(.nm 1), (.nm 2)]) (sSeq (sIf (xAnd (xTest (xOp2 (oIn true) (xVar 2) (xC (.str [97, 98, 99, 100, 101, 102, 103, 104, 105, 106, 107, 108, 109, 110, 111, 112, 113, 114, 115, 116, 117, 118, 119, 120, 121, 122])))) (xAnd (xTest (xOp2 (oIn true) (xVar 2) (xC (.str [48, 49, 50, 51, 52, 53, 54, 55, 56, 57])))) (xTest (xOp2 (oIn true) (xVar 2) (xC (.str [45, 32, 10])))))) (sSeq (sRaise "InvalidText" ["at", "why"] (aCons (xVar 1) (aCons (xC (.int 1)) aNil))) sNil) sNil) sNil)) (sSeq (sPar 3 1 (aCons (xNew aNil) (aCons (xC (.int 0)) aNil))) (sSeq (loopW (xTest (xOp2 oLt (xVar 1) (xCB oLen (aCons (xVar 0) aNil)))) (sSeq (sSet 4 (xIf (xTest (xOp2 (oIn false) (xOp2 oIx (xVar 0) (xVar 1)) (xC (.str [32, 10])))) (xOp2 oAdd (xVar 1) (xC (.int 1))) (xCall m_group_end [] (aCons (xVar 0) (aCons (xVar 1) aNil))))) (sSeq (sIf (xTest (xOp2 (oIn true) (xOp2 oIx (xVar 0) (xVar 1)) (xC (.str [32, 10])))) (sSeq (sExpr (xMt gAppend (xVar 3) (aCons (xSl (xVar 0) (some (xVar 1)) (some (xVar 4))) aNil))) sNil) sNil) (sSeq (sSet 1 (xVar 4)) sNil))) 100000) (sSeq (sIf (xTest (xOp2 oGt (xCB oLen (aCons (xVar 3) aNil)) (xC (.int 4000)))) (sSeq (sRaise "InvalidText" ["at", "why"] (aCons (xOp1 oNeg (xC (.int 1))) (aCons (xC (.int 2)) aNil))) sNil) sNil) (sSeq (sRet (xCB oTuple (aCons (xVar 3) aNil))) sNil))))))
def m_cut_groups : MF := pureF <| runF 5 b_cut_groups
theorem ok_cut_groups (Z : Fs K mg) (TB : ∀ p ∈ TF, TabB base mg (cT K (p, none)).1 (cT K (p, none)).2) : FnOk PP w K mg base (CX PP w) 3 (ga K "cut_groups") Z.fd_cut_groups [("text" : Str)] (spF (Γm K mg) 1 m_cut_groups) :=
  FnOk.pure <| fn_mirD (P := PP) (w := w) (mg := mg) (base := base) (Γ := Γm K mg) (k := 2) (N := [("text" : Str), ("at" : Str), ("sign" : Str), ("found" : Str), ("end" : Str)]) (b := b_cut_groups) Z.F_cut_groups sc_cut_groups (fun cdv A outer s H E lk hcd hr =>
 (fss_cons (fs_if (ft_w (fw_or (ft_not (ft_tru ⟨rfl, rfl⟩ (fe_isi ⟨rfl, rfl⟩ (by rfl) Z.f_isinstance (by rfl) Z.f_str (by decide +kernel) (fe_var (i := 0) rfl (by first | exact .inl rfl | exact .inr (.inl rfl) | exact .inr (.inr rfl)))))) (fw_or1 (ft_cmp op_gtA o_gt (fe_callB call_len (o_len ⟨rfl, rfl⟩) (by rfl) Z.f_len (by decide +kernel) (fa_cons (fe_var (i := 0) rfl (by first | exact .inl rfl | exact .inr (.inl rfl) | exact .inr (.inr rfl))) fa_nil)) (fe_cst ⟨rfl, rfl⟩ (by rfl) Z.c_MOST_TEXT) rfl)))) (fss_cons (fs_raise ⟨rfl, rfl⟩ rfl takes_cx Z.g_InvalidText (mkx_InvalidText Z rfl rfl rfl (hr.mono (by omega)) (by rfl)) (fa_cons (fe_un un_neg o_neg fe_int) (fa_cons fe_int fa_nil)))
 fss_nil) fss_nil)
 (fss_cons (fs_for passes_cx rfl (fi_enumS (by rfl) Z.f_enumerate (fa_cons (fe_var (i := 0) rfl (by first | exact .inl rfl | exact .inr (.inl rfl) | exact .inr (.inr rfl))) fa_nil)) (fp_tup ⟨rfl, rfl⟩ rfl (fps_cons (fp_name (i := 1) nd_cut_groups rfl (by first | exact .inl rfl | exact .inr rfl)) (fps_cons (fp_name (i := 2) nd_cut_groups rfl (by first | exact .inl rfl | exact .inr rfl)) fps_nil))) (fss_cons (fs_if (ft_w (fw_and (ft_cmp (op_notInA ⟨rfl, rfl⟩) o_in (fe_var (i := 2) rfl (by first | exact .inl rfl | exact .inr (.inl rfl) | exact .inr (.inr rfl))) (fe_cst ⟨rfl, rfl⟩ (by rfl) Z.c_LETTERS) rfl) (fw_and (ft_cmp (op_notInA ⟨rfl, rfl⟩) o_in (fe_var (i := 2) rfl (by first | exact .inl rfl | exact .inr (.inl rfl) | exact .inr (.inr rfl))) (fe_cst ⟨rfl, rfl⟩ (by rfl) Z.c_FIGURES) rfl) (fw_and1 (ft_cmp (op_notInA ⟨rfl, rfl⟩) o_in (fe_var (i := 2) rfl (by first | exact .inl rfl | exact .inr (.inl rfl) | exact .inr (.inr rfl))) (fe_str (l := [45, 32, 10]) (by decide +kernel)) rfl))))) (fss_cons (fs_raise ⟨rfl, rfl⟩ rfl takes_cx Z.g_InvalidText (mkx_InvalidText Z rfl rfl rfl (hr.mono (by omega)) (by rfl)) (fa_cons (fe_var (i := 1) rfl (by first | exact .inl rfl | exact .inr (.inl rfl) | exact .inr (.inr rfl))) (fa_cons fe_int fa_nil)))
 fss_nil) fss_nil)
 fss_nil))
 (fss_cons (fs_par (i := 3) (j := 1) rfl nd_cut_groups rfl rfl (by decide) (by rfl) (by rfl) (fa_cons (fe_new fa_nil) (fa_cons fe_int fa_nil)) (by rfl))
 (fss_cons (fs_while passes_cx (ft_cmp op_ltA o_lt (fe_var (i := 1) rfl (by first | exact .inl rfl | exact .inr (.inl rfl) | exact .inr (.inr rfl))) (fe_callB call_len (o_len ⟨rfl, rfl⟩) (by rfl) Z.f_len (by decide +kernel) (fa_cons (fe_var (i := 0) rfl (by first | exact .inl rfl | exact .inr (.inl rfl) | exact .inr (.inr rfl))) fa_nil)) rfl) (fss_cons (fs_set (i := 4) nd_cut_groups rfl (by first | exact .inl rfl | exact .inr rfl) (fe_if (ft_cmp (op_inA ⟨rfl, rfl⟩) o_in (fe_ix (ix_all ⟨rfl, rfl⟩) o_ix (fe_var (i := 0) rfl (by first | exact .inl rfl | exact .inr (.inl rfl) | exact .inr (.inr rfl))) (fe_var (i := 1) rfl (by first | exact .inl rfl | exact .inr (.inl rfl) | exact .inr (.inr rfl))) (fun _ _ => rfl)) (fe_str (l := [32, 10]) (by decide +kernel)) rfl) (fe_binz (op_addAll ⟨rfl, rfl⟩) o_add (fe_var (i := 1) rfl (by first | exact .inl rfl | exact .inr (.inl rfl) | exact .inr (.inr rfl))) fe_int) (fe_call (ok_group_end Z TB) (hr.mono (by omega)) takes_cx (by rfl) Z.g_group_end Z.F_group_end.kp (bd_group_end Z) .nil (fun _ _ => rfl) (fa_cons (fe_var (i := 0) rfl (by first | exact .inl rfl | exact .inr (.inl rfl) | exact .inr (.inr rfl))) (fa_cons (fe_var (i := 1) rfl (by first | exact .inl rfl | exact .inr (.inl rfl) | exact .inr (.inr rfl))) fa_nil)) (len_cons (len_cons len_nil)) rfl)))
 (fss_cons (fs_if (ft_cmp (op_notInA ⟨rfl, rfl⟩) o_in (fe_ix (ix_all ⟨rfl, rfl⟩) o_ix (fe_var (i := 0) rfl (by first | exact .inl rfl | exact .inr (.inl rfl) | exact .inr (.inr rfl))) (fe_var (i := 1) rfl (by first | exact .inl rfl | exact .inr (.inl rfl) | exact .inr (.inr rfl))) (fun _ _ => rfl)) (fe_str (l := [32, 10]) (by decide +kernel)) rfl) (fss_cons (fs_expr (fe_mt ⟨rfl, rfl⟩ PySem.F.plainAttrs_list PySem.F.slot_list_append PySem.F.type_list_append mt_append ok_append (fe_var (i := 3) rfl (by first | exact .inl rfl | exact .inr (.inl rfl) | exact .inr (.inr rfl))) (fa_cons (fe_slice ⟨rfl, rfl⟩ (fe_var (i := 0) rfl (by first | exact .inl rfl | exact .inr (.inl rfl) | exact .inr (.inr rfl))) (fo_some (fe_var (i := 1) rfl (by first | exact .inl rfl | exact .inr (.inl rfl) | exact .inr (.inr rfl)))) (fo_some (fe_var (i := 4) rfl (by first | exact .inl rfl | exact .inr (.inl rfl) | exact .inr (.inr rfl))))) fa_nil)))
 fss_nil) fss_nil)
 (fss_cons (fs_set (i := 1) nd_cut_groups rfl (by first | exact .inl rfl | exact .inr rfl) (fe_var (i := 4) rfl (by first | exact .inl rfl | exact .inr (.inl rfl) | exact .inr (.inr rfl))))
 fss_nil))))
 (fss_cons (fs_if (ft_cmp op_gtA o_gt (fe_callB call_len (o_len ⟨rfl, rfl⟩) (by rfl) Z.f_len (by decide +kernel) (fa_cons (fe_var (i := 3) rfl (by first | exact .inl rfl | exact .inr (.inl rfl) | exact .inr (.inr rfl))) fa_nil)) (fe_cst ⟨rfl, rfl⟩ (by rfl) Z.c_MOST_GROUPS) rfl) (fss_cons (fs_raise ⟨rfl, rfl⟩ rfl takes_cx Z.g_InvalidText (mkx_InvalidText Z rfl rfl rfl (hr.mono (by omega)) (by rfl)) (fa_cons (fe_un un_neg o_neg fe_int) (fa_cons fe_int fa_nil)))
 fss_nil) fss_nil)
 (fss_cons (fs_ret (fe_callT call_tuple_of (o_tuple ⟨rfl, rfl⟩) (by rfl) Z.f_tuple (by decide +kernel) (fa_cons (fe_var (i := 3) rfl (by first | exact .inl rfl | exact .inr (.inl rfl) | exact .inr (.inr rfl))) fa_nil)))
 fss_nil)))))))
def e_3 : ME := (xCall m_cut_groups [] (aCons (xVar 0) aNil))
theorem lamF_3 (Z : Fs K mg) (TB : ∀ p ∈ TF, TabB base mg (cT K (p, none)).1 (cT K (p, none)).2) : LamF (Γm K mg) PP w K mg base 3 3 lam_3 [("value" : Str)] e_3 :=
  ⟨rfl, lamS2_by (by decide +kernel), fun clos pm c' ctv us hl => match us, hl with | [_], _ => rfl, fun A outer s H E f c' clos hr =>
 (fe_call (ok_cut_groups Z TB) (hr.mono (by omega)) takes_lam (by rfl) Z.g_cut_groups Z.F_cut_groups.kp (bd_cut_groups Z) .nil (fun _ _ => rfl) (fa_cons (fe_var (i := 0) rfl (by first | exact .inl rfl | exact .inr (.inl rfl) | exact .inr (.inr rfl))) fa_nil) (len_cons len_nil) rfl)⟩
def disp1 : D → Option MF
  | .glo x =>  none
  | .clo n cs => if n = 3 then some (cloF e_3 1 cs) else none
  | _ => none
theorem disp1_ok (Z : Fs K mg) (TB : ∀ p ∈ TF, TabB base mg (cT K (p, none)).1 (cT K (p, none)).2) : DispOk (Γm K mg) PP w K mg base 3 disp1 := by
  intro d g h
  cases d with
  | glo x =>
    simp only [disp1] at h
    exact absurd h (by simp)
  | clo n cs =>
    simp only [disp1] at h
    split at h
    · rename_i e; subst e; cases h; exact .inr ⟨_, cs, _, [("value" : Str)], _, rfl, lamF_3 Z TB, rfl⟩
    cases h
  | _ => cases h
def e_0 : ME := (xCallV disp1 1 (aCons (xVar 0) aNil))
theorem lamF_0 (Z : Fs K mg) (TB : ∀ p ∈ TF, TabB base mg (cT K (p, none)).1 (cT K (p, none)).2) : LamF (Γm K mg) PP w K mg base 4 0 lam_0 [] e_0 :=
  ⟨rfl, lamS2_by (by decide +kernel), fun clos pm c' ctv us hl => match us, hl with | [], _ => rfl, fun A outer s H E f c' clos hr =>
 (fe_callV (fun _ _ => True.intro) ⟨rfl, rfl⟩ (disp1_ok Z TB) (hr.mono (by omega)) takes_lam rfl (by first | exact .inl rfl | exact .inr (.inl rfl) | exact .inr (.inr rfl)) (fa_cons (fe_var (i := 0) rfl (by first | exact .inl rfl | exact .inr (.inl rfl) | exact .inr (.inr rfl))) fa_nil))⟩
def e_1 : ME := (xCall m_cut_groups [] (aCons (xOp2 oAdd (xOp2 oAdd (xOp2 oAdd (xSl (xVar 0) none (some (xVar 2))) (xVar 1)) (xSl (xVar 0) (some (xVar 2)) none)) (xC (.str [61]))) aNil))
theorem lamF_1 (Z : Fs K mg) (TB : ∀ p ∈ TF, TabB base mg (cT K (p, none)).1 (cT K (p, none)).2) : LamF (Γm K mg) PP w K mg base 4 1 lam_1 [] e_1 :=
  ⟨rfl, lamS2_by (by decide +kernel), fun clos pm c' ctv us hl => match us, hl with | [], _ => rfl, fun A outer s H E f c' clos hr =>
 (fe_call (ok_cut_groups Z TB) (hr.mono (by omega)) takes_lam (by rfl) Z.g_cut_groups Z.F_cut_groups.kp (bd_cut_groups Z) .nil (fun _ _ => rfl) (fa_cons (fe_binz (op_addAll ⟨rfl, rfl⟩) o_add (fe_binz (op_addAll ⟨rfl, rfl⟩) o_add (fe_binz (op_addAll ⟨rfl, rfl⟩) o_add (fe_slice ⟨rfl, rfl⟩ (fe_var (i := 0) rfl (by first | exact .inl rfl | exact .inr (.inl rfl) | exact .inr (.inr rfl))) fo_none (fo_some (fe_var (i := 2) rfl (by first | exact .inl rfl | exact .inr (.inl rfl) | exact .inr (.inr rfl))))) (fe_var (i := 1) rfl (by first | exact .inl rfl | exact .inr (.inl rfl) | exact .inr (.inr rfl)))) (fe_slice ⟨rfl, rfl⟩ (fe_var (i := 0) rfl (by first | exact .inl rfl | exact .inr (.inl rfl) | exact .inr (.inr rfl))) (fo_some (fe_var (i := 2) rfl (by first | exact .inl rfl | exact .inr (.inl rfl) | exact .inr (.inr rfl)))) fo_none)) (fe_str (l := [61]) (by decide +kernel))) fa_nil) (len_cons len_nil) rfl)⟩
def e_2 : ME := (xCall m_cut_groups [] (aCons (xVar 0) aNil))
theorem lamF_2 (Z : Fs K mg) (TB : ∀ p ∈ TF, TabB base mg (cT K (p, none)).1 (cT K (p, none)).2) : LamF (Γm K mg) PP w K mg base 4 2 lam_2 [] e_2 :=
  ⟨rfl, lamS2_by (by decide +kernel), fun clos pm c' ctv us hl => match us, hl with | [], _ => rfl, fun A outer s H E f c' clos hr =>
 (fe_call (ok_cut_groups Z TB) (hr.mono (by omega)) takes_lam (by rfl) Z.g_cut_groups Z.F_cut_groups.kp (bd_cut_groups Z) .nil (fun _ _ => rfl) (fa_cons (fe_var (i := 0) rfl (by first | exact .inl rfl | exact .inr (.inl rfl) | exact .inr (.inr rfl))) fa_nil) (len_cons len_nil) rfl)⟩
def disp0 : D → Option MF
  | .glo x =>  none
  | .clo n cs => if n = 0 then some (cloF e_0 0 cs) else if n = 1 then some (cloF e_1 0 cs) else if n = 2 then some (cloF e_2 0 cs) else none
  | _ => none
theorem disp0_ok (Z : Fs K mg) (TB : ∀ p ∈ TF, TabB base mg (cT K (p, none)).1 (cT K (p, none)).2) : DispOk (Γm K mg) PP w K mg base 4 disp0 := by
  intro d g h
  cases d with
  | glo x =>
    simp only [disp0] at h
    exact absurd h (by simp)
  | clo n cs =>
    simp only [disp0] at h
    split at h
    · rename_i e; subst e; cases h; exact .inr ⟨_, cs, _, [], _, rfl, lamF_0 Z TB, rfl⟩
    split at h
    · rename_i e; subst e; cases h; exact .inr ⟨_, cs, _, [], _, rfl, lamF_1 Z TB, rfl⟩
    split at h
    · rename_i e; subst e; cases h; exact .inr ⟨_, cs, _, [], _, rfl, lamF_2 Z TB, rfl⟩
    cases h
  | _ => cases h
theorem sc__law_error : FnScope [("call" : Str), ("e" : Str)] [("call" : Str)] (defScope (top 20)) := ⟨rfl, rfl, rfl, by decide +kernel, rfl, by decide +kernel, by decide +kernel⟩
theorem nd__law_error : ([("call" : Str), ("e" : Str)] : List Str).Nodup := by decide +kernel
theorem bd__law_error (Z : Fs K mg) : Binds K Z.fd__law_error [("call" : Str)] [] := Z.F__law_error.bindsN fun _ _ _ _ _ _ us hl => match us, hl with | [_], _ => rfl
def b__law_error : MS := (sSeq (sTry 1 (sSeq (sExpr (xCallV disp0 0 aNil)) sNil) [⟨tab_InvalidText, goRet [.s [116, 101, 120, 116], .f "at", .f "why"]⟩, ⟨tab_InvalidPlace, goRet [.s [112, 108, 97, 99, 101], .f "at"]⟩, ⟨tab_InvalidDeed, goRet [.s [100, 101, 101, 100], .f "at"]⟩]) (sSeq (sRet (xTup (aCons (xC (.str [116, 111, 108, 100])) aNil))) sNil))
def m__law_error : MF := runF 2 b__law_error
theorem ok__law_error (Z : Fs K mg) (TB : ∀ p ∈ TF, TabB base mg (cT K (p, none)).1 (cT K (p, none)).2) : FnOk PP w K mg base (CX PP w) 6 (ga K "_law_error") Z.fd__law_error [("call" : Str)] (spF (Γm K mg) 1 m__law_error) :=
  fn_mirD (P := PP) (w := w) (mg := mg) (base := base) (Γ := Γm K mg) (k := 5) (N := [("call" : Str), ("e" : Str)]) (b := b__law_error) Z.F__law_error sc__law_error (fun cdv A outer s H E lk hcd hr =>
 (fss_cons (fs_try (i := 1) rfl rfl nd__law_error rfl (by rfl) takes_cx (fun _ _ _ tk_ hp_ => (fss_cons (fs_expr (fe_callV0 (fun _ _ => True.intro) ⟨rfl, rfl⟩ (disp0_ok Z TB) (hr.mono (by omega)) tk_ rfl (by first | exact .inl rfl | exact .inr (.inl rfl) | exact .inr (.inr rfl))))
 fss_nil)) (.cons (fc_ret (i := 1) ⟨rfl, rfl⟩ ⟨(by rfl), by decide, .inl Z.g_InvalidText⟩ Z.g_InvalidText Z.X_InvalidText.2 rfl (by first | exact .inl rfl | exact .inr (.inl rfl) | exact .inr (.inr rfl)) (by decide) (by decide) (fun _ => rfl) (tab_InvalidText_ok Z) (tab_InvalidText_1) (.s (by decide +kernel) (.f Z.n_InvalidText_at (.f Z.n_InvalidText_why .nil)))) (.cons (fc_ret (i := 1) ⟨rfl, rfl⟩ ⟨(by rfl), by decide, .inl Z.g_InvalidPlace⟩ Z.g_InvalidPlace Z.X_InvalidPlace.2 rfl (by first | exact .inl rfl | exact .inr (.inl rfl) | exact .inr (.inr rfl)) (by decide) (by decide) (fun _ => rfl) (tab_InvalidPlace_ok Z) (tab_InvalidPlace_1) (.s (by decide +kernel) (.f Z.n_InvalidPlace_at .nil))) (.cons (fc_ret (i := 1) ⟨rfl, rfl⟩ ⟨(by rfl), by decide, .inl Z.g_InvalidDeed⟩ Z.g_InvalidDeed Z.X_InvalidDeed.2 rfl (by first | exact .inl rfl | exact .inr (.inl rfl) | exact .inr (.inr rfl)) (by decide) (by decide) (fun _ => rfl) (tab_InvalidDeed_ok Z) (tab_InvalidDeed_1) (.s (by decide +kernel) (.f Z.n_InvalidDeed_at .nil))) .nil))))
 (fss_cons (fs_ret (fe_tup (fa_cons (fe_str (l := [116, 111, 108, 100]) (by decide +kernel)) fa_nil)))
 fss_nil)))
theorem sc__law_all : FnScope [("ask" : Str), ("some" : Str), ("due" : Str), ("one" : Str)] [("ask" : Str), ("some" : Str), ("due" : Str)] (defScope (top 19)) := ⟨rfl, rfl, rfl, by decide +kernel, rfl, by decide +kernel, by decide +kernel⟩
theorem nd__law_all : ([("ask" : Str), ("some" : Str), ("due" : Str), ("one" : Str)] : List Str).Nodup := by decide +kernel
theorem bd__law_all (Z : Fs K mg) : Binds K Z.fd__law_all [("ask" : Str), ("some" : Str), ("due" : Str)] [] := Z.F__law_all.bindsN fun _ _ _ _ _ _ us hl => match us, hl with | [_, _, _], _ => rfl
def b__law_all : MS := (sSeq (sFor (xIt (xVar 1)) (.nm 3) (sSeq (sIf (xNot (xTru (xCall (m__law_is 8) [] (aCons (xCallC m__law_error 0 [3, 0] aNil) (aCons (xVar 2) aNil))))) (sSeq (sRet (xC (.bl false))) sNil) sNil) sNil)) (sSeq (sRet (xC (.bl true))) sNil))
def m__law_all : MF := runF 4 b__law_all
theorem ok__law_all (Z : Fs K mg) (TB : ∀ p ∈ TF, TabB base mg (cT K (p, none)).1 (cT K (p, none)).2) : FnOk PP w K mg base (CX PP w) 9 (ga K "_law_all") Z.fd__law_all [("ask" : Str), ("some" : Str), ("due" : Str)] (spF (Γm K mg) 3 m__law_all) :=
  fn_mirD (P := PP) (w := w) (mg := mg) (base := base) (Γ := Γm K mg) (k := 8) (N := [("ask" : Str), ("some" : Str), ("due" : Str), ("one" : Str)]) (b := b__law_all) Z.F__law_all sc__law_all (fun cdv A outer s H E lk hcd hr =>
 (fss_cons (fs_for passes_cx rfl (fi_it ⟨rfl, rfl⟩ (fe_var (i := 1) rfl (by first | exact .inl rfl | exact .inr (.inl rfl) | exact .inr (.inr rfl)))) (fp_name (i := 3) nd__law_all rfl (by first | exact .inl rfl | exact .inr rfl)) (fss_cons (fs_if (ft_not (ft_tru ⟨rfl, rfl⟩ (fe_call (ok__law_is Z TB 8) (hr.mono (by omega)) takes_cx (by rfl) Z.g__law_is Z.F__law_is.kp (bd__law_is Z) .nil (fun _ _ => rfl) (fa_cons (fe_callC (I := lam_0) (slots := [3, 0]) (fun _ _ => True.intro) (ok__law_error Z TB) (hr.mono (by omega)) takes_cx (by rfl) Z.g__law_error Z.F__law_error.kp (bd__law_error Z) (lamT_cx Z.F__law_all hcd TB Z.nd (by decide)) rfl rfl (by rfl) (free_by (sc := defScope (top 19)) (by decide +kernel)) cells_cx (fun _ => rfl) (by decide +kernel) (slots_by (N := [("ask" : Str), ("some" : Str), ("due" : Str), ("one" : Str)]) (by decide +kernel)) rfl (vis_by (sc := defScope (top 19)) (by decide +kernel)) fa_nil len_nil rfl) (fa_cons (fe_var (i := 2) rfl (by first | exact .inl rfl | exact .inr (.inl rfl) | exact .inr (.inr rfl))) fa_nil)) (len_cons (len_cons len_nil)) rfl))) (fss_cons (fs_ret fe_bl)
 fss_nil) fss_nil)
 fss_nil))
 (fss_cons (fs_ret fe_bl)
 fss_nil)))
theorem sc__law_take : FnScope [("box" : Str), ("many" : Str), ("cell" : Str)] [("box" : Str), ("many" : Str)] (defScope (top 16)) := ⟨rfl, rfl, rfl, by decide +kernel, rfl, by decide +kernel, by decide +kernel⟩
theorem nd__law_take : ([("box" : Str), ("many" : Str), ("cell" : Str)] : List Str).Nodup := by decide +kernel
theorem bd__law_take (Z : Fs K mg) : Binds K Z.fd__law_take [("box" : Str), ("many" : Str)] [] := Z.F__law_take.bindsN fun _ _ _ _ _ _ us hl => match us, hl with | [_, _], _ => rfl
def b__law_take : MS := (sSeq (sIf (xTest (xOp2 oNe (xOp2 oIx (xVar 0) (xC (.int 0))) (xLst aNil))) (sSeq (sSet 2 (xOp2 oIx (xOp2 oIx (xVar 0) (xC (.int 0))) (xC (.int 0)))) (sSeq (sSub (xOp2 oAdd (xIf (xTest (xOp2 oGe (xVar 2) (xVar 1))) (xLst (aCons (xOp2 oFdiv (xVar 2) (xVar 1)) aNil)) (xLst aNil)) (xSl (xOp2 oIx (xVar 0) (xC (.int 0))) (some (xC (.int 1))) none)) (xVar 0) (xC (.int 0))) (sSeq (sRet (xOp2 oMod (xCB oInt (aCons (xVar 2) aNil)) (xVar 1))) sNil))) sNil) (sSeq (sSub (xOp2 oMod (xCB oInt (aCons (xOp2 oMul (xOp2 oIx (xVar 0) (xC (.int 1))) (xC (.int 48271))) aNil)) (xC (.int 2147483647))) (xVar 0) (xC (.int 1))) (sSeq (sRet (xOp2 oMod (xCB oInt (aCons (xOp2 oFdiv (xOp2 oAdd (xOp2 oMul (xOp2 oIx (xVar 0) (xC (.int 1))) (xC (.int 69621))) (xC (.int 7))) (xC (.int 1013))) aNil)) (xVar 1))) sNil)))
def m__law_take : MF := runF 3 b__law_take
theorem ok__law_take (Z : Fs K mg) (TB : ∀ p ∈ TF, TabB base mg (cT K (p, none)).1 (cT K (p, none)).2) : FnOk PP w K mg base (CX PP w) 1 (ga K "_law_take") Z.fd__law_take [("box" : Str), ("many" : Str)] (spF (Γm K mg) 2 m__law_take) :=
  fn_mirD (P := PP) (w := w) (mg := mg) (base := base) (Γ := Γm K mg) (k := 0) (N := [("box" : Str), ("many" : Str), ("cell" : Str)]) (b := b__law_take) Z.F__law_take sc__law_take (fun cdv A outer s H E lk hcd hr =>
 (fss_cons (fs_if (ft_cmp (op_neA ⟨rfl, rfl⟩ hr) o_ne (fe_ix (ix_all ⟨rfl, rfl⟩) o_ix (fe_var (i := 0) rfl (by first | exact .inl rfl | exact .inr (.inl rfl) | exact .inr (.inr rfl))) fe_int (fun _ _ => rfl)) (fe_lst fa_nil) rfl) (fss_cons (fs_set (i := 2) nd__law_take rfl (by first | exact .inl rfl | exact .inr rfl) (fe_ix (ix_all ⟨rfl, rfl⟩) o_ix (fe_ix (ix_all ⟨rfl, rfl⟩) o_ix (fe_var (i := 0) rfl (by first | exact .inl rfl | exact .inr (.inl rfl) | exact .inr (.inr rfl))) fe_int (fun _ _ => rfl)) fe_int (fun _ _ => rfl)))
 (fss_cons (fs_sub (fe_binz (op_addAll ⟨rfl, rfl⟩) o_add (fe_if (ft_cmp op_geA o_ge (fe_var (i := 2) rfl (by first | exact .inl rfl | exact .inr (.inl rfl) | exact .inr (.inr rfl))) (fe_var (i := 1) rfl (by first | exact .inl rfl | exact .inr (.inl rfl) | exact .inr (.inr rfl))) rfl) (fe_lst (fa_cons (fe_bin op_fdivA o_fdiv (fe_var (i := 2) rfl (by first | exact .inl rfl | exact .inr (.inl rfl) | exact .inr (.inr rfl))) (fe_var (i := 1) rfl (by first | exact .inl rfl | exact .inr (.inl rfl) | exact .inr (.inr rfl)))) fa_nil)) (fe_lst fa_nil)) (fe_slice ⟨rfl, rfl⟩ (fe_ix (ix_all ⟨rfl, rfl⟩) o_ix (fe_var (i := 0) rfl (by first | exact .inl rfl | exact .inr (.inl rfl) | exact .inr (.inr rfl))) fe_int (fun _ _ => rfl)) (fo_some fe_int) fo_none)) (fe_var (i := 0) rfl (by first | exact .inl rfl | exact .inr (.inl rfl) | exact .inr (.inr rfl))) fe_int)
 (fss_cons (fs_ret (fe_bin op_modN o_mod (fe_callT call_int1 o_int (by rfl) Z.f_int (by decide +kernel) (fa_cons (fe_var (i := 2) rfl (by first | exact .inl rfl | exact .inr (.inl rfl) | exact .inr (.inr rfl))) fa_nil)) (fe_var (i := 1) rfl (by first | exact .inl rfl | exact .inr (.inl rfl) | exact .inr (.inr rfl)))))
 fss_nil))) fss_nil)
 (fss_cons (fs_sub (fe_bin op_modN o_mod (fe_callT call_int1 o_int (by rfl) Z.f_int (by decide +kernel) (fa_cons (fe_bin (op_mulAll ⟨rfl, rfl⟩) o_mul (fe_ix (ix_all ⟨rfl, rfl⟩) o_ix (fe_var (i := 0) rfl (by first | exact .inl rfl | exact .inr (.inl rfl) | exact .inr (.inr rfl))) fe_int (fun _ _ => rfl)) fe_int) fa_nil)) fe_int) (fe_var (i := 0) rfl (by first | exact .inl rfl | exact .inr (.inl rfl) | exact .inr (.inr rfl))) fe_int)
 (fss_cons (fs_ret (fe_bin op_modN o_mod (fe_callT call_int1 o_int (by rfl) Z.f_int (by decide +kernel) (fa_cons (fe_bin op_fdivA o_fdiv (fe_binz (op_addAll ⟨rfl, rfl⟩) o_add (fe_bin (op_mulAll ⟨rfl, rfl⟩) o_mul (fe_ix (ix_all ⟨rfl, rfl⟩) o_ix (fe_var (i := 0) rfl (by first | exact .inl rfl | exact .inr (.inl rfl) | exact .inr (.inr rfl))) fe_int (fun _ _ => rfl)) fe_int) fe_int) fe_int) fa_nil)) (fe_var (i := 1) rfl (by first | exact .inl rfl | exact .inr (.inl rfl) | exact .inr (.inr rfl)))))
 fss_nil))))
theorem sc__law_pick : FnScope [("box" : Str), ("some" : Str)] [("box" : Str), ("some" : Str)] (defScope (top 17)) := ⟨rfl, rfl, rfl, by decide +kernel, rfl, by decide +kernel, by decide +kernel⟩
theorem nd__law_pick : ([("box" : Str), ("some" : Str)] : List Str).Nodup := by decide +kernel
theorem bd__law_pick (Z : Fs K mg) : Binds K Z.fd__law_pick [("box" : Str), ("some" : Str)] [] := Z.F__law_pick.bindsN fun _ _ _ _ _ _ us hl => match us, hl with | [_, _], _ => rfl
def b__law_pick : MS := (sSeq (sRet (xOp2 oIx (xVar 1) (xCall m__law_take [] (aCons (xVar 0) (aCons (xCB oLen (aCons (xVar 1) aNil)) aNil))))) sNil)
def m__law_pick : MF := runF 2 b__law_pick
theorem ok__law_pick (Z : Fs K mg) (TB : ∀ p ∈ TF, TabB base mg (cT K (p, none)).1 (cT K (p, none)).2) : FnOk PP w K mg base (CX PP w) 2 (ga K "_law_pick") Z.fd__law_pick [("box" : Str), ("some" : Str)] (spF (Γm K mg) 2 m__law_pick) :=
  fn_mirD (P := PP) (w := w) (mg := mg) (base := base) (Γ := Γm K mg) (k := 1) (N := [("box" : Str), ("some" : Str)]) (b := b__law_pick) Z.F__law_pick sc__law_pick (fun cdv A outer s H E lk hcd hr =>
 (fss_cons (fs_ret (fe_ix (ix_all ⟨rfl, rfl⟩) o_ix (fe_var (i := 1) rfl (by first | exact .inl rfl | exact .inr (.inl rfl) | exact .inr (.inr rfl))) (fe_call (ok__law_take Z TB) (hr.mono (by omega)) takes_cx (by rfl) Z.g__law_take Z.F__law_take.kp (bd__law_take Z) .nil (fun _ _ => rfl) (fa_cons (fe_var (i := 0) rfl (by first | exact .inl rfl | exact .inr (.inl rfl) | exact .inr (.inr rfl))) (fa_cons (fe_callB call_len (o_len ⟨rfl, rfl⟩) (by rfl) Z.f_len (by decide +kernel) (fa_cons (fe_var (i := 1) rfl (by first | exact .inl rfl | exact .inr (.inl rfl) | exact .inr (.inr rfl))) fa_nil)) fa_nil)) (len_cons (len_cons len_nil)) rfl) (fun _ _ => rfl)))
 fss_nil))
theorem sc__law_kind : FnScope [("group" : Str)] [("group" : Str)] (defScope (top 21)) := ⟨rfl, rfl, rfl, by decide +kernel, rfl, by decide +kernel, by decide +kernel⟩
theorem nd__law_kind : ([("group" : Str)] : List Str).Nodup := by decide +kernel
theorem bd__law_kind (Z : Fs K mg) : Binds K Z.fd__law_kind [("group" : Str)] [] := Z.F__law_kind.bindsN fun _ _ _ _ _ _ us hl => match us, hl with | [_], _ => rfl
def b__law_kind : MS := (sSeq (sRet (xIf (xTest (xOp2 oEq (xVar 0) (xC (.str [45])))) (xC (.str [45])) (xIf (xTest (xChain oLe oLe (xC (.str [48])) (xOp2 oIx (xVar 0) (xC (.int 0))) (xC (.str [57])))) (xC (.str [102, 105, 103, 117, 114, 101])) (xC (.str [108, 101, 116, 116, 101, 114]))))) sNil)
def m__law_kind : MF := runF 1 b__law_kind
theorem ok__law_kind (Z : Fs K mg) (TB : ∀ p ∈ TF, TabB base mg (cT K (p, none)).1 (cT K (p, none)).2) : FnOk PP w K mg base (CX PP w) 1 (ga K "_law_kind") Z.fd__law_kind [("group" : Str)] (spF (Γm K mg) 1 m__law_kind) :=
  fn_mirD (P := PP) (w := w) (mg := mg) (base := base) (Γ := Γm K mg) (k := 0) (N := [("group" : Str)]) (b := b__law_kind) Z.F__law_kind sc__law_kind (fun cdv A outer s H E lk hcd hr =>
 (fss_cons (fs_ret (fe_if (ft_cmp (op_eqA ⟨rfl, rfl⟩ hr) o_eq (fe_var (i := 0) rfl (by first | exact .inl rfl | exact .inr (.inl rfl) | exact .inr (.inr rfl))) (fe_str (l := [45]) (by decide +kernel)) rfl) (fe_str (l := [45]) (by decide +kernel)) (fe_if (ft_chain op_leA op_leA o_le o_le (fe_str (l := [48]) (by decide +kernel)) (fe_ix (ix_all ⟨rfl, rfl⟩) o_ix (fe_var (i := 0) rfl (by first | exact .inl rfl | exact .inr (.inl rfl) | exact .inr (.inr rfl))) fe_int (fun _ _ => rfl)) (fe_str (l := [57]) (by decide +kernel))) (fe_str (l := [102, 105, 103, 117, 114, 101]) (by decide +kernel)) (fe_str (l := [108, 101, 116, 116, 101, 114]) (by decide +kernel)))))
 fss_nil))
theorem sc__law_told : FnScope [("box" : Str), ("groups" : Str), ("text" : Str), ("at" : Str), ("group" : Str), ("wanted" : Str)] [("box" : Str), ("groups" : Str)] (defScope (top 22)) := ⟨rfl, rfl, rfl, by decide +kernel, rfl, by decide +kernel, by decide +kernel⟩
theorem nd__law_told : ([("box" : Str), ("groups" : Str), ("text" : Str), ("at" : Str), ("group" : Str), ("wanted" : Str)] : List Str).Nodup := by decide +kernel
theorem bd__law_told (Z : Fs K mg) : Binds K Z.fd__law_told [("box" : Str), ("groups" : Str)] [] := Z.F__law_told.bindsN fun _ _ _ _ _ _ us hl => match us, hl with | [_, _], _ => rfl
def b__law_told : MS := (sSeq (sSet 2 (xCall m__law_pick [] (aCons (xVar 0) (aCons (xLst (aCons (xC (.str [])) (aCons (xC (.str [])) (aCons (xC (.str [32])) (aCons (xC (.str [10])) aNil))))) aNil)))) (sSeq (sFor (xEnum (aCons (xVar 1) aNil)) (.tp [(.nm 3), (.nm 4)]) (sSeq (sSet 5 (xAndV (xOp2 oGt (xVar 3) (xC (.int 0))) (xAndV (xOp2 oEq (xCall m__law_kind [] (aCons (xVar 4) aNil)) (xCall m__law_kind [] (aCons (xOp2 oIx (xVar 1) (xOp2 oSub (xVar 3) (xC (.int 1)))) aNil))) (xOp2 oNe (xVar 4) (xC (.str [45])))))) (sSeq (sSet 2 (xOp2 oAdd (xOp2 oAdd (xVar 2) (xIf (xTru (xVar 5)) (xCall m__law_pick [] (aCons (xVar 0) (aCons (xLst (aCons (xC (.str [32])) (aCons (xC (.str [10])) (aCons (xC (.str [32, 32])) (aCons (xC (.str [10, 10, 32])) aNil))))) aNil))) (xIf (xTest (xOp2 oGt (xVar 3) (xC (.int 0)))) (xCall m__law_pick [] (aCons (xVar 0) (aCons (xLst (aCons (xC (.str [])) (aCons (xC (.str [])) (aCons (xC (.str [32])) (aCons (xC (.str [10])) aNil))))) aNil))) (xC (.str []))))) (xVar 4))) sNil))) (sSeq (sRet (xOp2 oAdd (xVar 2) (xCall m__law_pick [] (aCons (xVar 0) (aCons (xLst (aCons (xC (.str [])) (aCons (xC (.str [32])) (aCons (xC (.str [10])) aNil)))) aNil))))) sNil)))
def m__law_told : MF := runF 6 b__law_told
theorem ok__law_told (Z : Fs K mg) (TB : ∀ p ∈ TF, TabB base mg (cT K (p, none)).1 (cT K (p, none)).2) : FnOk PP w K mg base (CX PP w) 3 (ga K "_law_told") Z.fd__law_told [("box" : Str), ("groups" : Str)] (spF (Γm K mg) 2 m__law_told) :=
  fn_mirD (P := PP) (w := w) (mg := mg) (base := base) (Γ := Γm K mg) (k := 2) (N := [("box" : Str), ("groups" : Str), ("text" : Str), ("at" : Str), ("group" : Str), ("wanted" : Str)]) (b := b__law_told) Z.F__law_told sc__law_told (fun cdv A outer s H E lk hcd hr =>
 (fss_cons (fs_set (i := 2) nd__law_told rfl (by first | exact .inl rfl | exact .inr rfl) (fe_call (ok__law_pick Z TB) (hr.mono (by omega)) takes_cx (by rfl) Z.g__law_pick Z.F__law_pick.kp (bd__law_pick Z) .nil (fun _ _ => rfl) (fa_cons (fe_var (i := 0) rfl (by first | exact .inl rfl | exact .inr (.inl rfl) | exact .inr (.inr rfl))) (fa_cons (fe_lst (fa_cons (fe_str (l := []) (by decide +kernel)) (fa_cons (fe_str (l := []) (by decide +kernel)) (fa_cons (fe_str (l := [32]) (by decide +kernel)) (fa_cons (fe_str (l := [10]) (by decide +kernel)) fa_nil))))) fa_nil)) (len_cons (len_cons len_nil)) rfl))
 (fss_cons (fs_for passes_cx rfl (fi_enum ⟨rfl, rfl⟩ (by rfl) Z.f_enumerate (fa_cons (fe_var (i := 1) rfl (by first | exact .inl rfl | exact .inr (.inl rfl) | exact .inr (.inr rfl))) fa_nil)) (fp_tup ⟨rfl, rfl⟩ rfl (fps_cons (fp_name (i := 3) nd__law_told rfl (by first | exact .inl rfl | exact .inr rfl)) (fps_cons (fp_name (i := 4) nd__law_told rfl (by first | exact .inl rfl | exact .inr rfl)) fps_nil))) (fss_cons (fs_set (i := 5) nd__law_told rfl (by first | exact .inl rfl | exact .inr rfl) (fe_and (fe_cmp op_gtA o_gt (fe_var (i := 3) rfl (by first | exact .inl rfl | exact .inr (.inl rfl) | exact .inr (.inr rfl))) fe_int rfl) (fe_and (fe_cmp (op_eqA ⟨rfl, rfl⟩ hr) o_eq (fe_call (ok__law_kind Z TB) (hr.mono (by omega)) takes_cx (by rfl) Z.g__law_kind Z.F__law_kind.kp (bd__law_kind Z) .nil (fun _ _ => rfl) (fa_cons (fe_var (i := 4) rfl (by first | exact .inl rfl | exact .inr (.inl rfl) | exact .inr (.inr rfl))) fa_nil) (len_cons len_nil) rfl) (fe_call (ok__law_kind Z TB) (hr.mono (by omega)) takes_cx (by rfl) Z.g__law_kind Z.F__law_kind.kp (bd__law_kind Z) .nil (fun _ _ => rfl) (fa_cons (fe_ix (ix_all ⟨rfl, rfl⟩) o_ix (fe_var (i := 1) rfl (by first | exact .inl rfl | exact .inr (.inl rfl) | exact .inr (.inr rfl))) (fe_bin op_sub o_sub (fe_var (i := 3) rfl (by first | exact .inl rfl | exact .inr (.inl rfl) | exact .inr (.inr rfl))) fe_int) (fun _ _ => rfl)) fa_nil) (len_cons len_nil) rfl) rfl) (fe_one (fe_cmp (op_neA ⟨rfl, rfl⟩ hr) o_ne (fe_var (i := 4) rfl (by first | exact .inl rfl | exact .inr (.inl rfl) | exact .inr (.inr rfl))) (fe_str (l := [45]) (by decide +kernel)) rfl)))))
 (fss_cons (fs_set (i := 2) nd__law_told rfl (by first | exact .inl rfl | exact .inr rfl) (fe_binz (op_addAll ⟨rfl, rfl⟩) o_add (fe_binz (op_addAll ⟨rfl, rfl⟩) o_add (fe_var (i := 2) rfl (by first | exact .inl rfl | exact .inr (.inl rfl) | exact .inr (.inr rfl))) (fe_if (ft_tru ⟨rfl, rfl⟩ (fe_var (i := 5) rfl (by first | exact .inl rfl | exact .inr (.inl rfl) | exact .inr (.inr rfl)))) (fe_call (ok__law_pick Z TB) (hr.mono (by omega)) takes_cx (by rfl) Z.g__law_pick Z.F__law_pick.kp (bd__law_pick Z) .nil (fun _ _ => rfl) (fa_cons (fe_var (i := 0) rfl (by first | exact .inl rfl | exact .inr (.inl rfl) | exact .inr (.inr rfl))) (fa_cons (fe_lst (fa_cons (fe_str (l := [32]) (by decide +kernel)) (fa_cons (fe_str (l := [10]) (by decide +kernel)) (fa_cons (fe_str (l := [32, 32]) (by decide +kernel)) (fa_cons (fe_str (l := [10, 10, 32]) (by decide +kernel)) fa_nil))))) fa_nil)) (len_cons (len_cons len_nil)) rfl) (fe_if (ft_cmp op_gtA o_gt (fe_var (i := 3) rfl (by first | exact .inl rfl | exact .inr (.inl rfl) | exact .inr (.inr rfl))) fe_int rfl) (fe_call (ok__law_pick Z TB) (hr.mono (by omega)) takes_cx (by rfl) Z.g__law_pick Z.F__law_pick.kp (bd__law_pick Z) .nil (fun _ _ => rfl) (fa_cons (fe_var (i := 0) rfl (by first | exact .inl rfl | exact .inr (.inl rfl) | exact .inr (.inr rfl))) (fa_cons (fe_lst (fa_cons (fe_str (l := []) (by decide +kernel)) (fa_cons (fe_str (l := []) (by decide +kernel)) (fa_cons (fe_str (l := [32]) (by decide +kernel)) (fa_cons (fe_str (l := [10]) (by decide +kernel)) fa_nil))))) fa_nil)) (len_cons (len_cons len_nil)) rfl) (fe_str (l := []) (by decide +kernel))))) (fe_var (i := 4) rfl (by first | exact .inl rfl | exact .inr (.inl rfl) | exact .inr (.inr rfl)))))
 fss_nil)))
 (fss_cons (fs_ret (fe_binz (op_addAll ⟨rfl, rfl⟩) o_add (fe_var (i := 2) rfl (by first | exact .inl rfl | exact .inr (.inl rfl) | exact .inr (.inr rfl))) (fe_call (ok__law_pick Z TB) (hr.mono (by omega)) takes_cx (by rfl) Z.g__law_pick Z.F__law_pick.kp (bd__law_pick Z) .nil (fun _ _ => rfl) (fa_cons (fe_var (i := 0) rfl (by first | exact .inl rfl | exact .inr (.inl rfl) | exact .inr (.inr rfl))) (fa_cons (fe_lst (fa_cons (fe_str (l := []) (by decide +kernel)) (fa_cons (fe_str (l := [32]) (by decide +kernel)) (fa_cons (fe_str (l := [10]) (by decide +kernel)) fa_nil)))) fa_nil)) (len_cons (len_cons len_nil)) rfl)))
 fss_nil))))
theorem sc__law_box : FnScope [("script" : Str), ("rest" : Str), ("state" : Str), ("k" : Str), ("cell" : Str), ("size" : Str)] [("script" : Str)] (defScope (top 15)) := ⟨rfl, rfl, rfl, by decide +kernel, rfl, by decide +kernel, by decide +kernel⟩
theorem nd__law_box : ([("script" : Str), ("rest" : Str), ("state" : Str), ("k" : Str), ("cell" : Str), ("size" : Str)] : List Str).Nodup := by decide +kernel
theorem bd__law_box (Z : Fs K mg) : Binds K Z.fd__law_box [("script" : Str)] [] := Z.F__law_box.bindsN fun _ _ _ _ _ _ us hl => match us, hl with | [_], _ => rfl
def b__law_box : MS := (sSeq (sPar 1 2 (aCons (xNew aNil) (aCons (xC (.int 20887)) aNil))) (sSeq (sFor (xEnum (aCons (xSl (xVar 0) none (some (xC (.int 63)))) aNil)) (.tp [(.nm 3), (.nm 4)]) (sSeq (sSet 5 (xOp2 oAdd (xOp2 oMul (xCB oAbs (aCons (xVar 4) aNil)) (xC (.int 2))) (xCB oInt (aCons (xOp2 oLt (xVar 4) (xC (.int 0))) aNil)))) (sSeq (sIf (xTest (xOp2 oGe (xCB oAbs (aCons (xVar 4) aNil)) (xOp2 oPow (xC (.int 10)) (xC (.int 18))))) (sSeq (sExpr (xMt gAppend (xVar 1) (aCons (xCB oAbs (aCons (xVar 4) aNil)) aNil))) sNil) sNil) (sSeq (sSet 2 (xOp2 oAdd (xOp2 oMod (xCB oInt (aCons (xOp2 oAdd (xOp2 oAdd (xOp2 oMul (xVar 2) (xC (.int 48271))) (xOp2 oMul (xOp2 oMod (xCB oInt (aCons (xVar 5) aNil)) (xC (.int 2147483629))) (xOp2 oAdd (xOp2 oMul (xC (.int 2)) (xVar 3)) (xC (.int 50021))))) (xC (.int 17))) aNil)) (xC (.int 2147483629))) (xC (.int 1)))) sNil)))) (sSeq (sRet (xNew (aCons (xVar 1) (aCons (xVar 2) aNil)))) sNil)))
def m__law_box : MF := runF 6 b__law_box
theorem ok__law_box (Z : Fs K mg) (TB : ∀ p ∈ TF, TabB base mg (cT K (p, none)).1 (cT K (p, none)).2) : FnOk PP w K mg base (CX PP w) 1 (ga K "_law_box") Z.fd__law_box [("script" : Str)] (spF (Γm K mg) 1 m__law_box) :=
  fn_mirD (P := PP) (w := w) (mg := mg) (base := base) (Γ := Γm K mg) (k := 0) (N := [("script" : Str), ("rest" : Str), ("state" : Str), ("k" : Str), ("cell" : Str), ("size" : Str)]) (b := b__law_box) Z.F__law_box sc__law_box (fun cdv A outer s H E lk hcd hr =>
 (fss_cons (fs_par (i := 1) (j := 2) rfl nd__law_box rfl rfl (by decide) (by rfl) (by rfl) (fa_cons (fe_new fa_nil) (fa_cons fe_int fa_nil)) (by rfl))
 (fss_cons (fs_for passes_cx rfl (fi_enum ⟨rfl, rfl⟩ (by rfl) Z.f_enumerate (fa_cons (fe_slice ⟨rfl, rfl⟩ (fe_var (i := 0) rfl (by first | exact .inl rfl | exact .inr (.inl rfl) | exact .inr (.inr rfl))) fo_none (fo_some fe_int)) fa_nil)) (fp_tup ⟨rfl, rfl⟩ rfl (fps_cons (fp_name (i := 3) nd__law_box rfl (by first | exact .inl rfl | exact .inr rfl)) (fps_cons (fp_name (i := 4) nd__law_box rfl (by first | exact .inl rfl | exact .inr rfl)) fps_nil))) (fss_cons (fs_set (i := 5) nd__law_box rfl (by first | exact .inl rfl | exact .inr rfl) (fe_binz (op_addAll ⟨rfl, rfl⟩) o_add (fe_bin (op_mulAll ⟨rfl, rfl⟩) o_mul (fe_callB call_abs o_abs (by rfl) Z.f_abs (by decide +kernel) (fa_cons (fe_var (i := 4) rfl (by first | exact .inl rfl | exact .inr (.inl rfl) | exact .inr (.inr rfl))) fa_nil)) fe_int) (fe_callT call_int1 o_int (by rfl) Z.f_int (by decide +kernel) (fa_cons (fe_cmp op_ltA o_lt (fe_var (i := 4) rfl (by first | exact .inl rfl | exact .inr (.inl rfl) | exact .inr (.inr rfl))) fe_int rfl) fa_nil))))
 (fss_cons (fs_if (ft_cmp op_geA o_ge (fe_callB call_abs o_abs (by rfl) Z.f_abs (by decide +kernel) (fa_cons (fe_var (i := 4) rfl (by first | exact .inl rfl | exact .inr (.inl rfl) | exact .inr (.inr rfl))) fa_nil)) (fe_bin op_pow o_pow fe_int fe_int) rfl) (fss_cons (fs_expr (fe_mt ⟨rfl, rfl⟩ PySem.F.plainAttrs_list PySem.F.slot_list_append PySem.F.type_list_append mt_append ok_append (fe_var (i := 1) rfl (by first | exact .inl rfl | exact .inr (.inl rfl) | exact .inr (.inr rfl))) (fa_cons (fe_callB call_abs o_abs (by rfl) Z.f_abs (by decide +kernel) (fa_cons (fe_var (i := 4) rfl (by first | exact .inl rfl | exact .inr (.inl rfl) | exact .inr (.inr rfl))) fa_nil)) fa_nil)))
 fss_nil) fss_nil)
 (fss_cons (fs_set (i := 2) nd__law_box rfl (by first | exact .inl rfl | exact .inr rfl) (fe_binz (op_addAll ⟨rfl, rfl⟩) o_add (fe_bin op_modN o_mod (fe_callT call_int1 o_int (by rfl) Z.f_int (by decide +kernel) (fa_cons (fe_binz (op_addAll ⟨rfl, rfl⟩) o_add (fe_binz (op_addAll ⟨rfl, rfl⟩) o_add (fe_bin (op_mulAll ⟨rfl, rfl⟩) o_mul (fe_var (i := 2) rfl (by first | exact .inl rfl | exact .inr (.inl rfl) | exact .inr (.inr rfl))) fe_int) (fe_bin (op_mulAll ⟨rfl, rfl⟩) o_mul (fe_bin op_modN o_mod (fe_callT call_int1 o_int (by rfl) Z.f_int (by decide +kernel) (fa_cons (fe_var (i := 5) rfl (by first | exact .inl rfl | exact .inr (.inl rfl) | exact .inr (.inr rfl))) fa_nil)) fe_int) (fe_binz (op_addAll ⟨rfl, rfl⟩) o_add (fe_bin (op_mulAll ⟨rfl, rfl⟩) o_mul fe_int (fe_var (i := 3) rfl (by first | exact .inl rfl | exact .inr (.inl rfl) | exact .inr (.inr rfl)))) fe_int))) fe_int) fa_nil)) fe_int) fe_int))
 fss_nil))))
 (fss_cons (fs_ret (fe_new (fa_cons (fe_var (i := 1) rfl (by first | exact .inl rfl | exact .inr (.inl rfl) | exact .inr (.inr rfl))) (fa_cons (fe_var (i := 2) rfl (by first | exact .inl rfl | exact .inr (.inl rfl) | exact .inr (.inr rfl))) fa_nil))))
 fss_nil))))
theorem sc_law : FnScope [("script" : Str), ("box" : Str), ("signs" : Str), ("turn" : Str), ("groups" : Str), ("count" : Str), ("long" : Str), ("letters" : Str), ("figures" : Str), ("some" : Str), ("due" : Str), ("at" : Str), ("odd" : Str), ("text" : Str), ("sign" : Str)] [("script" : Str)] (defScope (top 23)) := ⟨rfl, rfl, rfl, by decide +kernel, rfl, by decide +kernel, by decide +kernel⟩
theorem nd_law : ([("script" : Str), ("box" : Str), ("signs" : Str), ("turn" : Str), ("groups" : Str), ("count" : Str), ("long" : Str), ("letters" : Str), ("figures" : Str), ("some" : Str), ("due" : Str), ("at" : Str), ("odd" : Str), ("text" : Str), ("sign" : Str)] : List Str).Nodup := by decide +kernel
theorem bd_law (Z : Fs K mg) : Binds K Z.fd_law [("script" : Str)] [] := Z.F_law.bindsN fun _ _ _ _ _ _ us hl => match us, hl with | [_], _ => rfl
def b_law : MS := (sSeq (sSet 1 (xCall m__law_box [] (aCons (xVar 0) aNil))) (sSeq (sSet 2 (xC (.str [97, 98, 99, 100, 101, 102, 103, 104, 105, 106, 107, 108, 109, 110, 111, 112, 113, 114, 115, 116, 117, 118, 119, 120, 121, 122]))) (sSeq (sFor (xRange1 (aCons (xC (.int 14)) aNil)) (.nm 3) (sSeq (sSet 4 (xNew aNil)) (sSeq (sFor (xRange1 (aCons (xCall m__law_take [] (aCons (xVar 1) (aCons (xC (.int 14)) aNil))) aNil)) (.nm 5) (sSeq (sSet 6 (xOp2 oAdd (xC (.int 1)) (xCall m__law_take [] (aCons (xVar 1) (aCons (xCall m__law_pick [] (aCons (xVar 1) (aCons (xLst (aCons (xC (.int 2)) (aCons (xC (.int 15)) aNil))) aNil))) aNil))))) (sSeq (sSet 7 (xJoin (xC (.str [])) (xLc (xRange1 (aCons (xVar 6) aNil)) (.nm 14) xYes (xOp2 oIx (xVar 2) (xCall m__law_take [] (aCons (xVar 1) (aCons (xC (.int 26)) aNil)))) [14]))) (sSeq (sSet 8 (xJoin (xC (.str [])) (xLc (xRange1 (aCons (xVar 6) aNil)) (.nm 14) xYes (xOp2 oIx (xC (.str [48, 49, 50, 51, 52, 53, 54, 55, 56, 57])) (xCall m__law_take [] (aCons (xVar 1) (aCons (xC (.int 10)) aNil)))) [14]))) (sSeq (sExpr (xMt gAppend (xVar 4) (aCons (xCall m__law_pick [] (aCons (xVar 1) (aCons (xLst (aCons (xVar 7) (aCons (xVar 8) (aCons (xC (.str [45])) (aCons (xC (.str [100, 101, 101, 100])) (aCons (xC (.str [48])) (aCons (xC (.str [45])) aNil))))))) aNil))) aNil))) sNil))))) (sSeq (sSet 13 (xCall m__law_told [] (aCons (xVar 1) (aCons (xVar 4) aNil)))) (sSeq (sIf (xNot (xTru (xCall (m__law_is 8) [] (aCons (xTup (aCons (xCall m_cut_groups [] (aCons (xVar 13) aNil)) (aCons (xCallK m_cut_groups ((List.range 1).map .kw) aNil (aCons (xVar 13) aNil)) aNil))) (aCons (xTup (aCons (xCB oTuple (aCons (xVar 4) aNil)) (aCons (xCB oTuple (aCons (xVar 4) aNil)) aNil))) aNil))))) (sSeq (sRet (xC (.bl false))) sNil) sNil) (sSeq (sAsg (.tp [(.nm 12), (.nm 11)]) (xTup (aCons (xCall m__law_pick [] (aCons (xVar 1) (aCons (xLst (aCons (xC (.str [65])) (aCons (xC (.str [43])) (aCons (xC (.str [46])) (aCons (xC (.str [44])) (aCons (xC (.str [40])) (aCons (xC (.str [9])) (aCons (xC (.str [95])) (aCons (xC (.str [58])) (aCons (xC (.str [39])) (aCons (xC (.str [47])) aNil))))))))))) aNil))) (aCons (xCall m__law_take [] (aCons (xVar 1) (aCons (xOp2 oAdd (xCB oLen (aCons (xVar 13) aNil)) (xC (.int 1))) aNil))) aNil)))) (sSeq (sIf (xNot (xTru (xCall (m__law_is 8) [] (aCons (xCallC m__law_error 1 [13, 12, 11] aNil) (aCons (xTup (aCons (xC (.str [116, 101, 120, 116])) (aCons (xVar 11) (aCons (xC (.int 1)) aNil)))) aNil))))) (sSeq (sRet (xC (.bl false))) sNil) sNil) sNil))))))) (sSeq (sSet 9 (xLst (aCons (xTup (aCons (xOp2 oMul (xC (.str [45, 32])) (xC (.int 4000))) (aCons (xTup (aCons (xC (.str [116, 111, 108, 100])) aNil)) aNil))) (aCons (xTup (aCons (xOp2 oMul (xC (.str [45])) (xC (.int 4001))) (aCons (xTup (aCons (xC (.str [116, 101, 120, 116])) (aCons (xOp1 oNeg (xC (.int 1))) (aCons (xC (.int 2)) aNil)))) aNil))) (aCons (xTup (aCons (xOp2 oMul (xC (.str [97])) (xC (.int 60000))) (aCons (xTup (aCons (xC (.str [116, 111, 108, 100])) aNil)) aNil))) (aCons (xTup (aCons (xOp2 oMul (xC (.str [97])) (xC (.int 60001))) (aCons (xTup (aCons (xC (.str [116, 101, 120, 116])) (aCons (xOp1 oNeg (xC (.int 1))) (aCons (xC (.int 0)) aNil)))) aNil))) aNil)))))) (sSeq (sFor (xIt (xOp2 oAdd (xVar 9) (xLst (aCons (xTup (aCons (xOp2 oAdd (xOp2 oMul (xC (.str [45])) (xC (.int 4001))) (xC (.str [61]))) (aCons (xTup (aCons (xC (.str [116, 101, 120, 116])) (aCons (xC (.int 4001)) (aCons (xC (.int 1)) aNil)))) aNil))) (aCons (xTup (aCons (xOp2 oMul (xC (.str [61])) (xC (.int 60001))) (aCons (xTup (aCons (xC (.str [116, 101, 120, 116])) (aCons (xOp1 oNeg (xC (.int 1))) (aCons (xC (.int 0)) aNil)))) aNil))) aNil))))) (.tp [(.nm 13), (.nm 10)]) (sSeq (sIf (xNot (xTru (xCall (m__law_is 8) [] (aCons (xCallC m__law_error 2 [13] aNil) (aCons (xVar 10) aNil))))) (sSeq (sRet (xC (.bl false))) sNil) sNil) sNil)) (sSeq (sIf (xOr (xTest (xOp2 oNe (xCB oLen (aCons (xCall m_cut_groups [] (aCons (xOp2 oMul (xC (.str [55, 32])) (xC (.int 4000))) aNil)) aNil)) (xC (.int 4000)))) (xNot (xTru (xCall (m__law_is 8) [] (aCons (xCall m_cut_groups [] (aCons (xOp2 oMul (xC (.str [97])) (xC (.int 60000))) aNil)) (aCons (xTup (aCons (xOp2 oMul (xC (.str [97])) (xC (.int 60000))) aNil)) aNil)))))) (sSeq (sRet (xC (.bl false))) sNil) sNil) (sSeq (sIf (xNot (xTru (xCall m__law_all [] (aCons (xC (.clo 3 [])) (aCons (xLst (aCons (xC .non) (aCons (xC (.int 0)) (aCons (xC (.bl true)) (aCons (xLst (aCons (xC (.str [100, 101, 101, 100])) aNil)) (aCons (xTup (aCons (xC (.str [112, 108, 97, 99, 101])) (aCons (xC (.str [97])) aNil))) aNil)))))) (aCons (xTup (aCons (xC (.str [116, 101, 120, 116])) (aCons (xOp1 oNeg (xC (.int 1))) (aCons (xC (.int 0)) aNil)))) aNil)))))) (sSeq (sRet (xC (.bl false))) sNil) sNil) (sSeq (sRet (xCall (m__law_is 8) [] (aCons (xTup (aCons (xCall m_cut_groups [] (aCons (xC (.str [100, 101, 101, 100, 32, 117, 112, 49, 45, 49])) aNil)) (aCons (xCall m_cut_groups [] (aCons (xC (.str [])) aNil)) (aCons (xC (.tup [.str [110, 111, 32, 116, 101, 120, 116], .str [110, 111, 32, 115, 117, 99, 104, 32, 115, 105, 103, 110], .str [116, 111, 111, 32, 109, 97, 110, 121, 32, 103, 114, 111, 117, 112, 115], .str [116, 111, 111, 32, 108, 111, 110, 103], .str [110, 111, 116, 32, 116, 104, 105, 115, 32, 104, 101, 114, 101]])) aNil)))) (aCons (xTup (aCons (xTup (aCons (xC (.str [100, 101, 101, 100])) (aCons (xC (.str [117, 112])) (aCons (xC (.str [49])) (aCons (xC (.str [45])) (aCons (xC (.str [49])) aNil)))))) (aCons (xTup aNil) (aCons (xTup (aCons (xC (.str [110, 111, 32, 116, 101, 120, 116])) (aCons (xC (.str [110, 111, 32, 115, 117, 99, 104, 32, 115, 105, 103, 110])) (aCons (xC (.str [116, 111, 111, 32, 109, 97, 110, 121, 32, 103, 114, 111, 117, 112, 115])) (aCons (xC (.str [116, 111, 111, 32, 108, 111, 110, 103])) (aCons (xC (.str [110, 111, 116, 32, 116, 104, 105, 115, 32, 104, 101, 114, 101])) aNil)))))) aNil)))) aNil)))) sNil))))))))
def m_law : MF := runF 15 b_law
theorem ok_law (Z : Fs K mg) (TB : ∀ p ∈ TF, TabB base mg (cT K (p, none)).1 (cT K (p, none)).2) : FnOk PP w K mg base (CX PP w) 10 (ga K "law") Z.fd_law [("script" : Str)] (spF (Γm K mg) 1 m_law) :=
  fn_mirD (P := PP) (w := w) (mg := mg) (base := base) (Γ := Γm K mg) (k := 9) (N := [("script" : Str), ("box" : Str), ("signs" : Str), ("turn" : Str), ("groups" : Str), ("count" : Str), ("long" : Str), ("letters" : Str), ("figures" : Str), ("some" : Str), ("due" : Str), ("at" : Str), ("odd" : Str), ("text" : Str), ("sign" : Str)]) (b := b_law) Z.F_law sc_law (fun cdv A outer s H E lk hcd hr =>
 (fss_cons (fs_set (i := 1) nd_law rfl (by first | exact .inl rfl | exact .inr rfl) (fe_call (ok__law_box Z TB) (hr.mono (by omega)) takes_cx (by rfl) Z.g__law_box Z.F__law_box.kp (bd__law_box Z) .nil (fun _ _ => rfl) (fa_cons (fe_var (i := 0) rfl (by first | exact .inl rfl | exact .inr (.inl rfl) | exact .inr (.inr rfl))) fa_nil) (len_cons len_nil) rfl))
 (fss_cons (fs_set (i := 2) nd_law rfl (by first | exact .inl rfl | exact .inr rfl) (fe_str (l := [97, 98, 99, 100, 101, 102, 103, 104, 105, 106, 107, 108, 109, 110, 111, 112, 113, 114, 115, 116, 117, 118, 119, 120, 121, 122]) (by decide +kernel)))
 (fss_cons (fs_for passes_cx rfl (fi_range1 (by rfl) Z.f_range (fa_cons fe_int fa_nil)) (fp_name (i := 3) nd_law rfl (by first | exact .inl rfl | exact .inr rfl)) (fss_cons (fs_set (i := 4) nd_law rfl (by first | exact .inl rfl | exact .inr rfl) (fe_new fa_nil))
 (fss_cons (fs_for passes_cx rfl (fi_range1 (by rfl) Z.f_range (fa_cons (fe_call (ok__law_take Z TB) (hr.mono (by omega)) takes_cx (by rfl) Z.g__law_take Z.F__law_take.kp (bd__law_take Z) .nil (fun _ _ => rfl) (fa_cons (fe_var (i := 1) rfl (by first | exact .inl rfl | exact .inr (.inl rfl) | exact .inr (.inr rfl))) (fa_cons fe_int fa_nil)) (len_cons (len_cons len_nil)) rfl) fa_nil)) (fp_name (i := 5) nd_law rfl (by first | exact .inl rfl | exact .inr rfl)) (fss_cons (fs_set (i := 6) nd_law rfl (by first | exact .inl rfl | exact .inr rfl) (fe_binz (op_addAll ⟨rfl, rfl⟩) o_add fe_int (fe_call (ok__law_take Z TB) (hr.mono (by omega)) takes_cx (by rfl) Z.g__law_take Z.F__law_take.kp (bd__law_take Z) .nil (fun _ _ => rfl) (fa_cons (fe_var (i := 1) rfl (by first | exact .inl rfl | exact .inr (.inl rfl) | exact .inr (.inr rfl))) (fa_cons (fe_call (ok__law_pick Z TB) (hr.mono (by omega)) takes_cx (by rfl) Z.g__law_pick Z.F__law_pick.kp (bd__law_pick Z) .nil (fun _ _ => rfl) (fa_cons (fe_var (i := 1) rfl (by first | exact .inl rfl | exact .inr (.inl rfl) | exact .inr (.inr rfl))) (fa_cons (fe_lst (fa_cons fe_int (fa_cons fe_int fa_nil))) fa_nil)) (len_cons (len_cons len_nil)) rfl) fa_nil)) (len_cons (len_cons len_nil)) rfl)))
 (fss_cons (fs_set (i := 7) nd_law rfl (by first | exact .inl rfl | exact .inr rfl) (fe_join ⟨rfl, rfl⟩ (fe_str (l := []) (by decide +kernel)) (fe_lc (own := [("sign", 14)]) rfl (by exact nd_law) (fi_range1 (by rfl) Z.f_range (fa_cons (fe_var (i := 6) rfl (by first | exact .inl rfl | exact .inr (.inl rfl) | exact .inr (.inr rfl))) fa_nil)) (blkOk_by (by kernel_rfl)) (by decide) (fun _ _ _ _ _ => (fp_name (i := 14) nd_law rfl (by first | exact .inl rfl | exact .inr rfl))) (fun _ _ _ _ _ => ft_nil) (fun _ _ _ _ _ => (fe_ix (ix_all ⟨rfl, rfl⟩) o_ix (fe_var (i := 2) rfl (by first | exact .inl rfl | exact .inr (.inl rfl) | exact .inr (.inr rfl))) (fe_call (ok__law_take Z TB) (hr.mono (by omega)) MP.takes0 (by rfl) Z.g__law_take Z.F__law_take.kp (bd__law_take Z) .nil (fun _ _ => rfl) (fa_cons (fe_var (i := 1) rfl (by first | exact .inl rfl | exact .inr (.inl rfl) | exact .inr (.inr rfl))) (fa_cons fe_int fa_nil)) (len_cons (len_cons len_nil)) rfl) (fun _ _ => rfl))))))
 (fss_cons (fs_set (i := 8) nd_law rfl (by first | exact .inl rfl | exact .inr rfl) (fe_join ⟨rfl, rfl⟩ (fe_str (l := []) (by decide +kernel)) (fe_lc (own := [("sign", 14)]) rfl (by exact nd_law) (fi_range1 (by rfl) Z.f_range (fa_cons (fe_var (i := 6) rfl (by first | exact .inl rfl | exact .inr (.inl rfl) | exact .inr (.inr rfl))) fa_nil)) (blkOk_by (by kernel_rfl)) (by decide) (fun _ _ _ _ _ => (fp_name (i := 14) nd_law rfl (by first | exact .inl rfl | exact .inr rfl))) (fun _ _ _ _ _ => ft_nil) (fun _ _ _ _ _ => (fe_ix (ix_all ⟨rfl, rfl⟩) o_ix (fe_str (l := [48, 49, 50, 51, 52, 53, 54, 55, 56, 57]) (by decide +kernel)) (fe_call (ok__law_take Z TB) (hr.mono (by omega)) MP.takes0 (by rfl) Z.g__law_take Z.F__law_take.kp (bd__law_take Z) .nil (fun _ _ => rfl) (fa_cons (fe_var (i := 1) rfl (by first | exact .inl rfl | exact .inr (.inl rfl) | exact .inr (.inr rfl))) (fa_cons fe_int fa_nil)) (len_cons (len_cons len_nil)) rfl) (fun _ _ => rfl))))))
 (fss_cons (fs_expr (fe_mt ⟨rfl, rfl⟩ PySem.F.plainAttrs_list PySem.F.slot_list_append PySem.F.type_list_append mt_append ok_append (fe_var (i := 4) rfl (by first | exact .inl rfl | exact .inr (.inl rfl) | exact .inr (.inr rfl))) (fa_cons (fe_call (ok__law_pick Z TB) (hr.mono (by omega)) takes_cx (by rfl) Z.g__law_pick Z.F__law_pick.kp (bd__law_pick Z) .nil (fun _ _ => rfl) (fa_cons (fe_var (i := 1) rfl (by first | exact .inl rfl | exact .inr (.inl rfl) | exact .inr (.inr rfl))) (fa_cons (fe_lst (fa_cons (fe_var (i := 7) rfl (by first | exact .inl rfl | exact .inr (.inl rfl) | exact .inr (.inr rfl))) (fa_cons (fe_var (i := 8) rfl (by first | exact .inl rfl | exact .inr (.inl rfl) | exact .inr (.inr rfl))) (fa_cons (fe_str (l := [45]) (by decide +kernel)) (fa_cons (fe_str (l := [100, 101, 101, 100]) (by decide +kernel)) (fa_cons (fe_str (l := [48]) (by decide +kernel)) (fa_cons (fe_str (l := [45]) (by decide +kernel)) fa_nil))))))) fa_nil)) (len_cons (len_cons len_nil)) rfl) fa_nil)))
 fss_nil)))))
 (fss_cons (fs_set (i := 13) nd_law rfl (by first | exact .inl rfl | exact .inr rfl) (fe_call (ok__law_told Z TB) (hr.mono (by omega)) takes_cx (by rfl) Z.g__law_told Z.F__law_told.kp (bd__law_told Z) .nil (fun _ _ => rfl) (fa_cons (fe_var (i := 1) rfl (by first | exact .inl rfl | exact .inr (.inl rfl) | exact .inr (.inr rfl))) (fa_cons (fe_var (i := 4) rfl (by first | exact .inl rfl | exact .inr (.inl rfl) | exact .inr (.inr rfl))) fa_nil)) (len_cons (len_cons len_nil)) rfl))
 (fss_cons (fs_if (ft_not (ft_tru ⟨rfl, rfl⟩ (fe_call (ok__law_is Z TB 8) (hr.mono (by omega)) takes_cx (by rfl) Z.g__law_is Z.F__law_is.kp (bd__law_is Z) .nil (fun _ _ => rfl) (fa_cons (fe_tup (fa_cons (fe_call (ok_cut_groups Z TB) (hr.mono (by omega)) takes_cx (by rfl) Z.g_cut_groups Z.F_cut_groups.kp (bd_cut_groups Z) .nil (fun _ _ => rfl) (fa_cons (fe_var (i := 13) rfl (by first | exact .inl rfl | exact .inr (.inl rfl) | exact .inr (.inr rfl))) fa_nil) (len_cons len_nil) rfl) (fa_cons (fe_callK0 (ok_cut_groups Z TB) (hr.mono (by omega)) takes_cx (by rfl) Z.g_cut_groups Z.F_cut_groups.kp (kbAll (kb_cut_groups Z)) (fk_cons (fe_var (i := 13) rfl (by first | exact .inl rfl | exact .inr (.inl rfl) | exact .inr (.inr rfl))) fk_nil) (len_cons len_nil) rfl) fa_nil))) (fa_cons (fe_tup (fa_cons (fe_callT call_tuple_of (o_tuple ⟨rfl, rfl⟩) (by rfl) Z.f_tuple (by decide +kernel) (fa_cons (fe_var (i := 4) rfl (by first | exact .inl rfl | exact .inr (.inl rfl) | exact .inr (.inr rfl))) fa_nil)) (fa_cons (fe_callT call_tuple_of (o_tuple ⟨rfl, rfl⟩) (by rfl) Z.f_tuple (by decide +kernel) (fa_cons (fe_var (i := 4) rfl (by first | exact .inl rfl | exact .inr (.inl rfl) | exact .inr (.inr rfl))) fa_nil)) fa_nil))) fa_nil)) (len_cons (len_cons len_nil)) rfl))) (fss_cons (fs_ret fe_bl)
 fss_nil) fss_nil)
 (fss_cons (fs_asg (fe_tup (fa_cons (fe_call (ok__law_pick Z TB) (hr.mono (by omega)) takes_cx (by rfl) Z.g__law_pick Z.F__law_pick.kp (bd__law_pick Z) .nil (fun _ _ => rfl) (fa_cons (fe_var (i := 1) rfl (by first | exact .inl rfl | exact .inr (.inl rfl) | exact .inr (.inr rfl))) (fa_cons (fe_lst (fa_cons (fe_str (l := [65]) (by decide +kernel)) (fa_cons (fe_str (l := [43]) (by decide +kernel)) (fa_cons (fe_str (l := [46]) (by decide +kernel)) (fa_cons (fe_str (l := [44]) (by decide +kernel)) (fa_cons (fe_str (l := [40]) (by decide +kernel)) (fa_cons (fe_str (l := [9]) (by decide +kernel)) (fa_cons (fe_str (l := [95]) (by decide +kernel)) (fa_cons (fe_str (l := [58]) (by decide +kernel)) (fa_cons (fe_str (l := [39]) (by decide +kernel)) (fa_cons (fe_str (l := [47]) (by decide +kernel)) fa_nil))))))))))) fa_nil)) (len_cons (len_cons len_nil)) rfl) (fa_cons (fe_call (ok__law_take Z TB) (hr.mono (by omega)) takes_cx (by rfl) Z.g__law_take Z.F__law_take.kp (bd__law_take Z) .nil (fun _ _ => rfl) (fa_cons (fe_var (i := 1) rfl (by first | exact .inl rfl | exact .inr (.inl rfl) | exact .inr (.inr rfl))) (fa_cons (fe_binz (op_addAll ⟨rfl, rfl⟩) o_add (fe_callB call_len (o_len ⟨rfl, rfl⟩) (by rfl) Z.f_len (by decide +kernel) (fa_cons (fe_var (i := 13) rfl (by first | exact .inl rfl | exact .inr (.inl rfl) | exact .inr (.inr rfl))) fa_nil)) fe_int) fa_nil)) (len_cons (len_cons len_nil)) rfl) fa_nil))) (fp_tup ⟨rfl, rfl⟩ rfl (fps_cons (fp_name (i := 12) nd_law rfl (by first | exact .inl rfl | exact .inr rfl)) (fps_cons (fp_name (i := 11) nd_law rfl (by first | exact .inl rfl | exact .inr rfl)) fps_nil))))
 (fss_cons (fs_if (ft_not (ft_tru ⟨rfl, rfl⟩ (fe_call (ok__law_is Z TB 8) (hr.mono (by omega)) takes_cx (by rfl) Z.g__law_is Z.F__law_is.kp (bd__law_is Z) .nil (fun _ _ => rfl) (fa_cons (fe_callC (I := lam_1) (slots := [13, 12, 11]) (fun _ _ => True.intro) (ok__law_error Z TB) (hr.mono (by omega)) takes_cx (by rfl) Z.g__law_error Z.F__law_error.kp (bd__law_error Z) (lamT_cx Z.F_law hcd TB Z.nd (by decide)) rfl rfl (by rfl) (free_by (sc := defScope (top 23)) (by decide +kernel)) cells_cx (fun _ => rfl) (by decide +kernel) (slots_by (N := [("script" : Str), ("box" : Str), ("signs" : Str), ("turn" : Str), ("groups" : Str), ("count" : Str), ("long" : Str), ("letters" : Str), ("figures" : Str), ("some" : Str), ("due" : Str), ("at" : Str), ("odd" : Str), ("text" : Str), ("sign" : Str)]) (by decide +kernel)) rfl (vis_by (sc := defScope (top 23)) (by decide +kernel)) fa_nil len_nil rfl) (fa_cons (fe_tup (fa_cons (fe_str (l := [116, 101, 120, 116]) (by decide +kernel)) (fa_cons (fe_var (i := 11) rfl (by first | exact .inl rfl | exact .inr (.inl rfl) | exact .inr (.inr rfl))) (fa_cons fe_int fa_nil)))) fa_nil)) (len_cons (len_cons len_nil)) rfl))) (fss_cons (fs_ret fe_bl)
 fss_nil) fss_nil)
 fss_nil)))))))
 (fss_cons (fs_set (i := 9) nd_law rfl (by first | exact .inl rfl | exact .inr rfl) (fe_lst (fa_cons (fe_tup (fa_cons (fe_bin (op_mulAll ⟨rfl, rfl⟩) o_mul (fe_str (l := [45, 32]) (by decide +kernel)) fe_int) (fa_cons (fe_tup (fa_cons (fe_str (l := [116, 111, 108, 100]) (by decide +kernel)) fa_nil)) fa_nil))) (fa_cons (fe_tup (fa_cons (fe_bin (op_mulAll ⟨rfl, rfl⟩) o_mul (fe_str (l := [45]) (by decide +kernel)) fe_int) (fa_cons (fe_tup (fa_cons (fe_str (l := [116, 101, 120, 116]) (by decide +kernel)) (fa_cons (fe_un un_neg o_neg fe_int) (fa_cons fe_int fa_nil)))) fa_nil))) (fa_cons (fe_tup (fa_cons (fe_bin (op_mulAll ⟨rfl, rfl⟩) o_mul (fe_str (l := [97]) (by decide +kernel)) fe_int) (fa_cons (fe_tup (fa_cons (fe_str (l := [116, 111, 108, 100]) (by decide +kernel)) fa_nil)) fa_nil))) (fa_cons (fe_tup (fa_cons (fe_bin (op_mulAll ⟨rfl, rfl⟩) o_mul (fe_str (l := [97]) (by decide +kernel)) fe_int) (fa_cons (fe_tup (fa_cons (fe_str (l := [116, 101, 120, 116]) (by decide +kernel)) (fa_cons (fe_un un_neg o_neg fe_int) (fa_cons fe_int fa_nil)))) fa_nil))) fa_nil))))))
 (fss_cons (fs_for passes_cx rfl (fi_it ⟨rfl, rfl⟩ (fe_binz (op_addAll ⟨rfl, rfl⟩) o_add (fe_var (i := 9) rfl (by first | exact .inl rfl | exact .inr (.inl rfl) | exact .inr (.inr rfl))) (fe_lst (fa_cons (fe_tup (fa_cons (fe_binz (op_addAll ⟨rfl, rfl⟩) o_add (fe_bin (op_mulAll ⟨rfl, rfl⟩) o_mul (fe_str (l := [45]) (by decide +kernel)) fe_int) (fe_str (l := [61]) (by decide +kernel))) (fa_cons (fe_tup (fa_cons (fe_str (l := [116, 101, 120, 116]) (by decide +kernel)) (fa_cons fe_int (fa_cons fe_int fa_nil)))) fa_nil))) (fa_cons (fe_tup (fa_cons (fe_bin (op_mulAll ⟨rfl, rfl⟩) o_mul (fe_str (l := [61]) (by decide +kernel)) fe_int) (fa_cons (fe_tup (fa_cons (fe_str (l := [116, 101, 120, 116]) (by decide +kernel)) (fa_cons (fe_un un_neg o_neg fe_int) (fa_cons fe_int fa_nil)))) fa_nil))) fa_nil))))) (fp_tup ⟨rfl, rfl⟩ rfl (fps_cons (fp_name (i := 13) nd_law rfl (by first | exact .inl rfl | exact .inr rfl)) (fps_cons (fp_name (i := 10) nd_law rfl (by first | exact .inl rfl | exact .inr rfl)) fps_nil))) (fss_cons (fs_if (ft_not (ft_tru ⟨rfl, rfl⟩ (fe_call (ok__law_is Z TB 8) (hr.mono (by omega)) takes_cx (by rfl) Z.g__law_is Z.F__law_is.kp (bd__law_is Z) .nil (fun _ _ => rfl) (fa_cons (fe_callC (I := lam_2) (slots := [13]) (fun _ _ => True.intro) (ok__law_error Z TB) (hr.mono (by omega)) takes_cx (by rfl) Z.g__law_error Z.F__law_error.kp (bd__law_error Z) (lamT_cx Z.F_law hcd TB Z.nd (by decide)) rfl rfl (by rfl) (free_by (sc := defScope (top 23)) (by decide +kernel)) cells_cx (fun _ => rfl) (by decide +kernel) (slots_by (N := [("script" : Str), ("box" : Str), ("signs" : Str), ("turn" : Str), ("groups" : Str), ("count" : Str), ("long" : Str), ("letters" : Str), ("figures" : Str), ("some" : Str), ("due" : Str), ("at" : Str), ("odd" : Str), ("text" : Str), ("sign" : Str)]) (by decide +kernel)) rfl (vis_by (sc := defScope (top 23)) (by decide +kernel)) fa_nil len_nil rfl) (fa_cons (fe_var (i := 10) rfl (by first | exact .inl rfl | exact .inr (.inl rfl) | exact .inr (.inr rfl))) fa_nil)) (len_cons (len_cons len_nil)) rfl))) (fss_cons (fs_ret fe_bl)
 fss_nil) fss_nil)
 fss_nil))
 (fss_cons (fs_if (ft_w (fw_or (ft_cmp (op_neA ⟨rfl, rfl⟩ hr) o_ne (fe_callB call_len (o_len ⟨rfl, rfl⟩) (by rfl) Z.f_len (by decide +kernel) (fa_cons (fe_call (ok_cut_groups Z TB) (hr.mono (by omega)) takes_cx (by rfl) Z.g_cut_groups Z.F_cut_groups.kp (bd_cut_groups Z) .nil (fun _ _ => rfl) (fa_cons (fe_bin (op_mulAll ⟨rfl, rfl⟩) o_mul (fe_str (l := [55, 32]) (by decide +kernel)) fe_int) fa_nil) (len_cons len_nil) rfl) fa_nil)) fe_int rfl) (fw_or1 (ft_not (ft_tru ⟨rfl, rfl⟩ (fe_call (ok__law_is Z TB 8) (hr.mono (by omega)) takes_cx (by rfl) Z.g__law_is Z.F__law_is.kp (bd__law_is Z) .nil (fun _ _ => rfl) (fa_cons (fe_call (ok_cut_groups Z TB) (hr.mono (by omega)) takes_cx (by rfl) Z.g_cut_groups Z.F_cut_groups.kp (bd_cut_groups Z) .nil (fun _ _ => rfl) (fa_cons (fe_bin (op_mulAll ⟨rfl, rfl⟩) o_mul (fe_str (l := [97]) (by decide +kernel)) fe_int) fa_nil) (len_cons len_nil) rfl) (fa_cons (fe_tup (fa_cons (fe_bin (op_mulAll ⟨rfl, rfl⟩) o_mul (fe_str (l := [97]) (by decide +kernel)) fe_int) fa_nil)) fa_nil)) (len_cons (len_cons len_nil)) rfl)))))) (fss_cons (fs_ret fe_bl)
 fss_nil) fss_nil)
 (fss_cons (fs_if (ft_not (ft_tru ⟨rfl, rfl⟩ (fe_call (ok__law_all Z TB) (hr.mono (by omega)) takes_cx (by rfl) Z.g__law_all Z.F__law_all.kp (bd__law_all Z) .nil (fun _ _ => rfl) (fa_cons (fe_lam (I := lam_3) (lamT_cx Z.F_law hcd TB Z.nd (by decide)) rfl rfl (by rfl) (by decide +kernel) rfl) (fa_cons (fe_lst (fa_cons fe_non (fa_cons fe_int (fa_cons fe_bl (fa_cons (fe_lst (fa_cons (fe_str (l := [100, 101, 101, 100]) (by decide +kernel)) fa_nil)) (fa_cons (fe_tup (fa_cons (fe_str (l := [112, 108, 97, 99, 101]) (by decide +kernel)) (fa_cons (fe_str (l := [97]) (by decide +kernel)) fa_nil))) fa_nil)))))) (fa_cons (fe_tup (fa_cons (fe_str (l := [116, 101, 120, 116]) (by decide +kernel)) (fa_cons (fe_un un_neg o_neg fe_int) (fa_cons fe_int fa_nil)))) fa_nil))) (len_cons (len_cons (len_cons len_nil))) rfl))) (fss_cons (fs_ret fe_bl)
 fss_nil) fss_nil)
 (fss_cons (fs_ret (fe_call (ok__law_is Z TB 8) (hr.mono (by omega)) takes_cx (by rfl) Z.g__law_is Z.F__law_is.kp (bd__law_is Z) .nil (fun _ _ => rfl) (fa_cons (fe_tup (fa_cons (fe_call (ok_cut_groups Z TB) (hr.mono (by omega)) takes_cx (by rfl) Z.g_cut_groups Z.F_cut_groups.kp (bd_cut_groups Z) .nil (fun _ _ => rfl) (fa_cons (fe_str (l := [100, 101, 101, 100, 32, 117, 112, 49, 45, 49]) (by decide +kernel)) fa_nil) (len_cons len_nil) rfl) (fa_cons (fe_call (ok_cut_groups Z TB) (hr.mono (by omega)) takes_cx (by rfl) Z.g_cut_groups Z.F_cut_groups.kp (bd_cut_groups Z) .nil (fun _ _ => rfl) (fa_cons (fe_str (l := []) (by decide +kernel)) fa_nil) (len_cons len_nil) rfl) (fa_cons (fe_cst ⟨rfl, rfl⟩ (by rfl) Z.c_READINGS) fa_nil)))) (fa_cons (fe_tup (fa_cons (fe_tup (fa_cons (fe_str (l := [100, 101, 101, 100]) (by decide +kernel)) (fa_cons (fe_str (l := [117, 112]) (by decide +kernel)) (fa_cons (fe_str (l := [49]) (by decide +kernel)) (fa_cons (fe_str (l := [45]) (by decide +kernel)) (fa_cons (fe_str (l := [49]) (by decide +kernel)) fa_nil)))))) (fa_cons (fe_tup fa_nil) (fa_cons (fe_tup (fa_cons (fe_str (l := [110, 111, 32, 116, 101, 120, 116]) (by decide +kernel)) (fa_cons (fe_str (l := [110, 111, 32, 115, 117, 99, 104, 32, 115, 105, 103, 110]) (by decide +kernel)) (fa_cons (fe_str (l := [116, 111, 111, 32, 109, 97, 110, 121, 32, 103, 114, 111, 117, 112, 115]) (by decide +kernel)) (fa_cons (fe_str (l := [116, 111, 111, 32, 108, 111, 110, 103]) (by decide +kernel)) (fa_cons (fe_str (l := [110, 111, 116, 32, 116, 104, 105, 115, 32, 104, 101, 114, 101]) (by decide +kernel)) fa_nil)))))) fa_nil)))) fa_nil)) (len_cons (len_cons len_nil)) rfl))
 fss_nil)))))))))
end
end Lw
end
section
set_option Elab.async false
set_option linter.all false
set_option maxRecDepth 100000
set_option maxHeartbeats 0
namespace Lw
open PySem PySem.Spec PyProof.Rows L2 LamX He MP
def fa : List Fa := [.glo "_law_is", .glo "row_end", .glo "group_end", .glo "cut_groups", .glo "_law_error", .glo "_law_all", .glo "_law_take", .glo "_law_pick", .glo "_law_kind", .glo "_law_told", .glo "_law_box", .glo "law", .glo "InvalidDeed", .glo "InvalidPlace", .glo "InvalidText", .free "abs", .free "bool", .free "enumerate", .free "int", .free "isinstance", .free "len", .free "range", .free "str", .free "super", .free "tuple", .free "zip", .noat "InvalidDeed" "at", .noat "InvalidPlace" "at", .noat "InvalidText" "at", .noat "InvalidText" "why", .exm "InvalidDeed" "InvalidDeed" true, .exm "InvalidPlace" "InvalidDeed" false, .exm "InvalidText" "InvalidDeed" false, .exm "InvalidDeed" "InvalidPlace" false, .exm "InvalidPlace" "InvalidPlace" true, .exm "InvalidText" "InvalidPlace" false, .exm "InvalidDeed" "InvalidText" false, .exm "InvalidPlace" "InvalidText" false, .exm "InvalidText" "InvalidText" true]
def d__law_is : DefD := ⟨("_law_is", none), "_law_is", "_law_is", defArgs (top 18), defBody (top 18), defScope (top 18), [], []⟩
def d_row_end : DefD := ⟨("row_end", none), "row_end", "row_end", defArgs (top 11), defBody (top 11), defScope (top 11), [], []⟩
def d_group_end : DefD := ⟨("group_end", none), "group_end", "group_end", defArgs (top 12), defBody (top 12), defScope (top 12), [], []⟩
def d_cut_groups : DefD := ⟨("cut_groups", none), "cut_groups", "cut_groups", defArgs (top 13), defBody (top 13), defScope (top 13), [], []⟩
def d__law_error : DefD := ⟨("_law_error", none), "_law_error", "_law_error", defArgs (top 20), defBody (top 20), defScope (top 20), [], []⟩
def d__law_all : DefD := ⟨("_law_all", none), "_law_all", "_law_all", defArgs (top 19), defBody (top 19), defScope (top 19), [], []⟩
def d__law_take : DefD := ⟨("_law_take", none), "_law_take", "_law_take", defArgs (top 16), defBody (top 16), defScope (top 16), [], []⟩
def d__law_pick : DefD := ⟨("_law_pick", none), "_law_pick", "_law_pick", defArgs (top 17), defBody (top 17), defScope (top 17), [], []⟩
def d__law_kind : DefD := ⟨("_law_kind", none), "_law_kind", "_law_kind", defArgs (top 21), defBody (top 21), defScope (top 21), [], []⟩
def d__law_told : DefD := ⟨("_law_told", none), "_law_told", "_law_told", defArgs (top 22), defBody (top 22), defScope (top 22), [], []⟩
def d__law_box : DefD := ⟨("_law_box", none), "_law_box", "_law_box", defArgs (top 15), defBody (top 15), defScope (top 15), [], []⟩
def d_law : DefD := ⟨("law", none), "law", "law", defArgs (top 23), defBody (top 23), defScope (top 23), [], []⟩
def fn : List DefD := [d__law_is, d_row_end, d_group_end, d_cut_groups, d__law_error, d__law_all, d__law_take, d__law_pick, d__law_kind, d__law_told, d__law_box, d_law]
def ini : List IniD := [ini_InvalidDeed, ini_InvalidPlace, ini_InvalidText]
def tf : List Defn := TF.map fun f => (f, none)
def csts : List (Str × D) := [("FIGURES", .str [48, 49, 50, 51, 52, 53, 54, 55, 56, 57]), ("LETTERS", .str [97, 98, 99, 100, 101, 102, 103, 104, 105, 106, 107, 108, 109, 110, 111, 112, 113, 114, 115, 116, 117, 118, 119, 120, 121, 122]), ("MOST_GROUPS", .int 4000), ("MOST_TEXT", .int 60000), ("READINGS", .tup [.str [110, 111, 32, 116, 101, 120, 116], .str [110, 111, 32, 115, 117, 99, 104, 32, 115, 105, 103, 110], .str [116, 111, 111, 32, 109, 97, 110, 121, 32, 103, 114, 111, 117, 112, 115], .str [116, 111, 111, 32, 108, 111, 110, 103], .str [110, 111, 116, 32, 116, 104, 105, 115, 32, 104, 101, 114, 101]])]
def ex (K : PySem.W.Frag) : Bool := csts.all (cstB K) && (ini.all (iniB PP.main.file K) && decide (TF.map fun f => (cT K (f, none)).2).Nodup)
abbrev R : PySem.W.OpenRow := PySem.W.OpenLaw.row RW
abbrev hk : PySem.W.Hook := hookM 6 fa fn ini tf ex
def ob (s : PySem.W.SharedT) : AlM := obsM 6 fa fn ini tf ex (HandSHeadRun.getT s)
theorem ob_eq (s : PySem.W.SharedT) : ob s = hk.obs s.abs := obsM_eq (HandSHeadRun.getT_eq s)
def loose : List Str := [("row_end" : Str), ("group_end" : Str), ("cut_groups" : Str), ("_law_box" : Str), ("_law_take" : Str), ("_law_pick" : Str), ("_law_is" : Str), ("_law_all" : Str), ("_law_error" : Str), ("_law_kind" : Str), ("_law_told" : Str), ("LedError" : Str), ("InvalidText" : Str), ("InvalidPlace" : Str), ("InvalidDeed" : Str), ("MOST_TEXT" : Str), ("MOST_GROUPS" : Str), ("LETTERS" : Str), ("FIGURES" : Str), ("READINGS" : Str)]
theorem run (w : World) : HandSHeadRun.RunEq R (PySem.W.view R.prog [23]) hk ob 4000 loose w := by
  intro os
  kernel_rfl
theorem facts {K : PySem.W.Frag} {h : Heap} {mg : Str → Option Value} (X : K.In h) (G : h.Ns mainGlobals mg) (c : SaysM fa fn ini tf ex h K) : Nonempty (Fs K mg) := by
  obtain ⟨m1, m2⟩ := ba c.more
  obtain ⟨m2, m3⟩ := ba m2
  obtain ⟨fd__law_is, F__law_is⟩ := c.d.def_ 0 (d := d__law_is) rfl
  obtain ⟨fd_row_end, F_row_end⟩ := c.d.def_ 1 (d := d_row_end) rfl
  obtain ⟨fd_group_end, F_group_end⟩ := c.d.def_ 2 (d := d_group_end) rfl
  obtain ⟨fd_cut_groups, F_cut_groups⟩ := c.d.def_ 3 (d := d_cut_groups) rfl
  obtain ⟨fd__law_error, F__law_error⟩ := c.d.def_ 4 (d := d__law_error) rfl
  obtain ⟨fd__law_all, F__law_all⟩ := c.d.def_ 5 (d := d__law_all) rfl
  obtain ⟨fd__law_take, F__law_take⟩ := c.d.def_ 6 (d := d__law_take) rfl
  obtain ⟨fd__law_pick, F__law_pick⟩ := c.d.def_ 7 (d := d__law_pick) rfl
  obtain ⟨fd__law_kind, F__law_kind⟩ := c.d.def_ 8 (d := d__law_kind) rfl
  obtain ⟨fd__law_told, F__law_told⟩ := c.d.def_ 9 (d := d__law_told) rfl
  obtain ⟨fd__law_box, F__law_box⟩ := c.d.def_ 10 (d := d__law_box) rfl
  obtain ⟨fd_law, F_law⟩ := c.d.def_ 11 (d := d_law) rfl
  exact ⟨{
    fd__law_is := fd__law_is
    F__law_is := F__law_is
    fd_row_end := fd_row_end
    F_row_end := F_row_end
    fd_group_end := fd_group_end
    F_group_end := F_group_end
    fd_cut_groups := fd_cut_groups
    F_cut_groups := F_cut_groups
    fd__law_error := fd__law_error
    F__law_error := F__law_error
    fd__law_all := fd__law_all
    F__law_all := F__law_all
    fd__law_take := fd__law_take
    F__law_take := F__law_take
    fd__law_pick := fd__law_pick
    F__law_pick := F__law_pick
    fd__law_kind := fd__law_kind
    F__law_kind := F__law_kind
    fd__law_told := fd__law_told
    F__law_told := F__law_told
    fd__law_box := fd__law_box
    F__law_box := F__law_box
    fd_law := fd_law
    F_law := F_law
    g__law_is := glo_ok X G (c.d.fact 0 (f := .glo "_law_is") rfl)
    g_row_end := glo_ok X G (c.d.fact 1 (f := .glo "row_end") rfl)
    g_group_end := glo_ok X G (c.d.fact 2 (f := .glo "group_end") rfl)
    g_cut_groups := glo_ok X G (c.d.fact 3 (f := .glo "cut_groups") rfl)
    g__law_error := glo_ok X G (c.d.fact 4 (f := .glo "_law_error") rfl)
    g__law_all := glo_ok X G (c.d.fact 5 (f := .glo "_law_all") rfl)
    g__law_take := glo_ok X G (c.d.fact 6 (f := .glo "_law_take") rfl)
    g__law_pick := glo_ok X G (c.d.fact 7 (f := .glo "_law_pick") rfl)
    g__law_kind := glo_ok X G (c.d.fact 8 (f := .glo "_law_kind") rfl)
    g__law_told := glo_ok X G (c.d.fact 9 (f := .glo "_law_told") rfl)
    g__law_box := glo_ok X G (c.d.fact 10 (f := .glo "_law_box") rfl)
    g_law := glo_ok X G (c.d.fact 11 (f := .glo "law") rfl)
    g_InvalidDeed := glo_ok X G (c.d.fact 12 (f := .glo "InvalidDeed") rfl)
    g_InvalidPlace := glo_ok X G (c.d.fact 13 (f := .glo "InvalidPlace") rfl)
    g_InvalidText := glo_ok X G (c.d.fact 14 (f := .glo "InvalidText") rfl)
    f_abs := free_ok X G (c.d.fact 15 (f := .free "abs") rfl)
    f_bool := free_ok X G (c.d.fact 16 (f := .free "bool") rfl)
    f_enumerate := free_ok X G (c.d.fact 17 (f := .free "enumerate") rfl)
    f_int := free_ok X G (c.d.fact 18 (f := .free "int") rfl)
    f_isinstance := free_ok X G (c.d.fact 19 (f := .free "isinstance") rfl)
    f_len := free_ok X G (c.d.fact 20 (f := .free "len") rfl)
    f_range := free_ok X G (c.d.fact 21 (f := .free "range") rfl)
    f_str := free_ok X G (c.d.fact 22 (f := .free "str") rfl)
    f_super := free_ok X G (c.d.fact 23 (f := .free "super") rfl)
    f_tuple := free_ok X G (c.d.fact 24 (f := .free "tuple") rfl)
    f_zip := free_ok X G (c.d.fact 25 (f := .free "zip") rfl)
    n_InvalidDeed_at := noat_ok (c.d.fact 26 (f := .noat "InvalidDeed" "at") rfl)
    n_InvalidPlace_at := noat_ok (c.d.fact 27 (f := .noat "InvalidPlace" "at") rfl)
    n_InvalidText_at := noat_ok (c.d.fact 28 (f := .noat "InvalidText" "at") rfl)
    n_InvalidText_why := noat_ok (c.d.fact 29 (f := .noat "InvalidText" "why") rfl)
    e_InvalidDeed_InvalidDeed := exm_ok (c.d.fact 30 (f := .exm "InvalidDeed" "InvalidDeed" true) rfl)
    e_InvalidPlace_InvalidDeed := exm_ok (c.d.fact 31 (f := .exm "InvalidPlace" "InvalidDeed" false) rfl)
    e_InvalidText_InvalidDeed := exm_ok (c.d.fact 32 (f := .exm "InvalidText" "InvalidDeed" false) rfl)
    e_InvalidDeed_InvalidPlace := exm_ok (c.d.fact 33 (f := .exm "InvalidDeed" "InvalidPlace" false) rfl)
    e_InvalidPlace_InvalidPlace := exm_ok (c.d.fact 34 (f := .exm "InvalidPlace" "InvalidPlace" true) rfl)
    e_InvalidText_InvalidPlace := exm_ok (c.d.fact 35 (f := .exm "InvalidText" "InvalidPlace" false) rfl)
    e_InvalidDeed_InvalidText := exm_ok (c.d.fact 36 (f := .exm "InvalidDeed" "InvalidText" false) rfl)
    e_InvalidPlace_InvalidText := exm_ok (c.d.fact 37 (f := .exm "InvalidPlace" "InvalidText" false) rfl)
    e_InvalidText_InvalidText := exm_ok (c.d.fact 38 (f := .exm "InvalidText" "InvalidText" true) rfl)
    c_FIGURES := cstB_ok X G (List.all_eq_true.mp m1 _ (by simp [csts]))
    c_LETTERS := cstB_ok X G (List.all_eq_true.mp m1 _ (by simp [csts]))
    c_MOST_GROUPS := cstB_ok X G (List.all_eq_true.mp m1 _ (by simp [csts]))
    c_MOST_TEXT := cstB_ok X G (List.all_eq_true.mp m1 _ (by simp [csts]))
    c_READINGS := cstB_ok X G (List.all_eq_true.mp m1 _ (by simp [csts]))
    X_InvalidDeed := iniB_ok (P := PP) (List.all_eq_true.mp m2 ini_InvalidDeed (by simp [ini])) (c.init 0 (d := ini_InvalidDeed) rfl) rfl
    X_InvalidPlace := iniB_ok (P := PP) (List.all_eq_true.mp m2 ini_InvalidPlace (by simp [ini])) (c.init 1 (d := ini_InvalidPlace) rfl) rfl
    X_InvalidText := iniB_ok (P := PP) (List.all_eq_true.mp m2 ini_InvalidText (by simp [ini])) (c.init 2 (d := ini_InvalidText) rfl) rfl
    nd := of_decide_eq_true m3 }⟩
end Lw
end
section
set_option Elab.async false
set_option linter.all false
set_option maxRecDepth 100000
set_option maxHeartbeats 0
namespace Lw
open PySem PySem.Spec PyProof.Rows L2 LamX He MP
/-- the plain law -/
def Plain : Prop := ∀ ns : List Int, ns.length ≤ 63 → (∀ z ∈ ns, Builtin.Int.intBits z ≤ 1048576) → ∃ h, m_law [.lst (ns.map D.int)] [] = .ok (.bl true) h
end Lw
open PySem PySem.W PySem.Calls PyProof.Rows
theorem Lw.holds (pl : Lw.Plain) : PySem.Challenge.rw_twoled_k01_whole_texts_cut_into_groups.Holds := by
  w_on; o_law
  refine HandSHeadRun.head_any (r := OpenLaw.row PySem.Challenge.rw_twoled_k01_whole_texts_cut_into_groups) (q := view (OpenLaw.row PySem.Challenge.rw_twoled_k01_whole_texts_cut_into_groups).prog [23]) (H := Lw.hk) (ob := Lw.ob) (M := 4000) (loose := Lw.loose) (d := HandSHeadRun.topDef (OpenLaw.row PySem.Challenge.rw_twoled_k01_whole_texts_cut_into_groups).prog 23) (kwd := []) Lw.ob_eq
    (by kernel_rfl) (fun s => by kernel_rfl) Lw.run (by kernel_rfl) (by kernel_rfl) (by kernel_rfl) (by rfl) (by first | assumption | decide +kernel) (by decide +kernel) ⟨rfl, rfl, rfl, rfl, rfl, by decide +kernel⟩ ?hw ?hc
  case hw => w_witness2
  case hc =>
    refine MP.walk_ofM (l := PySem.Challenge.rw_twoled_k01_whole_texts_cut_into_groups) (n := 63) (k := 10) (x := "script") (CX := fun w => L2.CX PySem.Challenge.rw_twoled_k01_whole_texts_cut_into_groups.prog w) rfl (by decide) (by kernel_rfl) ⟨rfl, by decide, by decide⟩ ?F (fun w H s e s' z => by obtain ⟨_, _, _, _, _, _, _, _, _, _, _, _, q⟩ := z; exact q)
    intro w mg fa h Y G hmg0
    obtain ⟨K, KX, c⟩ := Y
    have hmg : mg ("law" : PySem.Str) = some (.ref fa) := by
      have e : (HandSHeadRun.topDef (OpenLaw.row PySem.Challenge.rw_twoled_k01_whole_texts_cut_into_groups).prog 23).name = ("law" : PySem.Str) := by kernel_rfl
      rw [← e]
      exact hmg0
    obtain ⟨Z⟩ := Lw.facts KX G c
    have e := hmg.symm.trans Z.g_law
    cases e
    exact ⟨K, KX, MP.lawAt_of (l := PySem.Challenge.rw_twoled_k01_whole_texts_cut_into_groups) (tf := Lw.TF) (lam := Lw.lamTab) (m := Lw.m_law) (fd := Z.fd_law) KX c (fun s u => Z.F_law.bindsA (ps := ["script"]) (fun _ _ _ _ _ _ us hl => match us, hl with | [_], _ => rfl) s [u] rfl) (fun base TB => Lw.ok_law Z TB) pl⟩
end
section
set_option Elab.async false
set_option linter.all false
set_option maxRecDepth 100000
set_option maxHeartbeats 2000000
/-! the groups of a text, in plain Lean -/
namespace Gk
open MP
abbrev Lts : List Nat := [97, 98, 99, 100, 101, 102, 103, 104, 105, 106, 107, 108, 109, 110, 111, 112, 113, 114, 115, 116, 117, 118, 119, 120, 121, 122]
abbrev Fgs : List Nat := [48, 49, 50, 51, 52, 53, 54, 55, 56, 57]
def isL (c : Nat) : Prop := 97 ≤ c ∧ c ≤ 122
def isF (c : Nat) : Prop := 48 ≤ c ∧ c ≤ 57
def isG (c : Nat) : Prop := c = 32 ∨ c = 10
instance (c : Nat) : Decidable (isL c) := by unfold isL; infer_instance
instance (c : Nat) : Decidable (isF c) := by unfold isF; infer_instance
instance (c : Nat) : Decidable (isG c) := by unfold isG; infer_instance
theorem memL {c : Nat} : c ∈ Lts ↔ isL c := by unfold isL; simp only [List.mem_cons, List.not_mem_nil, or_false]; omega
theorem memF {c : Nat} : c ∈ Fgs ↔ isF c := by unfold isF; simp only [List.mem_cons, List.not_mem_nil, or_false]; omega
theorem memG {c : Nat} : c ∈ [32, 10] ↔ isG c := by unfold isG; simp only [List.mem_cons, List.not_mem_nil, or_false]
def okC (c : Nat) : Prop := isL c ∨ isF c ∨ c = 45 ∨ isG c
theorem memO {c : Nat} : c ∈ [45, 32, 10] ↔ c = 45 ∨ isG c := by unfold isG; simp only [List.mem_cons, List.not_mem_nil, or_false]
/-- the groups of a text -/
inductive Tok : List Nat → List (List Nat) → Prop
  | nil : Tok [] []
  | gap {c r gs} : isG c → Tok r gs → Tok (c :: r) gs
  | let_ {w r gs} : w ≠ [] → (∀ c ∈ w, isL c) → (∀ c ∈ r.head?, ¬ isL c) → Tok r gs → Tok (w ++ r) (w :: gs)
  | fig {w r gs} : w ≠ [] → (∀ c ∈ w, isF c) → (∀ c ∈ r.head?, ¬ isF c) → Tok r gs → Tok (w ++ r) (w :: gs)
  | dash {r gs} : Tok r gs → Tok (45 :: r) ([45] :: gs)
theorem Tok.ok {l : List Nat} {gs : List (List Nat)} (t : Tok l gs) : ∀ c ∈ l, okC c := by
  induction t with
  | nil => intro c m; cases m
  | gap h _ ih => intro c m; rcases List.mem_cons.mp m with rfl | m; exact .inr (.inr (.inr h)); exact ih c m
  | let_ _ h _ _ ih => intro c m; rcases List.mem_append.mp m with m | m; exact .inl (h c m); exact ih c m
  | fig _ h _ _ ih => intro c m; rcases List.mem_append.mp m with m | m; exact .inr (.inl (h c m)); exact ih c m
  | dash _ ih => intro c m; rcases List.mem_cons.mp m with rfl | m; exact .inr (.inr (.inl rfl)); exact ih c m
theorem Tok.len {l : List Nat} {gs : List (List Nat)} (t : Tok l gs) : gs.length ≤ l.length := by
  induction t with
  | nil => exact Nat.le_refl _
  | gap h _ ih => simp; omega
  | @let_ w r gs hne h _ _ ih => simp; have := List.length_pos_iff.mpr hne; omega
  | @fig w r gs hne h _ _ ih => simp; have := List.length_pos_iff.mpr hne; omega
  | dash _ ih => simp; omega
/-- two texts may stand one behind the other -/
def Bd (a b : List Nat) : Prop := ∀ x ∈ a.getLast?, ∀ y ∈ b.head?, ¬ (isL x ∧ isL y) ∧ ¬ (isF x ∧ isF y)
theorem head_app {r b : List Nat} {p : Nat → Prop} (h1 : ∀ c ∈ r.head?, ¬ p c) (h2 : r = [] → ∀ c ∈ b.head?, ¬ p c) : ∀ c ∈ (r ++ b).head?, ¬ p c := by
  cases r with
  | nil => exact h2 rfl
  | cons x r => exact h1
theorem Tok.app {a b : List Nat} {gs hs : List (List Nat)} (t : Tok a gs) (u : Tok b hs) (bd : Bd a b) : Tok (a ++ b) (gs ++ hs) := by
  induction t with
  | nil => exact u
  | @gap c r gs h t ih =>
    refine .gap h (ih fun x hx y hy => bd x ?_ y hy)
    cases r with
    | nil => cases hx
    | cons d r => simpa [List.getLast?_cons_cons] using hx
  | @let_ w r gs hne h hr t ih =>
    rw [List.append_assoc]
    refine .let_ hne h (head_app hr fun e c hc z => ?_) (ih fun x hx y hy => bd x ?_ y hy)
    · subst e
      obtain ⟨x, hx⟩ : ∃ x, w.getLast? = some x := by
        cases e : w.getLast? with
        | none => exact absurd (List.getLast?_eq_none_iff.mp e) hne
        | some x => exact ⟨x, rfl⟩
      exact (bd x (by rw [List.append_nil]; exact hx) c hc).1 ⟨h x (List.mem_of_getLast? hx), z⟩
    · rw [List.getLast?_append]; rw [hx]; rfl
  | @fig w r gs hne h hr t ih =>
    rw [List.append_assoc]
    refine .fig hne h (head_app hr fun e c hc z => ?_) (ih fun x hx y hy => bd x ?_ y hy)
    · subst e
      obtain ⟨x, hx⟩ : ∃ x, w.getLast? = some x := by
        cases e : w.getLast? with
        | none => exact absurd (List.getLast?_eq_none_iff.mp e) hne
        | some x => exact ⟨x, rfl⟩
      exact (bd x (by rw [List.append_nil]; exact hx) c hc).2 ⟨h x (List.mem_of_getLast? hx), z⟩
    · rw [List.getLast?_append]; rw [hx]; rfl
  | @dash r gs t ih =>
    refine .dash (ih fun x hx y hy => bd x ?_ y hy)
    cases r with
    | nil => cases hx
    | cons d r => simpa [List.getLast?_cons_cons] using hx
/-- a gap -/
def Gap (s : List Nat) : Prop := ∀ c ∈ s, isG c
theorem Gap.tok : ∀ {s : List Nat}, Gap s → Tok s []
  | [], _ => .nil
  | c :: s, h => .gap (h c List.mem_cons_self) (Gap.tok fun d m => h d (List.mem_cons_of_mem _ m))
theorem notLF {c : Nat} (h : isG c) : ¬ isL c ∧ ¬ isF c := by unfold isG at h; unfold isL isF; omega
theorem Gap.bdR {s a : List Nat} (h : Gap s) : Bd a s := fun x _ y hy => by
  have := notLF (h y (List.mem_of_mem_head? hy))
  exact ⟨fun z => this.1 z.2, fun z => this.2 z.2⟩
theorem Gap.bdL {s a : List Nat} (h : Gap s) : Bd s a := fun x hx y _ => by
  have := notLF (h x (List.mem_of_getLast? hx))
  exact ⟨fun z => this.1 z.1, fun z => this.2 z.1⟩
/-- a group of a kind: 0 letters, 1 figures, 2 the sign -/
def Grp (k : Nat) (g : List Nat) : Prop := match k with
  | 0 => g ≠ [] ∧ ∀ c ∈ g, isL c
  | 1 => g ≠ [] ∧ ∀ c ∈ g, isF c
  | _ => g = [45]
theorem Grp.tok : ∀ {k : Nat} {g : List Nat}, Grp k g → Tok g [g]
  | 0, g, h => by have := Tok.let_ (r := []) h.1 h.2 (fun _ m => by cases m) .nil; rwa [List.append_nil] at this
  | 1, g, h => by have := Tok.fig (r := []) h.1 h.2 (fun _ m => by cases m) .nil; rwa [List.append_nil] at this
  | _ + 2, g, h => by cases (show g = [45] from h); exact .dash .nil
theorem Grp.ne : ∀ {k : Nat} {g : List Nat}, Grp k g → g ≠ []
  | 0, _, h => h.1
  | 1, _, h => h.1
  | _ + 2, _, h => by rw [show _ = [45] from h]; exact List.cons_ne_nil _ _
def kdOf (c : Nat) : Nat := if isL c then 0 else if isF c then 1 else 2
theorem Grp.kind : ∀ {k : Nat} {g : List Nat} {c : Nat}, k ≤ 2 → Grp k g → c ∈ g → kdOf c = k
  | 0, _, c, _, h, m => by unfold kdOf; rw [if_pos (h.2 c m)]
  | 1, _, c, _, h, m => by
    have := h.2 c m
    unfold kdOf; rw [if_neg (by unfold isF at this; unfold isL; omega), if_pos this]
  | 2, g, c, _, h, m => by
    rw [show g = [45] from h] at m
    rw [List.mem_singleton.mp m]; rfl
theorem bd_kind {a b : List Nat} (h : ∀ x ∈ a.getLast?, ∀ y ∈ b.head?, kdOf x ≠ kdOf y ∨ kdOf y = 2) : Bd a b := fun x hx y hy => by
  have := h x hx y hy
  refine ⟨fun z => ?_, fun z => ?_⟩
  · unfold kdOf at this; rw [if_pos z.1, if_pos z.2] at this; omega
  · have e : ∀ c, isF c → kdOf c = 1 := fun c hc => by unfold kdOf; rw [if_neg (by unfold isF at hc; unfold isL; omega), if_pos hc]
    rw [e x z.1, e y z.2] at this; omega
theorem Tok.inv {l : List Nat} {gs : List (List Nat)} (t : Tok l gs) : (l = [] ∧ gs = []) ∨ (∃ c r, isG c ∧ l = c :: r ∧ Tok r gs) ∨
    ∃ k c w r gs', k ≤ 2 ∧ Grp k (c :: w) ∧ (k < 2 → ∀ d ∈ r.head?, kdOf d ≠ k) ∧ Tok r gs' ∧ l = c :: (w ++ r) ∧ gs = (c :: w) :: gs' ∧ ¬ isG c := by
  cases t with
  | nil => exact .inl ⟨rfl, rfl⟩
  | @gap c r _ h t => exact .inr (.inl ⟨c, r, h, rfl, t⟩)
  | @let_ w r gs' hne hw hr t =>
    cases w with
    | nil => exact absurd rfl hne
    | cons c w =>
      refine .inr (.inr ⟨0, c, w, r, gs', by omega, ⟨hne, hw⟩, fun _ d m z => hr d m ?_, t, rfl, rfl, fun z => (notLF z).1 (hw c (by simp))⟩)
      unfold kdOf at z; split at z
      · assumption
      · split at z <;> omega
  | @fig w r gs' hne hw hr t =>
    cases w with
    | nil => exact absurd rfl hne
    | cons c w =>
      refine .inr (.inr ⟨1, c, w, r, gs', by omega, ⟨hne, hw⟩, fun _ d m z => hr d m ?_, t, rfl, rfl, fun z => (notLF z).2 (hw c (by simp))⟩)
      unfold kdOf at z; split at z
      · omega
      · split at z
        · assumption
        · omega
  | @dash r gs' t => exact .inr (.inr ⟨2, 45, [], r, gs', by omega, rfl, fun z => absurd z (by omega), t, rfl, rfl, by decide⟩)
theorem tok_dash : ∀ n : Nat, Tok (List.replicate n 45) (List.replicate n [45])
  | 0 => .nil
  | n + 1 => .dash (tok_dash n)
theorem tok_rep {w s : List Nat} {k : Nat} (hk : Grp k w) (hs : Gap s) (hn : s ≠ []) : ∀ n : Nat, Tok (repS n (w ++ s)) (List.replicate n w)
  | 0 => .nil
  | n + 1 => by
    have e : repS (n + 1) (w ++ s) = w ++ (s ++ repS n (w ++ s)) := by
      unfold repS; rw [List.replicate_succ, List.flatten_cons, List.append_assoc]
    rw [e, List.replicate_succ]
    have t1 := (Gap.tok hs).app (tok_rep hk hs hn n) hs.bdL
    refine hk.tok.app (gs := [w]) t1 ?_
    cases s with
    | nil => exact absurd rfl hn
    | cons c s =>
      intro x _ y hy
      cases hy
      have := notLF (hs c List.mem_cons_self)
      exact ⟨fun z => this.1 z.2, fun z => this.2 z.2⟩
theorem rep_one (n c : Nat) : repS n [c] = List.replicate n c := by
  unfold repS
  induction n with
  | zero => rfl
  | succ n ih => rw [List.replicate_succ, List.flatten_cons, ih]; rfl
end Gk
end
section
set_option Elab.async false
set_option linter.all false
set_option maxRecDepth 100000
set_option maxHeartbeats 2000000
namespace Lw
open PySem PySem.Spec PyProof.Rows L2 LamX He MP Gk
theorem at_done {α : Type} {done r : List α} {c : α} : atI (done ++ c :: r) (done.length : Int) = some c := by
  rw [MP.atI_nat, List.getElem?_append_right (Nat.le_refl _), Nat.sub_self]; rfl
theorem row_end_ok {done w r sg : List Nat} {h : List MO} {P : D → List MO → Prop} {X : Ex → List MO → Prop} (hl : (done ++ (w ++ r)).length ≤ 60000) (hw : ∀ c ∈ w, c ∈ sg) (hr : ∀ c ∈ r.head?, c ∉ sg)
    (q : P (.int ((done.length + w.length : Nat) : Int)) h) : OkX (m_row_end [.str (done ++ (w ++ r)), .int done.length, .str sg] h) P X := by
  unfold m_row_end; rw [w_run]; unfold b_row_end
  simp (dsimp := false) only [↓Kp_app, ↓w_seq, ↓w_sNil, ↓w_set, ↓w_ret, ↓w_retN, ↓w_sIf, ↓w_expr, ↓w_par, ↓w_par3, ↓w_asg, ↓w_aug, ↓w_sub, ↓w_for, ↓w_raise, ↓w_break, ↓w_cont, ↓w_op2, ↓w_op1, ↓w_cb, ↓w_c, ↓w_var, ↓w_nil, ↓w_cons, ↓w_tup, ↓w_lst, ↓w_new, ↓w_if, ↓w_test, ↓w_tru, ↓w_not, ↓w_and, ↓w_or, ↓w_andV, ↓w_orV, ↓w_notV, ↓w_chain, ↓w_call, ↓w_callK, ↓w_sl, ↓w_part0, ↓w_part1, ↓w_isi, ↓w_join, ↓w_mt, ↓w_lc, ↓w_lcN, ↓w_lcA, ↓w_it, ↓w_range1, ↓w_range2, ↓w_enum, ↓w_enumS, ↓w_zip,   OkX_ok, OkX_err, OkX_stuck, OkX_guard, o_addS, o_addT, o_addLL, o_addRL, o_addII, o_subI, o_mulI, o_mulS, o_fdivI, o_modI, o_powI, o_negI, o_ltI, o_leI, o_gtI, o_geI, o_ltS, o_leS, o_gtS, o_geS, o_eqI, o_eqS, o_neI, o_neS, o_isD, o_isnotD, o_inS, o_ixS, o_ixT, o_ixL, o_ixR, o_slS, o_slT, o_slL, o_slR, o_lenS, o_lenT, o_lenL, o_lenR, o_absI, o_intI, o_intB, o_tupT, o_tupL, o_tupR, o_maxI, o_minI,   List.set_cons_zero, List.set_cons_succ, List.getElem?_cons_zero, List.getElem?_cons_succ, List.map_cons, List.map_nil, List.length_cons, List.length_nil, List.replicate_succ, List.replicate_zero, List.cons_append, List.nil_append, Nat.reduceSub, Nat.reduceAdd, Nat.reduceLeDiff, exists_eq_left', D.bl.injEq, D.int.injEq, D.str.injEq, D.ref.injEq, D.tup.injEq, true_and, and_true, if_true, if_false, Bool.false_eq_true, Bool.not_true, Bool.not_false, decide_true, decide_false, bindP, bindPs, isK, atI_0, atI_1, atI_2, atI_3, ixN_0, ixN_1, Nat.zero_add, LINE, Nat.zero_le, truD, wipeD, Option.some.injEq]
  refine w_loopW (fun k ρ h' => ∃ w1 w2, w = w1 ++ w2 ∧ ρ = [some (.str (done ++ (w ++ r))), some (.int ((done.length + w1.length : Nat) : Int)), some (.str sg)] ∧ k = w2.length ∧ h' = h) (fun k ρ h' i => ?_) 100000 w.length _ _ (by simp at hl; omega) ⟨[], w, rfl, rfl, rfl, rfl⟩
  obtain ⟨w1, w2, rfl, rfl, rfl, rfl⟩ := i
  simp (dsimp := false) only [↓Kp_app, ↓w_seq, ↓w_sNil, ↓w_set, ↓w_ret, ↓w_retN, ↓w_sIf, ↓w_expr, ↓w_par, ↓w_par3, ↓w_asg, ↓w_aug, ↓w_sub, ↓w_for, ↓w_raise, ↓w_break, ↓w_cont, ↓w_op2, ↓w_op1, ↓w_cb, ↓w_c, ↓w_var, ↓w_nil, ↓w_cons, ↓w_tup, ↓w_lst, ↓w_new, ↓w_if, ↓w_test, ↓w_tru, ↓w_not, ↓w_and, ↓w_or, ↓w_andV, ↓w_orV, ↓w_notV, ↓w_chain, ↓w_call, ↓w_callK, ↓w_sl, ↓w_part0, ↓w_part1, ↓w_isi, ↓w_join, ↓w_mt, ↓w_lc, ↓w_lcN, ↓w_lcA, ↓w_it, ↓w_range1, ↓w_range2, ↓w_enum, ↓w_enumS, ↓w_zip,   OkX_ok, OkX_err, OkX_stuck, OkX_guard, o_addS, o_addT, o_addLL, o_addRL, o_addII, o_subI, o_mulI, o_mulS, o_fdivI, o_modI, o_powI, o_negI, o_ltI, o_leI, o_gtI, o_geI, o_ltS, o_leS, o_gtS, o_geS, o_eqI, o_eqS, o_neI, o_neS, o_isD, o_isnotD, o_inS, o_ixS, o_ixT, o_ixL, o_ixR, o_slS, o_slT, o_slL, o_slR, o_lenS, o_lenT, o_lenL, o_lenR, o_absI, o_intI, o_intB, o_tupT, o_tupL, o_tupR, o_maxI, o_minI,   List.set_cons_zero, List.set_cons_succ, List.getElem?_cons_zero, List.getElem?_cons_succ, List.map_cons, List.map_nil, List.length_cons, List.length_nil, List.replicate_succ, List.replicate_zero, List.cons_append, List.nil_append, Nat.reduceSub, Nat.reduceAdd, Nat.reduceLeDiff, exists_eq_left', D.bl.injEq, D.int.injEq, D.str.injEq, D.ref.injEq, D.tup.injEq, true_and, and_true, if_true, if_false, Bool.false_eq_true, Bool.not_true, Bool.not_false, decide_true, decide_false, bindP, bindPs, isK, atI_0, atI_1, atI_2, atI_3, ixN_0, ixN_1, Nat.zero_add, LINE, Nat.zero_le, truD, wipeD, Option.some.injEq]
  have hl2 : (done ++ (w1 ++ w2 ++ r)).length = done.length + w1.length + (w2.length + r.length) := by simp; omega
  refine ⟨by omega, ?_⟩
  cases w2 with
  | cons c w2 =>
    have e : done ++ (w1 ++ c :: w2 ++ r) = (done ++ w1) ++ c :: (w2 ++ r) := by simp
    have el : ((done.length + w1.length : Nat) : Int) = ((done ++ w1).length : Int) := by simp
    have e1 : decide (((done.length + w1.length : Nat) : Int) < ((done ++ (w1 ++ c :: w2 ++ r)).length : Int)) = true := by rw [decide_eq_true_eq, hl2]; simp; omega
    rw [e1]
    have hc : c ∈ sg := hw c (by simp)
    have e2 : atI (done ++ (w1 ++ c :: w2 ++ r)) ((done.length + w1.length : Nat) : Int) = some c := by rw [e, el]; exact at_done
    simp (dsimp := false) only [e2, hc, ↓Kp_app, ↓w_seq, ↓w_sNil, ↓w_set, ↓w_ret, ↓w_retN, ↓w_sIf, ↓w_expr, ↓w_par, ↓w_par3, ↓w_asg, ↓w_aug, ↓w_sub, ↓w_for, ↓w_raise, ↓w_break, ↓w_cont, ↓w_op2, ↓w_op1, ↓w_cb, ↓w_c, ↓w_var, ↓w_nil, ↓w_cons, ↓w_tup, ↓w_lst, ↓w_new, ↓w_if, ↓w_test, ↓w_tru, ↓w_not, ↓w_and, ↓w_or, ↓w_andV, ↓w_orV, ↓w_notV, ↓w_chain, ↓w_call, ↓w_callK, ↓w_sl, ↓w_part0, ↓w_part1, ↓w_isi, ↓w_join, ↓w_mt, ↓w_lc, ↓w_lcN, ↓w_lcA, ↓w_it, ↓w_range1, ↓w_range2, ↓w_enum, ↓w_enumS, ↓w_zip,   OkX_ok, OkX_err, OkX_stuck, OkX_guard, o_addS, o_addT, o_addLL, o_addRL, o_addII, o_subI, o_mulI, o_mulS, o_fdivI, o_modI, o_powI, o_negI, o_ltI, o_leI, o_gtI, o_geI, o_ltS, o_leS, o_gtS, o_geS, o_eqI, o_eqS, o_neI, o_neS, o_isD, o_isnotD, o_inS, o_ixS, o_ixT, o_ixL, o_ixR, o_slS, o_slT, o_slL, o_slR, o_lenS, o_lenT, o_lenL, o_lenR, o_absI, o_intI, o_intB, o_tupT, o_tupL, o_tupR, o_maxI, o_minI,   List.set_cons_zero, List.set_cons_succ, List.getElem?_cons_zero, List.getElem?_cons_succ, List.map_cons, List.map_nil, List.length_cons, List.length_nil, List.replicate_succ, List.replicate_zero, List.cons_append, List.nil_append, Nat.reduceSub, Nat.reduceAdd, Nat.reduceLeDiff, exists_eq_left', D.bl.injEq, D.int.injEq, D.str.injEq, D.ref.injEq, D.tup.injEq, true_and, and_true, if_true, if_false, Bool.false_eq_true, Bool.not_true, Bool.not_false, decide_true, decide_false, bindP, bindPs, isK, atI_0, atI_1, atI_2, atI_3, ixN_0, ixN_1, Nat.zero_add, LINE, Nat.zero_le, truD, wipeD, Option.some.injEq]
    refine ⟨by omega, w2.length, by simp, w1 ++ [c], w2, by simp, by simp; omega, rfl, rfl⟩
  | nil =>
    cases r with
    | nil =>
      have e1 : decide (((done.length + w1.length : Nat) : Int) < ((done ++ (w1 ++ [] ++ [])).length : Int)) = false := by rw [decide_eq_false_iff_not]; simp
      rw [e1]
      simp (dsimp := false) only [↓Kp_app, ↓w_seq, ↓w_sNil, ↓w_set, ↓w_ret, ↓w_retN, ↓w_sIf, ↓w_expr, ↓w_par, ↓w_par3, ↓w_asg, ↓w_aug, ↓w_sub, ↓w_for, ↓w_raise, ↓w_break, ↓w_cont, ↓w_op2, ↓w_op1, ↓w_cb, ↓w_c, ↓w_var, ↓w_nil, ↓w_cons, ↓w_tup, ↓w_lst, ↓w_new, ↓w_if, ↓w_test, ↓w_tru, ↓w_not, ↓w_and, ↓w_or, ↓w_andV, ↓w_orV, ↓w_notV, ↓w_chain, ↓w_call, ↓w_callK, ↓w_sl, ↓w_part0, ↓w_part1, ↓w_isi, ↓w_join, ↓w_mt, ↓w_lc, ↓w_lcN, ↓w_lcA, ↓w_it, ↓w_range1, ↓w_range2, ↓w_enum, ↓w_enumS, ↓w_zip,   OkX_ok, OkX_err, OkX_stuck, OkX_guard, o_addS, o_addT, o_addLL, o_addRL, o_addII, o_subI, o_mulI, o_mulS, o_fdivI, o_modI, o_powI, o_negI, o_ltI, o_leI, o_gtI, o_geI, o_ltS, o_leS, o_gtS, o_geS, o_eqI, o_eqS, o_neI, o_neS, o_isD, o_isnotD, o_inS, o_ixS, o_ixT, o_ixL, o_ixR, o_slS, o_slT, o_slL, o_slR, o_lenS, o_lenT, o_lenL, o_lenR, o_absI, o_intI, o_intB, o_tupT, o_tupL, o_tupR, o_maxI, o_minI,   List.set_cons_zero, List.set_cons_succ, List.getElem?_cons_zero, List.getElem?_cons_succ, List.map_cons, List.map_nil, List.length_cons, List.length_nil, List.replicate_succ, List.replicate_zero, List.cons_append, List.nil_append, Nat.reduceSub, Nat.reduceAdd, Nat.reduceLeDiff, exists_eq_left', D.bl.injEq, D.int.injEq, D.str.injEq, D.ref.injEq, D.tup.injEq, true_and, and_true, if_true, if_false, Bool.false_eq_true, Bool.not_true, Bool.not_false, decide_true, decide_false, bindP, bindPs, isK, atI_0, atI_1, atI_2, atI_3, ixN_0, ixN_1, Nat.zero_add, LINE, Nat.zero_le, truD, wipeD, Option.some.injEq]
      simpa using q
    | cons c r =>
      have e : done ++ (w1 ++ [] ++ c :: r) = (done ++ w1) ++ c :: r := by simp
      have el : ((done.length + w1.length : Nat) : Int) = ((done ++ w1).length : Int) := by simp
      have e1 : decide (((done.length + w1.length : Nat) : Int) < ((done ++ (w1 ++ [] ++ c :: r)).length : Int)) = true := by rw [decide_eq_true_eq, hl2]; simp; omega
      rw [e1]
      have hc : c ∉ sg := hr c rfl
      have e2 : atI (done ++ (w1 ++ [] ++ c :: r)) ((done.length + w1.length : Nat) : Int) = some c := by rw [e, el]; exact at_done
      simp (dsimp := false) only [e2, hc, ↓Kp_app, ↓w_seq, ↓w_sNil, ↓w_set, ↓w_ret, ↓w_retN, ↓w_sIf, ↓w_expr, ↓w_par, ↓w_par3, ↓w_asg, ↓w_aug, ↓w_sub, ↓w_for, ↓w_raise, ↓w_break, ↓w_cont, ↓w_op2, ↓w_op1, ↓w_cb, ↓w_c, ↓w_var, ↓w_nil, ↓w_cons, ↓w_tup, ↓w_lst, ↓w_new, ↓w_if, ↓w_test, ↓w_tru, ↓w_not, ↓w_and, ↓w_or, ↓w_andV, ↓w_orV, ↓w_notV, ↓w_chain, ↓w_call, ↓w_callK, ↓w_sl, ↓w_part0, ↓w_part1, ↓w_isi, ↓w_join, ↓w_mt, ↓w_lc, ↓w_lcN, ↓w_lcA, ↓w_it, ↓w_range1, ↓w_range2, ↓w_enum, ↓w_enumS, ↓w_zip,   OkX_ok, OkX_err, OkX_stuck, OkX_guard, o_addS, o_addT, o_addLL, o_addRL, o_addII, o_subI, o_mulI, o_mulS, o_fdivI, o_modI, o_powI, o_negI, o_ltI, o_leI, o_gtI, o_geI, o_ltS, o_leS, o_gtS, o_geS, o_eqI, o_eqS, o_neI, o_neS, o_isD, o_isnotD, o_inS, o_ixS, o_ixT, o_ixL, o_ixR, o_slS, o_slT, o_slL, o_slR, o_lenS, o_lenT, o_lenL, o_lenR, o_absI, o_intI, o_intB, o_tupT, o_tupL, o_tupR, o_maxI, o_minI,   List.set_cons_zero, List.set_cons_succ, List.getElem?_cons_zero, List.getElem?_cons_succ, List.map_cons, List.map_nil, List.length_cons, List.length_nil, List.replicate_succ, List.replicate_zero, List.cons_append, List.nil_append, Nat.reduceSub, Nat.reduceAdd, Nat.reduceLeDiff, exists_eq_left', D.bl.injEq, D.int.injEq, D.str.injEq, D.ref.injEq, D.tup.injEq, true_and, and_true, if_true, if_false, Bool.false_eq_true, Bool.not_true, Bool.not_false, decide_true, decide_false, bindP, bindPs, isK, atI_0, atI_1, atI_2, atI_3, ixN_0, ixN_1, Nat.zero_add, LINE, Nat.zero_le, truD, wipeD, Option.some.injEq]
      refine ⟨by omega, by simpa using q⟩
theorem group_end_ok {k : Nat} {done w r : List Nat} {h : List MO} {P : D → List MO → Prop} {X : Ex → List MO → Prop} (hl : (done ++ (w ++ r)).length ≤ 60000) (hk : k ≤ 2) (hw : Grp k w) (hr : k < 2 → ∀ c ∈ r.head?, kdOf c ≠ k)
    (q : P (.int ((done.length + w.length : Nat) : Int)) h) : OkX (m_group_end [.str (done ++ (w ++ r)), .int done.length] h) P X := by
  unfold m_group_end; rw [w_run]; unfold b_group_end
  cases ew : w with
  | nil => exact absurd ew hw.ne
  | cons c w' =>
  have hat : atI (done ++ c :: (w' ++ r)) (done.length : Int) = some c := at_done
  have hkc : kdOf c = k := hw.kind hk (by rw [ew]; simp)
  subst ew
  have hl' : (done ++ c :: (w' ++ r)).length ≤ 60000 := hl
  simp (dsimp := false) only [itemsD, w_lf_cons, w_lf_nil, ckOk, hat, hl, ↓Kp_app, ↓w_seq, ↓w_sNil, ↓w_set, ↓w_ret, ↓w_retN, ↓w_sIf, ↓w_expr, ↓w_par, ↓w_par3, ↓w_asg, ↓w_aug, ↓w_sub, ↓w_for, ↓w_raise, ↓w_break, ↓w_cont, ↓w_op2, ↓w_op1, ↓w_cb, ↓w_c, ↓w_var, ↓w_nil, ↓w_cons, ↓w_tup, ↓w_lst, ↓w_new, ↓w_if, ↓w_test, ↓w_tru, ↓w_not, ↓w_and, ↓w_or, ↓w_andV, ↓w_orV, ↓w_notV, ↓w_chain, ↓w_call, ↓w_callK, ↓w_sl, ↓w_part0, ↓w_part1, ↓w_isi, ↓w_join, ↓w_mt, ↓w_lc, ↓w_lcN, ↓w_lcA, ↓w_it, ↓w_range1, ↓w_range2, ↓w_enum, ↓w_enumS, ↓w_zip,   OkX_ok, OkX_err, OkX_stuck, OkX_guard, o_addS, o_addT, o_addLL, o_addRL, o_addII, o_subI, o_mulI, o_mulS, o_fdivI, o_modI, o_powI, o_negI, o_ltI, o_leI, o_gtI, o_geI, o_ltS, o_leS, o_gtS, o_geS, o_eqI, o_eqS, o_neI, o_neS, o_isD, o_isnotD, o_inS, o_ixS, o_ixT, o_ixL, o_ixR, o_slS, o_slT, o_slL, o_slR, o_lenS, o_lenT, o_lenL, o_lenR, o_absI, o_intI, o_intB, o_tupT, o_tupL, o_tupR, o_maxI, o_minI,   List.set_cons_zero, List.set_cons_succ, List.getElem?_cons_zero, List.getElem?_cons_succ, List.map_cons, List.map_nil, List.length_cons, List.length_nil, List.replicate_succ, List.replicate_zero, List.cons_append, List.nil_append, Nat.reduceSub, Nat.reduceAdd, Nat.reduceLeDiff, exists_eq_left', D.bl.injEq, D.int.injEq, D.str.injEq, D.ref.injEq, D.tup.injEq, true_and, and_true, if_true, if_false, Bool.false_eq_true, Bool.not_true, Bool.not_false, decide_true, decide_false, bindP, bindPs, isK, atI_0, atI_1, atI_2, atI_3, ixN_0, ixN_1, Nat.zero_add, LINE, Nat.zero_le, truD, wipeD, Option.some.injEq]
  match k, hk with
  | 0, _ =>
    have h1 : c ∈ Lts := memL.mpr (hw.2 c (by simp))
    have h2 : ¬ c ∈ Fgs := fun z => by have := memL.mp h1; have := memF.mp z; unfold isL at *; unfold isF at *; omega
    simp only [h1, h2, decide_true, decide_false, if_true]
    refine ⟨by omega, row_end_ok (w := c :: w') hl (fun d m => memL.mpr (hw.2 d m)) (fun d m z => hr (by omega) d m (by unfold kdOf; rw [if_pos (memL.mp z)])) q⟩
  | 1, _ =>
    have h2 : c ∈ Fgs := memF.mpr (hw.2 c (by simp))
    have h1 : ¬ c ∈ Lts := fun z => by have := memL.mp z; have := memF.mp h2; unfold isL at *; unfold isF at *; omega
    simp only [h1, h2, decide_true, decide_false, if_true, if_false, Bool.false_eq_true]
    refine ⟨by omega, by omega, row_end_ok (w := c :: w') hl (fun d m => memF.mpr (hw.2 d m)) (fun d m z => hr (by omega) d m (by have z := memF.mp z; unfold kdOf; rw [if_neg (by unfold isF at z; unfold isL; omega), if_pos z])) q⟩
  | 2, _ =>
    have e : c :: w' = [45] := hw
    cases e
    simp only [List.nil_append] at *
    have h1 : ¬ 45 ∈ Lts := by decide
    have h2 : ¬ 45 ∈ Fgs := by decide
    simp only [h1, h2, decide_true, decide_false, if_true, if_false, Bool.false_eq_true]
    refine ⟨by omega, by omega, q⟩
abbrev exT (i j : Int) : Ex := ⟨"InvalidText", [(("at" : Str), .int i), (("why" : Str), .int j)]⟩
theorem cut_bad0 {d : D} {h : List MO} {P : D → List MO → Prop} {X : Ex → List MO → Prop} (hd : isiD ["str"] d = some false) (hb : belowD 0 d = true) (q : X (exT (-1) 0) h) : OkX (m_cut_groups [d] h) P X := by
  unfold m_cut_groups
  refine w_pure (by simp [belowDs, hb]) ?_
  rw [w_run]; unfold b_cut_groups
  simp (dsimp := false) only [hd, ↓Kp_app, ↓w_seq, ↓w_sNil, ↓w_set, ↓w_ret, ↓w_retN, ↓w_sIf, ↓w_expr, ↓w_par, ↓w_par3, ↓w_asg, ↓w_aug, ↓w_sub, ↓w_for, ↓w_raise, ↓w_break, ↓w_cont, ↓w_op2, ↓w_op1, ↓w_cb, ↓w_c, ↓w_var, ↓w_nil, ↓w_cons, ↓w_tup, ↓w_lst, ↓w_new, ↓w_if, ↓w_test, ↓w_tru, ↓w_not, ↓w_and, ↓w_or, ↓w_andV, ↓w_orV, ↓w_notV, ↓w_chain, ↓w_call, ↓w_callK, ↓w_sl, ↓w_part0, ↓w_part1, ↓w_isi, ↓w_join, ↓w_mt, ↓w_lc, ↓w_lcN, ↓w_lcA, ↓w_it, ↓w_range1, ↓w_range2, ↓w_enum, ↓w_enumS, ↓w_zip,   OkX_ok, OkX_err, OkX_stuck, OkX_guard, o_addS, o_addT, o_addLL, o_addRL, o_addII, o_subI, o_mulI, o_mulS, o_fdivI, o_modI, o_powI, o_negI, o_ltI, o_leI, o_gtI, o_geI, o_ltS, o_leS, o_gtS, o_geS, o_eqI, o_eqS, o_neI, o_neS, o_isD, o_isnotD, o_inS, o_ixS, o_ixT, o_ixL, o_ixR, o_slS, o_slT, o_slL, o_slR, o_lenS, o_lenT, o_lenL, o_lenR, o_absI, o_intI, o_intB, o_tupT, o_tupL, o_tupR, o_maxI, o_minI,   List.set_cons_zero, List.set_cons_succ, List.getElem?_cons_zero, List.getElem?_cons_succ, List.map_cons, List.map_nil, List.length_cons, List.length_nil, List.replicate_succ, List.replicate_zero, List.cons_append, List.nil_append, Nat.reduceSub, Nat.reduceAdd, Nat.reduceLeDiff, exists_eq_left', D.bl.injEq, D.int.injEq, D.str.injEq, D.ref.injEq, D.tup.injEq, true_and, and_true, if_true, if_false, Bool.false_eq_true, Bool.not_true, Bool.not_false, decide_true, decide_false, bindP, bindPs, isK, atI_0, atI_1, atI_2, atI_3, ixN_0, ixN_1, Nat.zero_add, LINE, Nat.zero_le, truD, wipeD, Option.some.injEq]
  exact ⟨rfl, q⟩
theorem cut_long {l : List Nat} {h : List MO} {P : D → List MO → Prop} {X : Ex → List MO → Prop} (hl : 60000 < l.length) (hl2 : l.length ≤ 16777216) (q : X (exT (-1) 0) h) : OkX (m_cut_groups [.str l] h) P X := by
  unfold m_cut_groups
  refine w_pure (by simp [belowDs, belowD]) ?_
  rw [w_run]; unfold b_cut_groups
  simp (dsimp := false) only [isi_ss, ↓Kp_app, ↓w_seq, ↓w_sNil, ↓w_set, ↓w_ret, ↓w_retN, ↓w_sIf, ↓w_expr, ↓w_par, ↓w_par3, ↓w_asg, ↓w_aug, ↓w_sub, ↓w_for, ↓w_raise, ↓w_break, ↓w_cont, ↓w_op2, ↓w_op1, ↓w_cb, ↓w_c, ↓w_var, ↓w_nil, ↓w_cons, ↓w_tup, ↓w_lst, ↓w_new, ↓w_if, ↓w_test, ↓w_tru, ↓w_not, ↓w_and, ↓w_or, ↓w_andV, ↓w_orV, ↓w_notV, ↓w_chain, ↓w_call, ↓w_callK, ↓w_sl, ↓w_part0, ↓w_part1, ↓w_isi, ↓w_join, ↓w_mt, ↓w_lc, ↓w_lcN, ↓w_lcA, ↓w_it, ↓w_range1, ↓w_range2, ↓w_enum, ↓w_enumS, ↓w_zip,   OkX_ok, OkX_err, OkX_stuck, OkX_guard, o_addS, o_addT, o_addLL, o_addRL, o_addII, o_subI, o_mulI, o_mulS, o_fdivI, o_modI, o_powI, o_negI, o_ltI, o_leI, o_gtI, o_geI, o_ltS, o_leS, o_gtS, o_geS, o_eqI, o_eqS, o_neI, o_neS, o_isD, o_isnotD, o_inS, o_ixS, o_ixT, o_ixL, o_ixR, o_slS, o_slT, o_slL, o_slR, o_lenS, o_lenT, o_lenL, o_lenR, o_absI, o_intI, o_intB, o_tupT, o_tupL, o_tupR, o_maxI, o_minI,   List.set_cons_zero, List.set_cons_succ, List.getElem?_cons_zero, List.getElem?_cons_succ, List.map_cons, List.map_nil, List.length_cons, List.length_nil, List.replicate_succ, List.replicate_zero, List.cons_append, List.nil_append, Nat.reduceSub, Nat.reduceAdd, Nat.reduceLeDiff, exists_eq_left', D.bl.injEq, D.int.injEq, D.str.injEq, D.ref.injEq, D.tup.injEq, true_and, and_true, if_true, if_false, Bool.false_eq_true, Bool.not_true, Bool.not_false, decide_true, decide_false, bindP, bindPs, isK, atI_0, atI_1, atI_2, atI_3, ixN_0, ixN_1, Nat.zero_add, LINE, Nat.zero_le, truD, wipeD, Option.some.injEq]
  refine ⟨hl2, ?_⟩
  rw [if_pos (by rw [decide_eq_true_eq]; omega)]
  exact ⟨rfl, q⟩
theorem scan_ok {l : List Nat} {N : Po} {x3 x4 : Option D} {b : MS} (pre : List Nat)
    (step : ∀ (c : Nat) (k : Nat) (x1 x2 x3 x4 : Option D) (N : Po), (okC c → N.nx [some (.str l), some (.int k), some (.str [c]), x3, x4] []) → (¬ okC c → N.er (exT k 1) []) → OkS (b [some (.str l), some (.int k), some (.str [c]), x3, x4] []) N)
    (ok : ∀ c ∈ pre, okC c) (r : List Nat) (hr : ∀ c ∈ r.head?, ¬ okC c) (e : pre ++ r = l) (q : r = [] → ∀ x1 x2, N.nx [some (.str l), x1, x2, x3, x4] []) (qe : r ≠ [] → N.er (exT pre.length 1) []) :
    ∀ (done ds : List Nat) (x1 x2 : Option D), done ++ ds = l → done.length ≤ pre.length → OkS (loopF (.tp [.nm 1, .nm 2]) b ⟨enumD 0 (l.map fun c => .str [c]), none⟩ (enumD done.length (ds.map fun c => .str [c])) [some (.str l), x1, x2, x3, x4] []) N
  | done, [], x1, x2, e1, hle => by
    simp only [List.map_nil, enumD]
    rw [w_lf_nil]
    refine ⟨rfl, q ?_ x1 x2⟩
    have := congrArg List.length (e.trans (e1.symm))
    simp at this
    exact List.eq_nil_of_length_eq_zero (by omega)
  | done, c :: ds, x1, x2, e1, hle => by
    simp only [List.map_cons, enumD]
    rw [w_lf_cons]
    refine ⟨rfl, ?_⟩
    simp only [bindP, bindPs, List.set_cons_succ, List.set_cons_zero]
    have hlen := congrArg List.length (e.trans (e1.symm))
    simp at hlen
    have hc : l[done.length]? = some c := by rw [← e1, List.getElem?_append_right (Nat.le_refl _), Nat.sub_self]; rfl
    refine step c done.length x1 x2 x3 x4 _ (fun hok => ?_) (fun hno => ?_)
    · have hlt : done.length < pre.length := by
        rcases Nat.lt_or_ge done.length pre.length with z | z
        · exact z
        · exfalso
          have h2 : l[done.length]? = r[done.length - pre.length]? := by rw [← e, List.getElem?_append_right z]
          have : done.length - pre.length = 0 := by omega
          rw [h2, this] at hc
          exact hr c (by rw [← List.head?_eq_getElem?] at hc; exact hc) hok
      have ea : (done ++ [c]).length = done.length + 1 := by simp
      have := scan_ok pre step ok r hr e q qe (done ++ [c]) ds (some (.int done.length)) (some (.str [c])) (by rw [← e1]; simp) (by omega)
      rw [ea] at this
      exact this
    · have hge : pre.length = done.length := by
        rcases Nat.lt_or_ge done.length pre.length with z | z
        · exfalso
          have h2 : pre[done.length]? = some c := by rw [← hc, ← e, List.getElem?_append_left z]
          exact hno (ok c (List.mem_of_getElem? h2))
        · omega
      have hrn : r ≠ [] := fun z => by subst z; simp at hlen; omega
      have := qe hrn
      rw [hge] at this
      exact this
theorem scan_step {l : List Nat} (c : Nat) (k : Nat) (x1 x2 x3 x4 : Option D) (N : Po) (h1 : okC c → N.nx [some (.str l), some (.int k), some (.str [c]), x3, x4] []) (h2 : ¬ okC c → N.er (exT k 1) []) : OkS ((sSeq (sIf (xAnd (xTest (xOp2 (oIn true) (xVar 2) (xC (.str Lts)))) (xAnd (xTest (xOp2 (oIn true) (xVar 2) (xC (.str Fgs)))) (xTest (xOp2 (oIn true) (xVar 2) (xC (.str [45, 32, 10])))))) (sSeq (sRaise "InvalidText" ["at", "why"] (aCons (xVar 1) (aCons (xC (.int 1)) aNil))) sNil) sNil) sNil) [some (.str l), some (.int k), some (.str [c]), x3, x4] []) N := by
  simp (dsimp := false) only [↓Kp_app, ↓w_seq, ↓w_sNil, ↓w_set, ↓w_ret, ↓w_retN, ↓w_sIf, ↓w_expr, ↓w_par, ↓w_par3, ↓w_asg, ↓w_aug, ↓w_sub, ↓w_for, ↓w_raise, ↓w_break, ↓w_cont, ↓w_op2, ↓w_op1, ↓w_cb, ↓w_c, ↓w_var, ↓w_nil, ↓w_cons, ↓w_tup, ↓w_lst, ↓w_new, ↓w_if, ↓w_test, ↓w_tru, ↓w_not, ↓w_and, ↓w_or, ↓w_andV, ↓w_orV, ↓w_notV, ↓w_chain, ↓w_call, ↓w_callK, ↓w_sl, ↓w_part0, ↓w_part1, ↓w_isi, ↓w_join, ↓w_mt, ↓w_lc, ↓w_lcN, ↓w_lcA, ↓w_it, ↓w_range1, ↓w_range2, ↓w_enum, ↓w_enumS, ↓w_zip,   OkX_ok, OkX_err, OkX_stuck, OkX_guard, o_addS, o_addT, o_addLL, o_addRL, o_addII, o_subI, o_mulI, o_mulS, o_fdivI, o_modI, o_powI, o_negI, o_ltI, o_leI, o_gtI, o_geI, o_ltS, o_leS, o_gtS, o_geS, o_eqI, o_eqS, o_neI, o_neS, o_isD, o_isnotD, o_inS, o_ixS, o_ixT, o_ixL, o_ixR, o_slS, o_slT, o_slL, o_slR, o_lenS, o_lenT, o_lenL, o_lenR, o_absI, o_intI, o_intB, o_tupT, o_tupL, o_tupR, o_maxI, o_minI,   List.set_cons_zero, List.set_cons_succ, List.getElem?_cons_zero, List.getElem?_cons_succ, List.map_cons, List.map_nil, List.length_cons, List.length_nil, List.replicate_succ, List.replicate_zero, List.cons_append, List.nil_append, Nat.reduceSub, Nat.reduceAdd, Nat.reduceLeDiff, exists_eq_left', D.bl.injEq, D.int.injEq, D.str.injEq, D.ref.injEq, D.tup.injEq, true_and, and_true, if_true, if_false, Bool.false_eq_true, Bool.not_true, Bool.not_false, decide_true, decide_false, bindP, bindPs, isK, atI_0, atI_1, atI_2, atI_3, ixN_0, ixN_1, Nat.zero_add, LINE, Nat.zero_le, truD, wipeD, Option.some.injEq]
  by_cases a : c ∈ Lts
  · simp only [a, decide_true, Bool.not_true, Bool.false_eq_true, if_false]
    exact h1 (.inl (memL.mp a))
  · simp only [a, decide_false, Bool.not_false, if_true]
    by_cases b : c ∈ Fgs
    · simp only [b, decide_true, Bool.not_true, Bool.false_eq_true, if_false]
      exact h1 (.inr (.inl (memF.mp b)))
    · simp only [b, decide_false, Bool.not_false, if_true]
      by_cases d : c ∈ [45, 32, 10]
      · simp only [d, decide_true, Bool.not_true, Bool.false_eq_true, if_false]
        exact h1 (.inr (.inr (memO.mp d)))
      · simp only [d, decide_false, Bool.not_false, if_true]
        exact h2 fun z => by
          rcases z with z | z | z
          · exact a (memL.mpr z)
          · exact b (memF.mpr z)
          · exact d (memO.mpr z)
theorem cut_odd {pre r : List Nat} {c : Nat} {h : List MO} {P : D → List MO → Prop} {X : Ex → List MO → Prop} (hl : (pre ++ c :: r).length ≤ 60000) (ok : ∀ d ∈ pre, okC d) (hc : ¬ okC c) (q : X (exT pre.length 1) h) : OkX (m_cut_groups [.str (pre ++ c :: r)] h) P X := by
  unfold m_cut_groups
  refine w_pure (by simp [belowDs, belowD]) ?_
  rw [w_run]; unfold b_cut_groups
  simp (dsimp := false) only [isi_ss, ↓Kp_app, ↓w_seq, ↓w_sNil, ↓w_set, ↓w_ret, ↓w_retN, ↓w_sIf, ↓w_expr, ↓w_par, ↓w_par3, ↓w_asg, ↓w_aug, ↓w_sub, ↓w_for, ↓w_raise, ↓w_break, ↓w_cont, ↓w_op2, ↓w_op1, ↓w_cb, ↓w_c, ↓w_var, ↓w_nil, ↓w_cons, ↓w_tup, ↓w_lst, ↓w_new, ↓w_if, ↓w_test, ↓w_tru, ↓w_not, ↓w_and, ↓w_or, ↓w_andV, ↓w_orV, ↓w_notV, ↓w_chain, ↓w_call, ↓w_callK, ↓w_sl, ↓w_part0, ↓w_part1, ↓w_isi, ↓w_join, ↓w_mt, ↓w_lc, ↓w_lcN, ↓w_lcA, ↓w_it, ↓w_range1, ↓w_range2, ↓w_enum, ↓w_enumS, ↓w_zip,   OkX_ok, OkX_err, OkX_stuck, OkX_guard, o_addS, o_addT, o_addLL, o_addRL, o_addII, o_subI, o_mulI, o_mulS, o_fdivI, o_modI, o_powI, o_negI, o_ltI, o_leI, o_gtI, o_geI, o_ltS, o_leS, o_gtS, o_geS, o_eqI, o_eqS, o_neI, o_neS, o_isD, o_isnotD, o_inS, o_ixS, o_ixT, o_ixL, o_ixR, o_slS, o_slT, o_slL, o_slR, o_lenS, o_lenT, o_lenL, o_lenR, o_absI, o_intI, o_intB, o_tupT, o_tupL, o_tupR, o_maxI, o_minI,   List.set_cons_zero, List.set_cons_succ, List.getElem?_cons_zero, List.getElem?_cons_succ, List.map_cons, List.map_nil, List.length_cons, List.length_nil, List.replicate_succ, List.replicate_zero, List.cons_append, List.nil_append, Nat.reduceSub, Nat.reduceAdd, Nat.reduceLeDiff, exists_eq_left', D.bl.injEq, D.int.injEq, D.str.injEq, D.ref.injEq, D.tup.injEq, true_and, and_true, if_true, if_false, Bool.false_eq_true, Bool.not_true, Bool.not_false, decide_true, decide_false, bindP, bindPs, isK, atI_0, atI_1, atI_2, atI_3, ixN_0, ixN_1, Nat.zero_add, LINE, Nat.zero_le, truD, wipeD, Option.some.injEq]
  refine ⟨by omega, ?_⟩
  rw [if_neg (by rw [decide_eq_true_eq]; omega)]
  refine scan_ok pre ?_ ok (c :: r) (fun d m => by cases m; exact hc) rfl (fun z => by cases z) (fun _ => ?_) [] (pre ++ c :: r) none none rfl (Nat.zero_le _)
  · exact scan_step
  · exact ⟨rfl, q⟩
theorem below_strs (n : Nat) : ∀ l : List (List Nat), belowDs n (l.map .str) = true
  | [] => rfl
  | x :: l => by rw [List.map_cons]; unfold belowDs; rw [below_strs n l]; rfl
theorem cut_tok {l : List Nat} {gs : List (List Nat)} {h : List MO} {P : D → List MO → Prop} {X : Ex → List MO → Prop} (hl : l.length ≤ 60000) (t : Tok l gs) (q : gs.length ≤ 4000 → P (.tup (gs.map .str)) h) (q2 : 4000 < gs.length → X (exT (-1) 2) h) : OkX (m_cut_groups [.str l] h) P X := by
  unfold m_cut_groups
  refine w_pure (by simp [belowDs, belowD]) ?_
  rw [w_run]; unfold b_cut_groups
  simp (dsimp := false) only [isi_ss, ↓Kp_app, ↓w_seq, ↓w_sNil, ↓w_set, ↓w_ret, ↓w_retN, ↓w_sIf, ↓w_expr, ↓w_par, ↓w_par3, ↓w_asg, ↓w_aug, ↓w_sub, ↓w_for, ↓w_raise, ↓w_break, ↓w_cont, ↓w_op2, ↓w_op1, ↓w_cb, ↓w_c, ↓w_var, ↓w_nil, ↓w_cons, ↓w_tup, ↓w_lst, ↓w_new, ↓w_if, ↓w_test, ↓w_tru, ↓w_not, ↓w_and, ↓w_or, ↓w_andV, ↓w_orV, ↓w_notV, ↓w_chain, ↓w_call, ↓w_callK, ↓w_sl, ↓w_part0, ↓w_part1, ↓w_isi, ↓w_join, ↓w_mt, ↓w_lc, ↓w_lcN, ↓w_lcA, ↓w_it, ↓w_range1, ↓w_range2, ↓w_enum, ↓w_enumS, ↓w_zip,   OkX_ok, OkX_err, OkX_stuck, OkX_guard, o_addS, o_addT, o_addLL, o_addRL, o_addII, o_subI, o_mulI, o_mulS, o_fdivI, o_modI, o_powI, o_negI, o_ltI, o_leI, o_gtI, o_geI, o_ltS, o_leS, o_gtS, o_geS, o_eqI, o_eqS, o_neI, o_neS, o_isD, o_isnotD, o_inS, o_ixS, o_ixT, o_ixL, o_ixR, o_slS, o_slT, o_slL, o_slR, o_lenS, o_lenT, o_lenL, o_lenR, o_absI, o_intI, o_intB, o_tupT, o_tupL, o_tupR, o_maxI, o_minI,   List.set_cons_zero, List.set_cons_succ, List.getElem?_cons_zero, List.getElem?_cons_succ, List.map_cons, List.map_nil, List.length_cons, List.length_nil, List.replicate_succ, List.replicate_zero, List.cons_append, List.nil_append, Nat.reduceSub, Nat.reduceAdd, Nat.reduceLeDiff, exists_eq_left', D.bl.injEq, D.int.injEq, D.str.injEq, D.ref.injEq, D.tup.injEq, true_and, and_true, if_true, if_false, Bool.false_eq_true, Bool.not_true, Bool.not_false, decide_true, decide_false, bindP, bindPs, isK, atI_0, atI_1, atI_2, atI_3, ixN_0, ixN_1, Nat.zero_add, LINE, Nat.zero_le, truD, wipeD, Option.some.injEq]
  refine ⟨by omega, ?_⟩
  rw [if_neg (by rw [decide_eq_true_eq]; omega)]
  refine scan_ok l ?_ t.ok [] (fun d m => by cases m) (by simp) (fun _ x1 x2 => ?_) (fun z => absurd rfl z) [] l none none rfl (Nat.zero_le _)
  · exact scan_step
  simp (dsimp := false) only [↓Kp_app, ↓w_seq, ↓w_sNil, ↓w_set, ↓w_ret, ↓w_retN, ↓w_sIf, ↓w_expr, ↓w_par, ↓w_par3, ↓w_asg, ↓w_aug, ↓w_sub, ↓w_for, ↓w_raise, ↓w_break, ↓w_cont, ↓w_op2, ↓w_op1, ↓w_cb, ↓w_c, ↓w_var, ↓w_nil, ↓w_cons, ↓w_tup, ↓w_lst, ↓w_new, ↓w_if, ↓w_test, ↓w_tru, ↓w_not, ↓w_and, ↓w_or, ↓w_andV, ↓w_orV, ↓w_notV, ↓w_chain, ↓w_call, ↓w_callK, ↓w_sl, ↓w_part0, ↓w_part1, ↓w_isi, ↓w_join, ↓w_mt, ↓w_lc, ↓w_lcN, ↓w_lcA, ↓w_it, ↓w_range1, ↓w_range2, ↓w_enum, ↓w_enumS, ↓w_zip,   OkX_ok, OkX_err, OkX_stuck, OkX_guard, o_addS, o_addT, o_addLL, o_addRL, o_addII, o_subI, o_mulI, o_mulS, o_fdivI, o_modI, o_powI, o_negI, o_ltI, o_leI, o_gtI, o_geI, o_ltS, o_leS, o_gtS, o_geS, o_eqI, o_eqS, o_neI, o_neS, o_isD, o_isnotD, o_inS, o_ixS, o_ixT, o_ixL, o_ixR, o_slS, o_slT, o_slL, o_slR, o_lenS, o_lenT, o_lenL, o_lenR, o_absI, o_intI, o_intB, o_tupT, o_tupL, o_tupR, o_maxI, o_minI,   List.set_cons_zero, List.set_cons_succ, List.getElem?_cons_zero, List.getElem?_cons_succ, List.map_cons, List.map_nil, List.length_cons, List.length_nil, List.replicate_succ, List.replicate_zero, List.cons_append, List.nil_append, Nat.reduceSub, Nat.reduceAdd, Nat.reduceLeDiff, exists_eq_left', D.bl.injEq, D.int.injEq, D.str.injEq, D.ref.injEq, D.tup.injEq, true_and, and_true, if_true, if_false, Bool.false_eq_true, Bool.not_true, Bool.not_false, decide_true, decide_false, bindP, bindPs, isK, atI_0, atI_1, atI_2, atI_3, ixN_0, ixN_1, Nat.zero_add, LINE, Nat.zero_le, truD, wipeD, Option.some.injEq]
  refine w_loopW (fun k ρ h' => ∃ done rest gd gr x2 x4, l = done ++ rest ∧ gs = gd ++ gr ∧ Tok rest gr ∧ k = rest.length ∧ h' = [.lst (gd.map .str)] ∧ ρ = [some (.str l), some (.int done.length), x2, some (.ref 0), x4]) (fun k ρ h' i => ?_) 100000 l.length _ _ (by omega) ⟨[], l, [], gs, _, _, rfl, rfl, t, rfl, rfl, rfl⟩
  obtain ⟨done, rest, gd, gr, x2, x4, rfl, rfl, tr, rfl, rfl, rfl⟩ := i
  have hll : (done ++ rest).length = done.length + rest.length := by simp
  have hgl := t.len
  have hgd : gd.length ≤ 60000 := by simp at hgl; omega
  simp (dsimp := false) only [↓Kp_app, ↓w_seq, ↓w_sNil, ↓w_set, ↓w_ret, ↓w_retN, ↓w_sIf, ↓w_expr, ↓w_par, ↓w_par3, ↓w_asg, ↓w_aug, ↓w_sub, ↓w_for, ↓w_raise, ↓w_break, ↓w_cont, ↓w_op2, ↓w_op1, ↓w_cb, ↓w_c, ↓w_var, ↓w_nil, ↓w_cons, ↓w_tup, ↓w_lst, ↓w_new, ↓w_if, ↓w_test, ↓w_tru, ↓w_not, ↓w_and, ↓w_or, ↓w_andV, ↓w_orV, ↓w_notV, ↓w_chain, ↓w_call, ↓w_callK, ↓w_sl, ↓w_part0, ↓w_part1, ↓w_isi, ↓w_join, ↓w_mt, ↓w_lc, ↓w_lcN, ↓w_lcA, ↓w_it, ↓w_range1, ↓w_range2, ↓w_enum, ↓w_enumS, ↓w_zip,   OkX_ok, OkX_err, OkX_stuck, OkX_guard, o_addS, o_addT, o_addLL, o_addRL, o_addII, o_subI, o_mulI, o_mulS, o_fdivI, o_modI, o_powI, o_negI, o_ltI, o_leI, o_gtI, o_geI, o_ltS, o_leS, o_gtS, o_geS, o_eqI, o_eqS, o_neI, o_neS, o_isD, o_isnotD, o_inS, o_ixS, o_ixT, o_ixL, o_ixR, o_slS, o_slT, o_slL, o_slR, o_lenS, o_lenT, o_lenL, o_lenR, o_absI, o_intI, o_intB, o_tupT, o_tupL, o_tupR, o_maxI, o_minI,   List.set_cons_zero, List.set_cons_succ, List.getElem?_cons_zero, List.getElem?_cons_succ, List.map_cons, List.map_nil, List.length_cons, List.length_nil, List.replicate_succ, List.replicate_zero, List.cons_append, List.nil_append, Nat.reduceSub, Nat.reduceAdd, Nat.reduceLeDiff, exists_eq_left', D.bl.injEq, D.int.injEq, D.str.injEq, D.ref.injEq, D.tup.injEq, true_and, and_true, if_true, if_false, Bool.false_eq_true, Bool.not_true, Bool.not_false, decide_true, decide_false, bindP, bindPs, isK, atI_0, atI_1, atI_2, atI_3, ixN_0, ixN_1, Nat.zero_add, LINE, Nat.zero_le, truD, wipeD, Option.some.injEq]
  refine ⟨by omega, ?_⟩
  have hl0 : MP.hl [MO.lst (gd.map D.str)] 0 = some (gd.map D.str) := rfl
  rcases tr.inv with ⟨rfl, rfl⟩ | ⟨c, r, hg, rfl, tr2⟩ | ⟨k, c, w, r, gs', hk, hw, hr, tr2, rfl, rfl, hng⟩
  · rw [if_neg (by rw [decide_eq_true_eq]; simp)]
    simp (dsimp := false) only [hl0, ↓Kp_app, ↓w_seq, ↓w_sNil, ↓w_set, ↓w_ret, ↓w_retN, ↓w_sIf, ↓w_expr, ↓w_par, ↓w_par3, ↓w_asg, ↓w_aug, ↓w_sub, ↓w_for, ↓w_raise, ↓w_break, ↓w_cont, ↓w_op2, ↓w_op1, ↓w_cb, ↓w_c, ↓w_var, ↓w_nil, ↓w_cons, ↓w_tup, ↓w_lst, ↓w_new, ↓w_if, ↓w_test, ↓w_tru, ↓w_not, ↓w_and, ↓w_or, ↓w_andV, ↓w_orV, ↓w_notV, ↓w_chain, ↓w_call, ↓w_callK, ↓w_sl, ↓w_part0, ↓w_part1, ↓w_isi, ↓w_join, ↓w_mt, ↓w_lc, ↓w_lcN, ↓w_lcA, ↓w_it, ↓w_range1, ↓w_range2, ↓w_enum, ↓w_enumS, ↓w_zip,   OkX_ok, OkX_err, OkX_stuck, OkX_guard, o_addS, o_addT, o_addLL, o_addRL, o_addII, o_subI, o_mulI, o_mulS, o_fdivI, o_modI, o_powI, o_negI, o_ltI, o_leI, o_gtI, o_geI, o_ltS, o_leS, o_gtS, o_geS, o_eqI, o_eqS, o_neI, o_neS, o_isD, o_isnotD, o_inS, o_ixS, o_ixT, o_ixL, o_ixR, o_slS, o_slT, o_slL, o_slR, o_lenS, o_lenT, o_lenL, o_lenR, o_absI, o_intI, o_intB, o_tupT, o_tupL, o_tupR, o_maxI, o_minI,   List.set_cons_zero, List.set_cons_succ, List.getElem?_cons_zero, List.getElem?_cons_succ, List.map_cons, List.map_nil, List.length_cons, List.length_nil, List.replicate_succ, List.replicate_zero, List.cons_append, List.nil_append, Nat.reduceSub, Nat.reduceAdd, Nat.reduceLeDiff, exists_eq_left', D.bl.injEq, D.int.injEq, D.str.injEq, D.ref.injEq, D.tup.injEq, true_and, and_true, if_true, if_false, Bool.false_eq_true, Bool.not_true, Bool.not_false, decide_true, decide_false, bindP, bindPs, isK, atI_0, atI_1, atI_2, atI_3, ixN_0, ixN_1, Nat.zero_add, LINE, Nat.zero_le, truD, wipeD, Option.some.injEq]
    simp only [List.append_nil] at *
    by_cases hm : 4000 < gd.length
    · rw [if_pos (by rw [decide_eq_true_eq]; simp; omega)]
      exact ⟨rfl, q2 hm⟩
    · rw [if_neg (by rw [decide_eq_true_eq]; simp; omega)]
      refine ⟨_, ?_, q (by omega)⟩
      unfold deD
      rw [if_pos (by unfold belowD; exact below_strs 0 gd)]
  · rw [if_pos (by rw [decide_eq_true_eq]; simp; omega)]
    have hat : atI (done ++ c :: r) (done.length : Int) = some c := at_done
    have hc : c ∈ [32, 10] := memG.mpr hg
    simp (dsimp := false) only [hat, hc, ↓Kp_app, ↓w_seq, ↓w_sNil, ↓w_set, ↓w_ret, ↓w_retN, ↓w_sIf, ↓w_expr, ↓w_par, ↓w_par3, ↓w_asg, ↓w_aug, ↓w_sub, ↓w_for, ↓w_raise, ↓w_break, ↓w_cont, ↓w_op2, ↓w_op1, ↓w_cb, ↓w_c, ↓w_var, ↓w_nil, ↓w_cons, ↓w_tup, ↓w_lst, ↓w_new, ↓w_if, ↓w_test, ↓w_tru, ↓w_not, ↓w_and, ↓w_or, ↓w_andV, ↓w_orV, ↓w_notV, ↓w_chain, ↓w_call, ↓w_callK, ↓w_sl, ↓w_part0, ↓w_part1, ↓w_isi, ↓w_join, ↓w_mt, ↓w_lc, ↓w_lcN, ↓w_lcA, ↓w_it, ↓w_range1, ↓w_range2, ↓w_enum, ↓w_enumS, ↓w_zip,   OkX_ok, OkX_err, OkX_stuck, OkX_guard, o_addS, o_addT, o_addLL, o_addRL, o_addII, o_subI, o_mulI, o_mulS, o_fdivI, o_modI, o_powI, o_negI, o_ltI, o_leI, o_gtI, o_geI, o_ltS, o_leS, o_gtS, o_geS, o_eqI, o_eqS, o_neI, o_neS, o_isD, o_isnotD, o_inS, o_ixS, o_ixT, o_ixL, o_ixR, o_slS, o_slT, o_slL, o_slR, o_lenS, o_lenT, o_lenL, o_lenR, o_absI, o_intI, o_intB, o_tupT, o_tupL, o_tupR, o_maxI, o_minI,   List.set_cons_zero, List.set_cons_succ, List.getElem?_cons_zero, List.getElem?_cons_succ, List.map_cons, List.map_nil, List.length_cons, List.length_nil, List.replicate_succ, List.replicate_zero, List.cons_append, List.nil_append, Nat.reduceSub, Nat.reduceAdd, Nat.reduceLeDiff, exists_eq_left', D.bl.injEq, D.int.injEq, D.str.injEq, D.ref.injEq, D.tup.injEq, true_and, and_true, if_true, if_false, Bool.false_eq_true, Bool.not_true, Bool.not_false, decide_true, decide_false, bindP, bindPs, isK, atI_0, atI_1, atI_2, atI_3, ixN_0, ixN_1, Nat.zero_add, LINE, Nat.zero_le, truD, wipeD, Option.some.injEq]
    exact ⟨by omega, by omega, r.length, by simp, done ++ [c], r, gd, gr, _, _, by simp, rfl, tr2, rfl, rfl, by simp; exact ⟨rfl, rfl⟩⟩
  · rw [if_pos (by rw [decide_eq_true_eq]; simp; omega)]
    have hat : atI (done ++ c :: (w ++ r)) (done.length : Int) = some c := at_done
    have hc : ¬ c ∈ [32, 10] := fun z => hng (memG.mp z)
    simp (dsimp := false) only [hat, hc, ↓Kp_app, ↓w_seq, ↓w_sNil, ↓w_set, ↓w_ret, ↓w_retN, ↓w_sIf, ↓w_expr, ↓w_par, ↓w_par3, ↓w_asg, ↓w_aug, ↓w_sub, ↓w_for, ↓w_raise, ↓w_break, ↓w_cont, ↓w_op2, ↓w_op1, ↓w_cb, ↓w_c, ↓w_var, ↓w_nil, ↓w_cons, ↓w_tup, ↓w_lst, ↓w_new, ↓w_if, ↓w_test, ↓w_tru, ↓w_not, ↓w_and, ↓w_or, ↓w_andV, ↓w_orV, ↓w_notV, ↓w_chain, ↓w_call, ↓w_callK, ↓w_sl, ↓w_part0, ↓w_part1, ↓w_isi, ↓w_join, ↓w_mt, ↓w_lc, ↓w_lcN, ↓w_lcA, ↓w_it, ↓w_range1, ↓w_range2, ↓w_enum, ↓w_enumS, ↓w_zip,   OkX_ok, OkX_err, OkX_stuck, OkX_guard, o_addS, o_addT, o_addLL, o_addRL, o_addII, o_subI, o_mulI, o_mulS, o_fdivI, o_modI, o_powI, o_negI, o_ltI, o_leI, o_gtI, o_geI, o_ltS, o_leS, o_gtS, o_geS, o_eqI, o_eqS, o_neI, o_neS, o_isD, o_isnotD, o_inS, o_ixS, o_ixT, o_ixL, o_ixR, o_slS, o_slT, o_slL, o_slR, o_lenS, o_lenT, o_lenL, o_lenR, o_absI, o_intI, o_intB, o_tupT, o_tupL, o_tupR, o_maxI, o_minI,   List.set_cons_zero, List.set_cons_succ, List.getElem?_cons_zero, List.getElem?_cons_succ, List.map_cons, List.map_nil, List.length_cons, List.length_nil, List.replicate_succ, List.replicate_zero, List.cons_append, List.nil_append, Nat.reduceSub, Nat.reduceAdd, Nat.reduceLeDiff, exists_eq_left', D.bl.injEq, D.int.injEq, D.str.injEq, D.ref.injEq, D.tup.injEq, true_and, and_true, if_true, if_false, Bool.false_eq_true, Bool.not_true, Bool.not_false, decide_true, decide_false, bindP, bindPs, isK, atI_0, atI_1, atI_2, atI_3, ixN_0, ixN_1, Nat.zero_add, LINE, Nat.zero_le, truD, wipeD, Option.some.injEq]
    refine ⟨by omega, group_end_ok (w := c :: w) hl hk hw hr ?_⟩
    have sl : MP.cutD (done ++ c :: (w ++ r)) (some (done.length : Int)) (some ((done.length + (w.length + 1) : Nat) : Int)) = c :: w := by
      rw [MP.cut_mid, Nat.add_sub_cancel_left, List.drop_left]
      exact List.take_left (l₁ := c :: w) 
    simp (dsimp := false) only [hat, hc, hl0, app_append (show (gd.map D.str).length < LINE by simp [LINE]; omega), ↓Kp_app, ↓w_seq, ↓w_sNil, ↓w_set, ↓w_ret, ↓w_retN, ↓w_sIf, ↓w_expr, ↓w_par, ↓w_par3, ↓w_asg, ↓w_aug, ↓w_sub, ↓w_for, ↓w_raise, ↓w_break, ↓w_cont, ↓w_op2, ↓w_op1, ↓w_cb, ↓w_c, ↓w_var, ↓w_nil, ↓w_cons, ↓w_tup, ↓w_lst, ↓w_new, ↓w_if, ↓w_test, ↓w_tru, ↓w_not, ↓w_and, ↓w_or, ↓w_andV, ↓w_orV, ↓w_notV, ↓w_chain, ↓w_call, ↓w_callK, ↓w_sl, ↓w_part0, ↓w_part1, ↓w_isi, ↓w_join, ↓w_mt, ↓w_lc, ↓w_lcN, ↓w_lcA, ↓w_it, ↓w_range1, ↓w_range2, ↓w_enum, ↓w_enumS, ↓w_zip,   OkX_ok, OkX_err, OkX_stuck, OkX_guard, o_addS, o_addT, o_addLL, o_addRL, o_addII, o_subI, o_mulI, o_mulS, o_fdivI, o_modI, o_powI, o_negI, o_ltI, o_leI, o_gtI, o_geI, o_ltS, o_leS, o_gtS, o_geS, o_eqI, o_eqS, o_neI, o_neS, o_isD, o_isnotD, o_inS, o_ixS, o_ixT, o_ixL, o_ixR, o_slS, o_slT, o_slL, o_slR, o_lenS, o_lenT, o_lenL, o_lenR, o_absI, o_intI, o_intB, o_tupT, o_tupL, o_tupR, o_maxI, o_minI,   List.set_cons_zero, List.set_cons_succ, List.getElem?_cons_zero, List.getElem?_cons_succ, List.map_cons, List.map_nil, List.length_cons, List.length_nil, List.replicate_succ, List.replicate_zero, List.cons_append, List.nil_append, Nat.reduceSub, Nat.reduceAdd, Nat.reduceLeDiff, exists_eq_left', D.bl.injEq, D.int.injEq, D.str.injEq, D.ref.injEq, D.tup.injEq, true_and, and_true, if_true, if_false, Bool.false_eq_true, Bool.not_true, Bool.not_false, decide_true, decide_false, bindP, bindPs, isK, atI_0, atI_1, atI_2, atI_3, ixN_0, ixN_1, Nat.zero_add, LINE, Nat.zero_le, truD, wipeD, Option.some.injEq]
    refine ⟨by omega, by omega, r.length, by simp; omega, done ++ c :: w, r, gd ++ [c :: w], gs', x2, some (.int ((done.length + (w.length + 1) : Nat) : Int)), by simp, by simp, tr2, rfl, ?_, ?_⟩
    · rw [sl]; simp
    · simp

/-! the helpers -/
theorem mIs_eq : ∀ n, m__law_is n = mIs n
  | 0 => rfl
  | n + 1 => by
    show runF 4 (b__law_is (m__law_is n)) = runF 4 (bIs (mIs n))
    rw [mIs_eq n]; rfl
theorem isq {d : D} {h : List MO} {P : D → List MO → Prop} {X : Ex → List MO → Prop} (s : sameD 7 d = true) (q : P (.bl true) h) : OkX (m__law_is 8 [d, d] h) P X := by
  rw [mIs_eq]; exact is_ok 7 d h P X s q
theorem take_eq : m__law_take = runF 3 bTake := rfl
theorem pick_eq : m__law_pick = runF 2 bPick := rfl
theorem box_eq : m__law_box = runF 6 bBox := rfl
theorem OkS_nx {ρ : Rho} {h : List MO} {N : Po} : OkS (.nx ρ h) N = N.nx ρ h := id rfl
/-- a call that is refused, or not -/
theorem error_bad {n : Nat} {cs : List D} {fb : ME} {i j : Int} {P : D → List MO → Prop} {X : Ex → List MO → Prop} (hd : disp0 (.clo n cs) = some (cloF fb 0 cs)) (q : OkX (fb (cs.map some) []) (fun _ _ => False) (fun e h1 => e = exT i j ∧ h1 = [])) (p : P (.tup [.str [116, 101, 120, 116], .int i, .int j]) []) : OkX (m__law_error [.clo n cs] []) P X := by
  unfold m__law_error; rw [w_run]; unfold b__law_error
  have e : fb (cs.map some) [] = .err (exT i j) [] := by
    cases er : fb (cs.map some) [] with
    | ok d h1 => rw [er] at q; exact q.elim
    | stuck => rw [er] at q; exact q.elim
    | err e h1 => rw [er] at q; obtain ⟨rfl, rfl⟩ := q; rfl
  have ec : cloF fb 0 cs [] [] = .err (exT i j) [] := by
    unfold cloF
    rw [if_pos (by rfl), List.nil_append, e]
    rfl
  have e1 : (sSeq (sExpr (xCallV disp0 0 aNil)) sNil) [some (.clo n cs), none] [] = .err (exT i j) [some (.clo n cs), none] [] := by
    show (match ((xCallV disp0 0 aNil [some (.clo n cs), none] []).toS [some (.clo n cs), none] fun _ h1 => .nx [some (.clo n cs), none] h1) with | .nx ρ1 h1 => sNil ρ1 h1 | r => r) = _
    have : xCallV disp0 0 aNil [some (.clo n cs), none] [] = .err (exT i j) [] := by
      unfold xCallV
      simp only [List.getElem?_cons_zero, hd]
      show (Res.ok [] []).bind (fun ds h1 => cloF fb 0 cs ds h1) = _
      exact ec
    rw [this]; rfl
  rw [w_seq]
  show OkS (sTry 1 (sSeq (sExpr (xCallV disp0 0 aNil)) sNil) [⟨tab_InvalidText, goRet [.s [116, 101, 120, 116], .f "at", .f "why"]⟩, ⟨tab_InvalidPlace, goRet [.s [112, 108, 97, 99, 101], .f "at"]⟩, ⟨tab_InvalidDeed, goRet [.s [100, 101, 101, 100], .f "at"]⟩] [some (.clo n cs), none] []) _
  unfold sTry
  rw [e1]
  exact p
theorem error_told {n : Nat} {cs : List D} {fb : ME} {P : D → List MO → Prop} {X : Ex → List MO → Prop} (hd : disp0 (.clo n cs) = some (cloF fb 0 cs)) (q : OkX (fb (cs.map some) []) (fun d h1 => plD d = true ∧ h1 = []) (fun _ _ => False)) (p : P (.tup [.str [116, 111, 108, 100]]) []) : OkX (m__law_error [.clo n cs] []) P X := by
  unfold m__law_error; rw [w_run]; unfold b__law_error
  obtain ⟨d, h1, er, hp, rfl⟩ := q.ex
  have ec : cloF fb 0 cs [] [] = .ok d [] := by
    unfold cloF
    rw [if_pos (by rfl), List.nil_append, er]
    simp only [hp, if_true]
  have e1 : (sSeq (sExpr (xCallV disp0 0 aNil)) sNil) [some (.clo n cs), none] [] = .nx [some (.clo n cs), none] [] := by
    show (match ((xCallV disp0 0 aNil [some (.clo n cs), none] []).toS [some (.clo n cs), none] fun _ h1 => .nx [some (.clo n cs), none] h1) with | .nx ρ1 h1 => sNil ρ1 h1 | r => r) = _
    have : xCallV disp0 0 aNil [some (.clo n cs), none] [] = .ok d [] := by
      unfold xCallV
      simp only [List.getElem?_cons_zero, hd]
      show (Res.ok [] []).bind (fun ds h1 => cloF fb 0 cs ds h1) = _
      exact ec
    rw [this]; rfl
  rw [w_seq]
  show OkS (sTry 1 (sSeq (sExpr (xCallV disp0 0 aNil)) sNil) [⟨tab_InvalidText, goRet [.s [116, 101, 120, 116], .f "at", .f "why"]⟩, ⟨tab_InvalidPlace, goRet [.s [112, 108, 97, 99, 101], .f "at"]⟩, ⟨tab_InvalidDeed, goRet [.s [100, 101, 101, 100], .f "at"]⟩] [some (.clo n cs), none] []) _
  unfold sTry
  rw [e1]
  simp only [OkS_nx]
  simp (dsimp := false) only [↓Kp_app, ↓w_seq, ↓w_sNil, ↓w_set, ↓w_ret, ↓w_retN, ↓w_sIf, ↓w_expr, ↓w_par, ↓w_par3, ↓w_asg, ↓w_aug, ↓w_sub, ↓w_for, ↓w_raise, ↓w_break, ↓w_cont, ↓w_op2, ↓w_op1, ↓w_cb, ↓w_c, ↓w_var, ↓w_nil, ↓w_cons, ↓w_tup, ↓w_lst, ↓w_new, ↓w_if, ↓w_test, ↓w_tru, ↓w_not, ↓w_and, ↓w_or, ↓w_andV, ↓w_orV, ↓w_notV, ↓w_chain, ↓w_call, ↓w_callK, ↓w_sl, ↓w_part0, ↓w_part1, ↓w_isi, ↓w_join, ↓w_mt, ↓w_lc, ↓w_lcN, ↓w_lcA, ↓w_it, ↓w_range1, ↓w_range2, ↓w_enum, ↓w_enumS, ↓w_zip,   OkX_ok, OkX_err, OkX_stuck, OkX_guard, o_addS, o_addT, o_addLL, o_addRL, o_addII, o_subI, o_mulI, o_mulS, o_fdivI, o_modI, o_powI, o_negI, o_ltI, o_leI, o_gtI, o_geI, o_ltS, o_leS, o_gtS, o_geS, o_eqI, o_eqS, o_neI, o_neS, o_isD, o_isnotD, o_inS, o_ixS, o_ixT, o_ixL, o_ixR, o_slS, o_slT, o_slL, o_slR, o_lenS, o_lenT, o_lenL, o_lenR, o_absI, o_intI, o_intB, o_tupT, o_tupL, o_tupR, o_maxI, o_minI,   List.set_cons_zero, List.set_cons_succ, List.getElem?_cons_zero, List.getElem?_cons_succ, List.map_cons, List.map_nil, List.length_cons, List.length_nil, List.replicate_succ, List.replicate_zero, List.cons_append, List.nil_append, Nat.reduceSub, Nat.reduceAdd, Nat.reduceLeDiff, exists_eq_left', D.bl.injEq, D.int.injEq, D.str.injEq, D.ref.injEq, D.tup.injEq, true_and, and_true, if_true, if_false, Bool.false_eq_true, Bool.not_true, Bool.not_false, decide_true, decide_false, bindP, bindPs, isK, atI_0, atI_1, atI_2, atI_3, ixN_0, ixN_1, Nat.zero_add, LINE, Nat.zero_le, truD, wipeD, Option.some.injEq]
  exact p
theorem w_callC {m : MF} {n : Nat} {slots : List Nat} {a : MA} {cs : List D} {ρ : Rho} {h : List MO} {P : D → List MO → Prop} {X : Ex → List MO → Prop} (hc : capD ρ slots = some cs) (hb : belowDs 0 cs = true) (q : OkX (a ρ h) (fun ds h1 => belowDs 0 ds = true ∧ OkX (m (.clo n cs :: ds) []) (fun d h2 => plD d = true ∧ h2 = [] ∧ P d h1) (fun e h2 => plDs (e.fs.map (·.2)) = true ∧ h2 = [] ∧ X e h1)) X) : OkX (xCallC m n slots a ρ h) P X := by
  unfold xCallC
  rw [OkX_bind]
  refine q.mono (fun ds h1 z => ?_) fun e h z => z
  rw [hc]
  simp only [hb, z.1, Bool.and_self, if_true]
  have z := z.2
  cases er : m (.clo n cs :: ds) [] with
  | ok d h2 =>
    rw [er] at z
    obtain ⟨z1, rfl, z2⟩ := z
    simp only [z1, if_true]; exact z2
  | err e h2 =>
    rw [er] at z
    obtain ⟨z1, rfl, z2⟩ := z
    simp only [z1, if_true]; exact z2
  | stuck => rw [er] at z; exact z.elim
theorem lt1 {a b : Nat} : ([a] : List Nat) < [b] ↔ a < b := by simp [List.cons_lt_cons_iff]
theorem kind_ok {k : Nat} {g : List Nat} {h : List MO} {P : D → List MO → Prop} {X : Ex → List MO → Prop} (hk : k ≤ 2) (hg : Grp k g) (hl : g.length ≤ 100) (q : ∀ l, l = (if k = 0 then [108, 101, 116, 116, 101, 114] else if k = 1 then [102, 105, 103, 117, 114, 101] else [45]) → P (.str l) h) : OkX (m__law_kind [.str g] h) P X := by
  unfold m__law_kind; rw [w_run]; unfold b__law_kind
  match k, hk with
  | 0, _ =>
    obtain ⟨hne, ha⟩ := hg
    cases g with
    | nil => exact absurd rfl hne
    | cons c g =>
      have hc := ha c (by simp)
      have n1 : decide (c :: g = [45]) = false := by rw [decide_eq_false_iff_not]; intro z; cases z; exact absurd hc (by decide)
      have hlen : g.length + 1 ≤ 16777216 := by simp at hl; omega
      simp (dsimp := false) only [n1, hlen, ↓Kp_app, ↓w_seq, ↓w_sNil, ↓w_set, ↓w_ret, ↓w_retN, ↓w_sIf, ↓w_expr, ↓w_par, ↓w_par3, ↓w_asg, ↓w_aug, ↓w_sub, ↓w_for, ↓w_raise, ↓w_break, ↓w_cont, ↓w_op2, ↓w_op1, ↓w_cb, ↓w_c, ↓w_var, ↓w_nil, ↓w_cons, ↓w_tup, ↓w_lst, ↓w_new, ↓w_if, ↓w_test, ↓w_tru, ↓w_not, ↓w_and, ↓w_or, ↓w_andV, ↓w_orV, ↓w_notV, ↓w_chain, ↓w_call, ↓w_callK, ↓w_sl, ↓w_part0, ↓w_part1, ↓w_isi, ↓w_join, ↓w_mt, ↓w_lc, ↓w_lcN, ↓w_lcA, ↓w_it, ↓w_range1, ↓w_range2, ↓w_enum, ↓w_enumS, ↓w_zip,   OkX_ok, OkX_err, OkX_stuck, OkX_guard, o_addS, o_addT, o_addLL, o_addRL, o_addII, o_subI, o_mulI, o_mulS, o_fdivI, o_modI, o_powI, o_negI, o_ltI, o_leI, o_gtI, o_geI, o_ltS, o_leS, o_gtS, o_geS, o_eqI, o_eqS, o_neI, o_neS, o_isD, o_isnotD, o_inS, o_ixS, o_ixT, o_ixL, o_ixR, o_slS, o_slT, o_slL, o_slR, o_lenS, o_lenT, o_lenL, o_lenR, o_absI, o_intI, o_intB, o_tupT, o_tupL, o_tupR, o_maxI, o_minI,   List.set_cons_zero, List.set_cons_succ, List.getElem?_cons_zero, List.getElem?_cons_succ, List.map_cons, List.map_nil, List.length_cons, List.length_nil, List.replicate_succ, List.replicate_zero, List.cons_append, List.nil_append, Nat.reduceSub, Nat.reduceAdd, Nat.reduceLeDiff, exists_eq_left', D.bl.injEq, D.int.injEq, D.str.injEq, D.ref.injEq, D.tup.injEq, true_and, and_true, if_true, if_false, Bool.false_eq_true, Bool.not_true, Bool.not_false, decide_true, decide_false, bindP, bindPs, isK, atI_0, atI_1, atI_2, atI_3, ixN_0, ixN_1, Nat.zero_add, LINE, Nat.zero_le, truD, wipeD, Option.some.injEq]
      have a1 : decide ([c] < [48]) = false := by rw [decide_eq_false_iff_not, lt1]; unfold isL at hc; omega
      have a2 : decide ([57] < [c]) = true := by rw [decide_eq_true_eq, lt1]; unfold isL at hc; omega
      simp (dsimp := false) only [a1, a2, ↓Kp_app, ↓w_seq, ↓w_sNil, ↓w_set, ↓w_ret, ↓w_retN, ↓w_sIf, ↓w_expr, ↓w_par, ↓w_par3, ↓w_asg, ↓w_aug, ↓w_sub, ↓w_for, ↓w_raise, ↓w_break, ↓w_cont, ↓w_op2, ↓w_op1, ↓w_cb, ↓w_c, ↓w_var, ↓w_nil, ↓w_cons, ↓w_tup, ↓w_lst, ↓w_new, ↓w_if, ↓w_test, ↓w_tru, ↓w_not, ↓w_and, ↓w_or, ↓w_andV, ↓w_orV, ↓w_notV, ↓w_chain, ↓w_call, ↓w_callK, ↓w_sl, ↓w_part0, ↓w_part1, ↓w_isi, ↓w_join, ↓w_mt, ↓w_lc, ↓w_lcN, ↓w_lcA, ↓w_it, ↓w_range1, ↓w_range2, ↓w_enum, ↓w_enumS, ↓w_zip,   OkX_ok, OkX_err, OkX_stuck, OkX_guard, o_addS, o_addT, o_addLL, o_addRL, o_addII, o_subI, o_mulI, o_mulS, o_fdivI, o_modI, o_powI, o_negI, o_ltI, o_leI, o_gtI, o_geI, o_ltS, o_leS, o_gtS, o_geS, o_eqI, o_eqS, o_neI, o_neS, o_isD, o_isnotD, o_inS, o_ixS, o_ixT, o_ixL, o_ixR, o_slS, o_slT, o_slL, o_slR, o_lenS, o_lenT, o_lenL, o_lenR, o_absI, o_intI, o_intB, o_tupT, o_tupL, o_tupR, o_maxI, o_minI,   List.set_cons_zero, List.set_cons_succ, List.getElem?_cons_zero, List.getElem?_cons_succ, List.map_cons, List.map_nil, List.length_cons, List.length_nil, List.replicate_succ, List.replicate_zero, List.cons_append, List.nil_append, Nat.reduceSub, Nat.reduceAdd, Nat.reduceLeDiff, exists_eq_left', D.bl.injEq, D.int.injEq, D.str.injEq, D.ref.injEq, D.tup.injEq, true_and, and_true, if_true, if_false, Bool.false_eq_true, Bool.not_true, Bool.not_false, decide_true, decide_false, bindP, bindPs, isK, atI_0, atI_1, atI_2, atI_3, ixN_0, ixN_1, Nat.zero_add, LINE, Nat.zero_le, truD, wipeD, Option.some.injEq]
      exact q _ rfl
  | 1, _ =>
    obtain ⟨hne, ha⟩ := hg
    cases g with
    | nil => exact absurd rfl hne
    | cons c g =>
      have hc := ha c (by simp)
      have n1 : decide (c :: g = [45]) = false := by rw [decide_eq_false_iff_not]; intro z; cases z; exact absurd hc (by decide)
      have hlen : g.length + 1 ≤ 16777216 := by simp at hl; omega
      simp (dsimp := false) only [n1, hlen, ↓Kp_app, ↓w_seq, ↓w_sNil, ↓w_set, ↓w_ret, ↓w_retN, ↓w_sIf, ↓w_expr, ↓w_par, ↓w_par3, ↓w_asg, ↓w_aug, ↓w_sub, ↓w_for, ↓w_raise, ↓w_break, ↓w_cont, ↓w_op2, ↓w_op1, ↓w_cb, ↓w_c, ↓w_var, ↓w_nil, ↓w_cons, ↓w_tup, ↓w_lst, ↓w_new, ↓w_if, ↓w_test, ↓w_tru, ↓w_not, ↓w_and, ↓w_or, ↓w_andV, ↓w_orV, ↓w_notV, ↓w_chain, ↓w_call, ↓w_callK, ↓w_sl, ↓w_part0, ↓w_part1, ↓w_isi, ↓w_join, ↓w_mt, ↓w_lc, ↓w_lcN, ↓w_lcA, ↓w_it, ↓w_range1, ↓w_range2, ↓w_enum, ↓w_enumS, ↓w_zip,   OkX_ok, OkX_err, OkX_stuck, OkX_guard, o_addS, o_addT, o_addLL, o_addRL, o_addII, o_subI, o_mulI, o_mulS, o_fdivI, o_modI, o_powI, o_negI, o_ltI, o_leI, o_gtI, o_geI, o_ltS, o_leS, o_gtS, o_geS, o_eqI, o_eqS, o_neI, o_neS, o_isD, o_isnotD, o_inS, o_ixS, o_ixT, o_ixL, o_ixR, o_slS, o_slT, o_slL, o_slR, o_lenS, o_lenT, o_lenL, o_lenR, o_absI, o_intI, o_intB, o_tupT, o_tupL, o_tupR, o_maxI, o_minI,   List.set_cons_zero, List.set_cons_succ, List.getElem?_cons_zero, List.getElem?_cons_succ, List.map_cons, List.map_nil, List.length_cons, List.length_nil, List.replicate_succ, List.replicate_zero, List.cons_append, List.nil_append, Nat.reduceSub, Nat.reduceAdd, Nat.reduceLeDiff, exists_eq_left', D.bl.injEq, D.int.injEq, D.str.injEq, D.ref.injEq, D.tup.injEq, true_and, and_true, if_true, if_false, Bool.false_eq_true, Bool.not_true, Bool.not_false, decide_true, decide_false, bindP, bindPs, isK, atI_0, atI_1, atI_2, atI_3, ixN_0, ixN_1, Nat.zero_add, LINE, Nat.zero_le, truD, wipeD, Option.some.injEq]
      have a1 : decide ([c] < [48]) = false := by rw [decide_eq_false_iff_not, lt1]; unfold isF at hc; omega
      have a2 : decide ([57] < [c]) = false := by rw [decide_eq_false_iff_not, lt1]; unfold isF at hc; omega
      simp (dsimp := false) only [a1, a2, ↓Kp_app, ↓w_seq, ↓w_sNil, ↓w_set, ↓w_ret, ↓w_retN, ↓w_sIf, ↓w_expr, ↓w_par, ↓w_par3, ↓w_asg, ↓w_aug, ↓w_sub, ↓w_for, ↓w_raise, ↓w_break, ↓w_cont, ↓w_op2, ↓w_op1, ↓w_cb, ↓w_c, ↓w_var, ↓w_nil, ↓w_cons, ↓w_tup, ↓w_lst, ↓w_new, ↓w_if, ↓w_test, ↓w_tru, ↓w_not, ↓w_and, ↓w_or, ↓w_andV, ↓w_orV, ↓w_notV, ↓w_chain, ↓w_call, ↓w_callK, ↓w_sl, ↓w_part0, ↓w_part1, ↓w_isi, ↓w_join, ↓w_mt, ↓w_lc, ↓w_lcN, ↓w_lcA, ↓w_it, ↓w_range1, ↓w_range2, ↓w_enum, ↓w_enumS, ↓w_zip,   OkX_ok, OkX_err, OkX_stuck, OkX_guard, o_addS, o_addT, o_addLL, o_addRL, o_addII, o_subI, o_mulI, o_mulS, o_fdivI, o_modI, o_powI, o_negI, o_ltI, o_leI, o_gtI, o_geI, o_ltS, o_leS, o_gtS, o_geS, o_eqI, o_eqS, o_neI, o_neS, o_isD, o_isnotD, o_inS, o_ixS, o_ixT, o_ixL, o_ixR, o_slS, o_slT, o_slL, o_slR, o_lenS, o_lenT, o_lenL, o_lenR, o_absI, o_intI, o_intB, o_tupT, o_tupL, o_tupR, o_maxI, o_minI,   List.set_cons_zero, List.set_cons_succ, List.getElem?_cons_zero, List.getElem?_cons_succ, List.map_cons, List.map_nil, List.length_cons, List.length_nil, List.replicate_succ, List.replicate_zero, List.cons_append, List.nil_append, Nat.reduceSub, Nat.reduceAdd, Nat.reduceLeDiff, exists_eq_left', D.bl.injEq, D.int.injEq, D.str.injEq, D.ref.injEq, D.tup.injEq, true_and, and_true, if_true, if_false, Bool.false_eq_true, Bool.not_true, Bool.not_false, decide_true, decide_false, bindP, bindPs, isK, atI_0, atI_1, atI_2, atI_3, ixN_0, ixN_1, Nat.zero_add, LINE, Nat.zero_le, truD, wipeD, Option.some.injEq]
      exact q _ rfl
  | 2, _ =>
    have e : g = [45] := hg
    subst e
    simp (dsimp := false) only [↓Kp_app, ↓w_seq, ↓w_sNil, ↓w_set, ↓w_ret, ↓w_retN, ↓w_sIf, ↓w_expr, ↓w_par, ↓w_par3, ↓w_asg, ↓w_aug, ↓w_sub, ↓w_for, ↓w_raise, ↓w_break, ↓w_cont, ↓w_op2, ↓w_op1, ↓w_cb, ↓w_c, ↓w_var, ↓w_nil, ↓w_cons, ↓w_tup, ↓w_lst, ↓w_new, ↓w_if, ↓w_test, ↓w_tru, ↓w_not, ↓w_and, ↓w_or, ↓w_andV, ↓w_orV, ↓w_notV, ↓w_chain, ↓w_call, ↓w_callK, ↓w_sl, ↓w_part0, ↓w_part1, ↓w_isi, ↓w_join, ↓w_mt, ↓w_lc, ↓w_lcN, ↓w_lcA, ↓w_it, ↓w_range1, ↓w_range2, ↓w_enum, ↓w_enumS, ↓w_zip,   OkX_ok, OkX_err, OkX_stuck, OkX_guard, o_addS, o_addT, o_addLL, o_addRL, o_addII, o_subI, o_mulI, o_mulS, o_fdivI, o_modI, o_powI, o_negI, o_ltI, o_leI, o_gtI, o_geI, o_ltS, o_leS, o_gtS, o_geS, o_eqI, o_eqS, o_neI, o_neS, o_isD, o_isnotD, o_inS, o_ixS, o_ixT, o_ixL, o_ixR, o_slS, o_slT, o_slL, o_slR, o_lenS, o_lenT, o_lenL, o_lenR, o_absI, o_intI, o_intB, o_tupT, o_tupL, o_tupR, o_maxI, o_minI,   List.set_cons_zero, List.set_cons_succ, List.getElem?_cons_zero, List.getElem?_cons_succ, List.map_cons, List.map_nil, List.length_cons, List.length_nil, List.replicate_succ, List.replicate_zero, List.cons_append, List.nil_append, Nat.reduceSub, Nat.reduceAdd, Nat.reduceLeDiff, exists_eq_left', D.bl.injEq, D.int.injEq, D.str.injEq, D.ref.injEq, D.tup.injEq, true_and, and_true, if_true, if_false, Bool.false_eq_true, Bool.not_true, Bool.not_false, decide_true, decide_false, bindP, bindPs, isK, atI_0, atI_1, atI_2, atI_3, ixN_0, ixN_1, Nat.zero_add, LINE, Nat.zero_le, truD, wipeD, Option.some.injEq]
    exact q _ rfl

/-- the told text -/
abbrev bToldLoop : MS := (sSeq (sSet 5 (xAndV (xOp2 oGt (xVar 3) (xC (.int 0))) (xAndV (xOp2 oEq (xCall m__law_kind [] (aCons (xVar 4) aNil)) (xCall m__law_kind [] (aCons (xOp2 oIx (xVar 1) (xOp2 oSub (xVar 3) (xC (.int 1)))) aNil))) (xOp2 oNe (xVar 4) (xC (.str [45])))))) (sSeq (sSet 2 (xOp2 oAdd (xOp2 oAdd (xVar 2) (xIf (xTru (xVar 5)) (xCall m__law_pick [] (aCons (xVar 0) (aCons (xLst (aCons (xC (.str [32])) (aCons (xC (.str [10])) (aCons (xC (.str [32, 32])) (aCons (xC (.str [10, 10, 32])) aNil))))) aNil))) (xIf (xTest (xOp2 oGt (xVar 3) (xC (.int 0)))) (xCall m__law_pick [] (aCons (xVar 0) (aCons (xLst (aCons (xC (.str [])) (aCons (xC (.str [])) (aCons (xC (.str [32])) (aCons (xC (.str [10])) aNil))))) aNil))) (xC (.str []))))) (xVar 4))) sNil))
def ToldI (b g : Nat) (gs : List (List Nat)) (h : List MO) (pre : List D) (ρ : Rho) (h' : List MO) : Prop := ∃ done r text x3 x4 x5, gs = done ++ r ∧ pre.length = done.length ∧ ρ = [some (.ref b), some (.ref g), some (.str text), x3, x4, x5] ∧ Bx b h h' ∧ Tok text done ∧ text.length ≤ 3 + 23 * done.length ∧ (done = [] → Gap text) ∧ ∀ w, done.getLast? = some w → text.getLast? = w.getLast?
theorem last_app {α : Type} (a : List α) {b : List α} (h : b ≠ []) : (a ++ b).getLast? = b.getLast? := by
  rw [List.getLast?_append]
  cases e : b.getLast? with
  | none => exact absurd (List.getLast?_eq_none_iff.mp e) h
  | some x => rfl
theorem told_ok {b g : Nat} {gs : List (List Nat)} {h : List MO} {P : D → List MO → Prop} {X : Ex → List MO → Prop} (x : Box h b) (hg : hl h g = some (gs.map .str)) (hbg : b < g) (hgs : ∀ w ∈ gs, w.length ≤ 20 ∧ ∃ k, k ≤ 2 ∧ Grp k w) (hn : gs.length ≤ 20)
    (q : ∀ l h', Bx b h h' → Tok l gs → l.length ≤ 1000 → P (.str l) h') : OkX (m__law_told [.ref b, .ref g] h) P X := by
  unfold m__law_told; rw [w_run]; unfold b__law_told
  simp (dsimp := false) only [↓Kp_app, ↓w_seq, ↓w_sNil, ↓w_set, ↓w_ret, ↓w_retN, ↓w_sIf, ↓w_expr, ↓w_par, ↓w_par3, ↓w_asg, ↓w_aug, ↓w_sub, ↓w_for, ↓w_raise, ↓w_break, ↓w_cont, ↓w_op2, ↓w_op1, ↓w_cb, ↓w_c, ↓w_var, ↓w_nil, ↓w_cons, ↓w_tup, ↓w_lst, ↓w_new, ↓w_if, ↓w_test, ↓w_tru, ↓w_not, ↓w_and, ↓w_or, ↓w_andV, ↓w_orV, ↓w_notV, ↓w_chain, ↓w_call, ↓w_callK, ↓w_sl, ↓w_part0, ↓w_part1, ↓w_isi, ↓w_join, ↓w_mt, ↓w_lc, ↓w_lcN, ↓w_lcA, ↓w_it, ↓w_range1, ↓w_range2, ↓w_enum, ↓w_enumS, ↓w_zip,   OkX_ok, OkX_err, OkX_stuck, OkX_guard, o_addS, o_addT, o_addLL, o_addRL, o_addII, o_subI, o_mulI, o_mulS, o_fdivI, o_modI, o_powI, o_negI, o_ltI, o_leI, o_gtI, o_geI, o_ltS, o_leS, o_gtS, o_geS, o_eqI, o_eqS, o_neI, o_neS, o_isD, o_isnotD, o_inS, o_ixS, o_ixT, o_ixL, o_ixR, o_slS, o_slT, o_slL, o_slR, o_lenS, o_lenT, o_lenL, o_lenR, o_absI, o_intI, o_intB, o_tupT, o_tupL, o_tupR, o_maxI, o_minI,   List.set_cons_zero, List.set_cons_succ, List.getElem?_cons_zero, List.getElem?_cons_succ, List.map_cons, List.map_nil, List.length_cons, List.length_nil, List.replicate_succ, List.replicate_zero, List.cons_append, List.nil_append, Nat.reduceSub, Nat.reduceAdd, Nat.reduceLeDiff, exists_eq_left', D.bl.injEq, D.int.injEq, D.str.injEq, D.ref.injEq, D.tup.injEq, true_and, and_true, if_true, if_false, Bool.false_eq_true, Bool.not_true, Bool.not_false, decide_true, decide_false, bindP, bindPs, isK, atI_0, atI_1, atI_2, atI_3, ixN_0, ixN_1, Nat.zero_add, LINE, Nat.zero_le, truD, wipeD, Option.some.injEq]
  rw [pick_eq]
  refine pick_ok x (by simp) (by simp) fun d h1 hd hx => ?_
  obtain ⟨s0, rfl, hs0, hsl0⟩ : ∃ s, d = .str s ∧ Gap s ∧ s.length ≤ 3 := by
    simp only [List.mem_cons, List.not_mem_nil, or_false] at hd
    rcases hd with rfl | rfl | rfl | rfl <;> exact ⟨_, rfl, by intro c m; simp at m; try (unfold isG; omega), by simp⟩
  have hg1 : hl h1 g = some (gs.map .str) := by rw [hx.hl (by omega)]; exact hg
  simp (dsimp := false) only [hg1, ↓Kp_app, ↓w_seq, ↓w_sNil, ↓w_set, ↓w_ret, ↓w_retN, ↓w_sIf, ↓w_expr, ↓w_par, ↓w_par3, ↓w_asg, ↓w_aug, ↓w_sub, ↓w_for, ↓w_raise, ↓w_break, ↓w_cont, ↓w_op2, ↓w_op1, ↓w_cb, ↓w_c, ↓w_var, ↓w_nil, ↓w_cons, ↓w_tup, ↓w_lst, ↓w_new, ↓w_if, ↓w_test, ↓w_tru, ↓w_not, ↓w_and, ↓w_or, ↓w_andV, ↓w_orV, ↓w_notV, ↓w_chain, ↓w_call, ↓w_callK, ↓w_sl, ↓w_part0, ↓w_part1, ↓w_isi, ↓w_join, ↓w_mt, ↓w_lc, ↓w_lcN, ↓w_lcA, ↓w_it, ↓w_range1, ↓w_range2, ↓w_enum, ↓w_enumS, ↓w_zip,   OkX_ok, OkX_err, OkX_stuck, OkX_guard, o_addS, o_addT, o_addLL, o_addRL, o_addII, o_subI, o_mulI, o_mulS, o_fdivI, o_modI, o_powI, o_negI, o_ltI, o_leI, o_gtI, o_geI, o_ltS, o_leS, o_gtS, o_geS, o_eqI, o_eqS, o_neI, o_neS, o_isD, o_isnotD, o_inS, o_ixS, o_ixT, o_ixL, o_ixR, o_slS, o_slT, o_slL, o_slR, o_lenS, o_lenT, o_lenL, o_lenR, o_absI, o_intI, o_intB, o_tupT, o_tupL, o_tupR, o_maxI, o_minI,   List.set_cons_zero, List.set_cons_succ, List.getElem?_cons_zero, List.getElem?_cons_succ, List.map_cons, List.map_nil, List.length_cons, List.length_nil, List.replicate_succ, List.replicate_zero, List.cons_append, List.nil_append, Nat.reduceSub, Nat.reduceAdd, Nat.reduceLeDiff, exists_eq_left', D.bl.injEq, D.int.injEq, D.str.injEq, D.ref.injEq, D.tup.injEq, true_and, and_true, if_true, if_false, Bool.false_eq_true, Bool.not_true, Bool.not_false, decide_true, decide_false, bindP, bindPs, isK, atI_0, atI_1, atI_2, atI_3, ixN_0, ixN_1, Nat.zero_add, LINE, Nat.zero_le, truD, wipeD, Option.some.injEq]
  refine w_loopF (ToldI b g gs h)
    (fun l ρ h' i => ?_) [] _ _ _ ⟨[], gs, s0, _, _, _, rfl, rfl, rfl, hx, hs0.tok, by simp; omega, fun _ => hs0, fun w z => by simp at z⟩ (fun l d r ρ h' e i => ?_) (fun ρ h' i => ?_)
  · obtain ⟨_, _, _, _, _, _, _, _, _, hb, _⟩ := i
    unfold ckOk
    rw [decide_eq_true_eq, hb.hl (by omega)]; exact hg
  · obtain ⟨done, gr, text, x3, x4, x5, rfl, hpl, rfl, hb, ht, htl, ht0, htg⟩ := i
    rw [List.nil_append] at e
    obtain ⟨w, e1, rfl⟩ := enum_at D.str e
    rw [hpl, List.getElem?_append_right (Nat.le_refl _), Nat.sub_self] at e1
    cases gr with
    | nil => simp at e1
    | cons w' gr =>
    simp only [List.getElem?_cons_zero, Option.some.injEq] at e1
    subst e1
    obtain ⟨hw1, kw, hkw, hgw⟩ := hgs w' (by simp)
    have hgh : hl h' g = some ((done ++ w' :: gr).map .str) := by rw [hb.hl (by omega)]; exact hg
    have hdl : done.length ≤ 19 := by simp at hn; omega
    refine ⟨_, rfl, ?_⟩
    have fin : ∀ (gap : List Nat) (h2 : List MO) (y3 y4 y5 : Option D), Bx b h' h2 → Gap gap → gap.length ≤ 3 → (gap = [] → done ≠ [] → Bd text w') → ToldI b g (done ++ w' :: gr) h (l ++ [D.tup [.int (l.length : Int), .str w']]) [some (D.ref b), some (.ref g), some (.str (text ++ gap ++ w')), y3, y4, y5] h2 := fun gap h2 y3 y4 y5 hx2 hgap hgl hbd => by
      refine ⟨done ++ [w'], gr, text ++ gap ++ w', y3, y4, y5, by simp, by simp; omega, rfl, hb.trans hx2, ?_, by simp; omega, fun z => by simp at z, fun v hv => ?_⟩
      · have t1 := ht.app hgap.tok hgap.bdR
        rw [List.append_nil] at t1
        refine t1.app hgw.tok ?_
        by_cases hz : gap = []
        · subst hz
          rw [List.append_nil]
          by_cases hd : done = []
          · exact (ht0 hd).bdL
          · exact hbd rfl hd
        · intro x hx
          rw [last_app _ hz] at hx
          exact hgap.bdL x hx
      · simp at hv
        subst hv
        rw [last_app _ hgw.ne]
    rcases List.eq_nil_or_concat done with hd | ⟨dd, wl, hd⟩
    · subst hd
      have hl0 : (l.length : Int) = 0 := by rw [hpl]; rfl
      have hpos : decide ((0 : Int) < ((l.length : Nat) : Int)) = false := by rw [decide_eq_false_iff_not]; omega
      simp (dsimp := false) only [hpos, ↓Kp_app, ↓w_seq, ↓w_sNil, ↓w_set, ↓w_ret, ↓w_retN, ↓w_sIf, ↓w_expr, ↓w_par, ↓w_par3, ↓w_asg, ↓w_aug, ↓w_sub, ↓w_for, ↓w_raise, ↓w_break, ↓w_cont, ↓w_op2, ↓w_op1, ↓w_cb, ↓w_c, ↓w_var, ↓w_nil, ↓w_cons, ↓w_tup, ↓w_lst, ↓w_new, ↓w_if, ↓w_test, ↓w_tru, ↓w_not, ↓w_and, ↓w_or, ↓w_andV, ↓w_orV, ↓w_notV, ↓w_chain, ↓w_call, ↓w_callK, ↓w_sl, ↓w_part0, ↓w_part1, ↓w_isi, ↓w_join, ↓w_mt, ↓w_lc, ↓w_lcN, ↓w_lcA, ↓w_it, ↓w_range1, ↓w_range2, ↓w_enum, ↓w_enumS, ↓w_zip,   OkX_ok, OkX_err, OkX_stuck, OkX_guard, o_addS, o_addT, o_addLL, o_addRL, o_addII, o_subI, o_mulI, o_mulS, o_fdivI, o_modI, o_powI, o_negI, o_ltI, o_leI, o_gtI, o_geI, o_ltS, o_leS, o_gtS, o_geS, o_eqI, o_eqS, o_neI, o_neS, o_isD, o_isnotD, o_inS, o_ixS, o_ixT, o_ixL, o_ixR, o_slS, o_slT, o_slL, o_slR, o_lenS, o_lenT, o_lenL, o_lenR, o_absI, o_intI, o_intB, o_tupT, o_tupL, o_tupR, o_maxI, o_minI,   List.set_cons_zero, List.set_cons_succ, List.getElem?_cons_zero, List.getElem?_cons_succ, List.map_cons, List.map_nil, List.length_cons, List.length_nil, List.replicate_succ, List.replicate_zero, List.cons_append, List.nil_append, Nat.reduceSub, Nat.reduceAdd, Nat.reduceLeDiff, exists_eq_left', D.bl.injEq, D.int.injEq, D.str.injEq, D.ref.injEq, D.tup.injEq, true_and, and_true, if_true, if_false, Bool.false_eq_true, Bool.not_true, Bool.not_false, decide_true, decide_false, bindP, bindPs, isK, atI_0, atI_1, atI_2, atI_3, ixN_0, ixN_1, Nat.zero_add, LINE, Nat.zero_le, truD, wipeD, Option.some.injEq]
      refine ⟨by simp; omega, by simp; omega, ?_⟩
      exact fin [] h' _ _ _ (Bx.refl hb.box) (fun c m => by cases m) (by simp) fun _ z => absurd rfl z
    · have hdl2 : l.length = dd.length + 1 := by rw [hpl, hd]; simp
      obtain ⟨hwl1, kl, hkl, hgl⟩ := hgs wl (by rw [hd]; simp)
      have hpos : decide ((0 : Int) < ((l.length : Nat) : Int)) = true := by rw [decide_eq_true_eq]; omega
      have hat : atI ((done ++ w' :: gr).map D.str) ((l.length : Int) - 1) = some (.str wl) := by
        rw [atI_of (k := dd.length) (by omega), hd]; simp
      have g4 : ∀ s ∈ [[], [], [32], [10]], Gap s ∧ s.length ≤ 3 := by
        intro s m
        simp only [List.mem_cons, List.not_mem_nil, or_false] at m
        rcases m with rfl | rfl | rfl | rfl <;> exact ⟨by intro c m; simp at m; try (unfold isG; omega), by simp⟩
      have g3 : ∀ s ∈ [[32], [10], [32, 32], [10, 10, 32]], Gap s ∧ s.length ≤ 3 := by
        intro s m
        simp only [List.mem_cons, List.not_mem_nil, or_false] at m
        rcases m with rfl | rfl | rfl | rfl <;> exact ⟨by intro c m; simp at m; (unfold isG; omega), by simp⟩
      have bdk : kw ≠ kl ∨ kw = 2 → Bd text w' := fun hk2 => bd_kind fun x hx y hy => by
        have e1 : done.getLast? = some wl := by rw [hd]; simp
        rw [htg wl e1] at hx
        rw [hgl.kind hkl (List.mem_of_getLast? hx), hgw.kind hkw (List.mem_of_mem_head? hy)]
        omega
      simp (dsimp := false) only [hpos, ↓Kp_app, ↓w_seq, ↓w_sNil, ↓w_set, ↓w_ret, ↓w_retN, ↓w_sIf, ↓w_expr, ↓w_par, ↓w_par3, ↓w_asg, ↓w_aug, ↓w_sub, ↓w_for, ↓w_raise, ↓w_break, ↓w_cont, ↓w_op2, ↓w_op1, ↓w_cb, ↓w_c, ↓w_var, ↓w_nil, ↓w_cons, ↓w_tup, ↓w_lst, ↓w_new, ↓w_if, ↓w_test, ↓w_tru, ↓w_not, ↓w_and, ↓w_or, ↓w_andV, ↓w_orV, ↓w_notV, ↓w_chain, ↓w_call, ↓w_callK, ↓w_sl, ↓w_part0, ↓w_part1, ↓w_isi, ↓w_join, ↓w_mt, ↓w_lc, ↓w_lcN, ↓w_lcA, ↓w_it, ↓w_range1, ↓w_range2, ↓w_enum, ↓w_enumS, ↓w_zip,   OkX_ok, OkX_err, OkX_stuck, OkX_guard, o_addS, o_addT, o_addLL, o_addRL, o_addII, o_subI, o_mulI, o_mulS, o_fdivI, o_modI, o_powI, o_negI, o_ltI, o_leI, o_gtI, o_geI, o_ltS, o_leS, o_gtS, o_geS, o_eqI, o_eqS, o_neI, o_neS, o_isD, o_isnotD, o_inS, o_ixS, o_ixT, o_ixL, o_ixR, o_slS, o_slT, o_slL, o_slR, o_lenS, o_lenT, o_lenL, o_lenR, o_absI, o_intI, o_intB, o_tupT, o_tupL, o_tupR, o_maxI, o_minI,   List.set_cons_zero, List.set_cons_succ, List.getElem?_cons_zero, List.getElem?_cons_succ, List.map_cons, List.map_nil, List.length_cons, List.length_nil, List.replicate_succ, List.replicate_zero, List.cons_append, List.nil_append, Nat.reduceSub, Nat.reduceAdd, Nat.reduceLeDiff, exists_eq_left', D.bl.injEq, D.int.injEq, D.str.injEq, D.ref.injEq, D.tup.injEq, true_and, and_true, if_true, if_false, Bool.false_eq_true, Bool.not_true, Bool.not_false, decide_true, decide_false, bindP, bindPs, isK, atI_0, atI_1, atI_2, atI_3, ixN_0, ixN_1, Nat.zero_add, LINE, Nat.zero_le, truD, wipeD, Option.some.injEq]
      refine kind_ok hkw hgw (by omega) fun l1 hl1 => ?_
      simp (dsimp := false) only [hgh, hat, ↓Kp_app, ↓w_seq, ↓w_sNil, ↓w_set, ↓w_ret, ↓w_retN, ↓w_sIf, ↓w_expr, ↓w_par, ↓w_par3, ↓w_asg, ↓w_aug, ↓w_sub, ↓w_for, ↓w_raise, ↓w_break, ↓w_cont, ↓w_op2, ↓w_op1, ↓w_cb, ↓w_c, ↓w_var, ↓w_nil, ↓w_cons, ↓w_tup, ↓w_lst, ↓w_new, ↓w_if, ↓w_test, ↓w_tru, ↓w_not, ↓w_and, ↓w_or, ↓w_andV, ↓w_orV, ↓w_notV, ↓w_chain, ↓w_call, ↓w_callK, ↓w_sl, ↓w_part0, ↓w_part1, ↓w_isi, ↓w_join, ↓w_mt, ↓w_lc, ↓w_lcN, ↓w_lcA, ↓w_it, ↓w_range1, ↓w_range2, ↓w_enum, ↓w_enumS, ↓w_zip,   OkX_ok, OkX_err, OkX_stuck, OkX_guard, o_addS, o_addT, o_addLL, o_addRL, o_addII, o_subI, o_mulI, o_mulS, o_fdivI, o_modI, o_powI, o_negI, o_ltI, o_leI, o_gtI, o_geI, o_ltS, o_leS, o_gtS, o_geS, o_eqI, o_eqS, o_neI, o_neS, o_isD, o_isnotD, o_inS, o_ixS, o_ixT, o_ixL, o_ixR, o_slS, o_slT, o_slL, o_slR, o_lenS, o_lenT, o_lenL, o_lenR, o_absI, o_intI, o_intB, o_tupT, o_tupL, o_tupR, o_maxI, o_minI,   List.set_cons_zero, List.set_cons_succ, List.getElem?_cons_zero, List.getElem?_cons_succ, List.map_cons, List.map_nil, List.length_cons, List.length_nil, List.replicate_succ, List.replicate_zero, List.cons_append, List.nil_append, Nat.reduceSub, Nat.reduceAdd, Nat.reduceLeDiff, exists_eq_left', D.bl.injEq, D.int.injEq, D.str.injEq, D.ref.injEq, D.tup.injEq, true_and, and_true, if_true, if_false, Bool.false_eq_true, Bool.not_true, Bool.not_false, decide_true, decide_false, bindP, bindPs, isK, atI_0, atI_1, atI_2, atI_3, ixN_0, ixN_1, Nat.zero_add, LINE, Nat.zero_le, truD, wipeD, Option.some.injEq]
      refine kind_ok hkl hgl (by omega) fun l2 hl2 => ?_
      simp (dsimp := false) only [↓Kp_app, ↓w_seq, ↓w_sNil, ↓w_set, ↓w_ret, ↓w_retN, ↓w_sIf, ↓w_expr, ↓w_par, ↓w_par3, ↓w_asg, ↓w_aug, ↓w_sub, ↓w_for, ↓w_raise, ↓w_break, ↓w_cont, ↓w_op2, ↓w_op1, ↓w_cb, ↓w_c, ↓w_var, ↓w_nil, ↓w_cons, ↓w_tup, ↓w_lst, ↓w_new, ↓w_if, ↓w_test, ↓w_tru, ↓w_not, ↓w_and, ↓w_or, ↓w_andV, ↓w_orV, ↓w_notV, ↓w_chain, ↓w_call, ↓w_callK, ↓w_sl, ↓w_part0, ↓w_part1, ↓w_isi, ↓w_join, ↓w_mt, ↓w_lc, ↓w_lcN, ↓w_lcA, ↓w_it, ↓w_range1, ↓w_range2, ↓w_enum, ↓w_enumS, ↓w_zip,   OkX_ok, OkX_err, OkX_stuck, OkX_guard, o_addS, o_addT, o_addLL, o_addRL, o_addII, o_subI, o_mulI, o_mulS, o_fdivI, o_modI, o_powI, o_negI, o_ltI, o_leI, o_gtI, o_geI, o_ltS, o_leS, o_gtS, o_geS, o_eqI, o_eqS, o_neI, o_neS, o_isD, o_isnotD, o_inS, o_ixS, o_ixT, o_ixL, o_ixR, o_slS, o_slT, o_slL, o_slR, o_lenS, o_lenT, o_lenL, o_lenR, o_absI, o_intI, o_intB, o_tupT, o_tupL, o_tupR, o_maxI, o_minI,   List.set_cons_zero, List.set_cons_succ, List.getElem?_cons_zero, List.getElem?_cons_succ, List.map_cons, List.map_nil, List.length_cons, List.length_nil, List.replicate_succ, List.replicate_zero, List.cons_append, List.nil_append, Nat.reduceSub, Nat.reduceAdd, Nat.reduceLeDiff, exists_eq_left', D.bl.injEq, D.int.injEq, D.str.injEq, D.ref.injEq, D.tup.injEq, true_and, and_true, if_true, if_false, Bool.false_eq_true, Bool.not_true, Bool.not_false, decide_true, decide_false, bindP, bindPs, isK, atI_0, atI_1, atI_2, atI_3, ixN_0, ixN_1, Nat.zero_add, LINE, Nat.zero_le, truD, wipeD, Option.some.injEq]
      by_cases hkk : kw = kl
      · have e1 : decide (l1 = l2) = true := by rw [decide_eq_true_eq, hl1, hl2, hkk]
        by_cases hm : w' = [45]
        · have e2 : decide (w' = [45]) = true := by rw [decide_eq_true_eq]; exact hm
          simp (dsimp := false) only [e1, e2, hpos, ↓Kp_app, ↓w_seq, ↓w_sNil, ↓w_set, ↓w_ret, ↓w_retN, ↓w_sIf, ↓w_expr, ↓w_par, ↓w_par3, ↓w_asg, ↓w_aug, ↓w_sub, ↓w_for, ↓w_raise, ↓w_break, ↓w_cont, ↓w_op2, ↓w_op1, ↓w_cb, ↓w_c, ↓w_var, ↓w_nil, ↓w_cons, ↓w_tup, ↓w_lst, ↓w_new, ↓w_if, ↓w_test, ↓w_tru, ↓w_not, ↓w_and, ↓w_or, ↓w_andV, ↓w_orV, ↓w_notV, ↓w_chain, ↓w_call, ↓w_callK, ↓w_sl, ↓w_part0, ↓w_part1, ↓w_isi, ↓w_join, ↓w_mt, ↓w_lc, ↓w_lcN, ↓w_lcA, ↓w_it, ↓w_range1, ↓w_range2, ↓w_enum, ↓w_enumS, ↓w_zip,   OkX_ok, OkX_err, OkX_stuck, OkX_guard, o_addS, o_addT, o_addLL, o_addRL, o_addII, o_subI, o_mulI, o_mulS, o_fdivI, o_modI, o_powI, o_negI, o_ltI, o_leI, o_gtI, o_geI, o_ltS, o_leS, o_gtS, o_geS, o_eqI, o_eqS, o_neI, o_neS, o_isD, o_isnotD, o_inS, o_ixS, o_ixT, o_ixL, o_ixR, o_slS, o_slT, o_slL, o_slR, o_lenS, o_lenT, o_lenL, o_lenR, o_absI, o_intI, o_intB, o_tupT, o_tupL, o_tupR, o_maxI, o_minI,   List.set_cons_zero, List.set_cons_succ, List.getElem?_cons_zero, List.getElem?_cons_succ, List.map_cons, List.map_nil, List.length_cons, List.length_nil, List.replicate_succ, List.replicate_zero, List.cons_append, List.nil_append, Nat.reduceSub, Nat.reduceAdd, Nat.reduceLeDiff, exists_eq_left', D.bl.injEq, D.int.injEq, D.str.injEq, D.ref.injEq, D.tup.injEq, true_and, and_true, if_true, if_false, Bool.false_eq_true, Bool.not_true, Bool.not_false, decide_true, decide_false, bindP, bindPs, isK, atI_0, atI_1, atI_2, atI_3, ixN_0, ixN_1, Nat.zero_add, LINE, Nat.zero_le, truD, wipeD, Option.some.injEq]
          refine pick_ok hb.box (by simp) (by simp) fun d h2 hd hx2 => ?_
          obtain ⟨s, hs, rfl⟩ := List.mem_map.mp (show d ∈ ([[], [], [32], [10]] : List (List Nat)).map D.str from hd)
          obtain ⟨hs1, hs2⟩ := g4 s hs
          simp (dsimp := false) only [↓Kp_app, ↓w_seq, ↓w_sNil, ↓w_set, ↓w_ret, ↓w_retN, ↓w_sIf, ↓w_expr, ↓w_par, ↓w_par3, ↓w_asg, ↓w_aug, ↓w_sub, ↓w_for, ↓w_raise, ↓w_break, ↓w_cont, ↓w_op2, ↓w_op1, ↓w_cb, ↓w_c, ↓w_var, ↓w_nil, ↓w_cons, ↓w_tup, ↓w_lst, ↓w_new, ↓w_if, ↓w_test, ↓w_tru, ↓w_not, ↓w_and, ↓w_or, ↓w_andV, ↓w_orV, ↓w_notV, ↓w_chain, ↓w_call, ↓w_callK, ↓w_sl, ↓w_part0, ↓w_part1, ↓w_isi, ↓w_join, ↓w_mt, ↓w_lc, ↓w_lcN, ↓w_lcA, ↓w_it, ↓w_range1, ↓w_range2, ↓w_enum, ↓w_enumS, ↓w_zip,   OkX_ok, OkX_err, OkX_stuck, OkX_guard, o_addS, o_addT, o_addLL, o_addRL, o_addII, o_subI, o_mulI, o_mulS, o_fdivI, o_modI, o_powI, o_negI, o_ltI, o_leI, o_gtI, o_geI, o_ltS, o_leS, o_gtS, o_geS, o_eqI, o_eqS, o_neI, o_neS, o_isD, o_isnotD, o_inS, o_ixS, o_ixT, o_ixL, o_ixR, o_slS, o_slT, o_slL, o_slR, o_lenS, o_lenT, o_lenL, o_lenR, o_absI, o_intI, o_intB, o_tupT, o_tupL, o_tupR, o_maxI, o_minI,   List.set_cons_zero, List.set_cons_succ, List.getElem?_cons_zero, List.getElem?_cons_succ, List.map_cons, List.map_nil, List.length_cons, List.length_nil, List.replicate_succ, List.replicate_zero, List.cons_append, List.nil_append, Nat.reduceSub, Nat.reduceAdd, Nat.reduceLeDiff, exists_eq_left', D.bl.injEq, D.int.injEq, D.str.injEq, D.ref.injEq, D.tup.injEq, true_and, and_true, if_true, if_false, Bool.false_eq_true, Bool.not_true, Bool.not_false, decide_true, decide_false, bindP, bindPs, isK, atI_0, atI_1, atI_2, atI_3, ixN_0, ixN_1, Nat.zero_add, LINE, Nat.zero_le, truD, wipeD, Option.some.injEq]
          refine ⟨by omega, by simp; omega, ?_⟩
          refine fin s h2 _ _ _ hx2 hs1 hs2 fun z _ => bdk (.inr ?k2)
          match kw, hkw, hgw with
          | 0, _, hgw => exact absurd (hgw.2 45 (by rw [hm]; simp)) (by decide)
          | 1, _, hgw => exact absurd (hgw.2 45 (by rw [hm]; simp)) (by decide)
          | 2, _, _ => rfl
        · have e2 : decide (w' = [45]) = false := by rw [decide_eq_false_iff_not]; exact hm
          simp (dsimp := false) only [e1, e2, hpos, ↓Kp_app, ↓w_seq, ↓w_sNil, ↓w_set, ↓w_ret, ↓w_retN, ↓w_sIf, ↓w_expr, ↓w_par, ↓w_par3, ↓w_asg, ↓w_aug, ↓w_sub, ↓w_for, ↓w_raise, ↓w_break, ↓w_cont, ↓w_op2, ↓w_op1, ↓w_cb, ↓w_c, ↓w_var, ↓w_nil, ↓w_cons, ↓w_tup, ↓w_lst, ↓w_new, ↓w_if, ↓w_test, ↓w_tru, ↓w_not, ↓w_and, ↓w_or, ↓w_andV, ↓w_orV, ↓w_notV, ↓w_chain, ↓w_call, ↓w_callK, ↓w_sl, ↓w_part0, ↓w_part1, ↓w_isi, ↓w_join, ↓w_mt, ↓w_lc, ↓w_lcN, ↓w_lcA, ↓w_it, ↓w_range1, ↓w_range2, ↓w_enum, ↓w_enumS, ↓w_zip,   OkX_ok, OkX_err, OkX_stuck, OkX_guard, o_addS, o_addT, o_addLL, o_addRL, o_addII, o_subI, o_mulI, o_mulS, o_fdivI, o_modI, o_powI, o_negI, o_ltI, o_leI, o_gtI, o_geI, o_ltS, o_leS, o_gtS, o_geS, o_eqI, o_eqS, o_neI, o_neS, o_isD, o_isnotD, o_inS, o_ixS, o_ixT, o_ixL, o_ixR, o_slS, o_slT, o_slL, o_slR, o_lenS, o_lenT, o_lenL, o_lenR, o_absI, o_intI, o_intB, o_tupT, o_tupL, o_tupR, o_maxI, o_minI,   List.set_cons_zero, List.set_cons_succ, List.getElem?_cons_zero, List.getElem?_cons_succ, List.map_cons, List.map_nil, List.length_cons, List.length_nil, List.replicate_succ, List.replicate_zero, List.cons_append, List.nil_append, Nat.reduceSub, Nat.reduceAdd, Nat.reduceLeDiff, exists_eq_left', D.bl.injEq, D.int.injEq, D.str.injEq, D.ref.injEq, D.tup.injEq, true_and, and_true, if_true, if_false, Bool.false_eq_true, Bool.not_true, Bool.not_false, decide_true, decide_false, bindP, bindPs, isK, atI_0, atI_1, atI_2, atI_3, ixN_0, ixN_1, Nat.zero_add, LINE, Nat.zero_le, truD, wipeD, Option.some.injEq]
          refine pick_ok hb.box (by simp) (by simp) fun d h2 hd hx2 => ?_
          obtain ⟨s, hs, rfl⟩ := List.mem_map.mp (show d ∈ ([[32], [10], [32, 32], [10, 10, 32]] : List (List Nat)).map D.str from hd)
          obtain ⟨hs1, hs2⟩ := g3 s hs
          simp (dsimp := false) only [↓Kp_app, ↓w_seq, ↓w_sNil, ↓w_set, ↓w_ret, ↓w_retN, ↓w_sIf, ↓w_expr, ↓w_par, ↓w_par3, ↓w_asg, ↓w_aug, ↓w_sub, ↓w_for, ↓w_raise, ↓w_break, ↓w_cont, ↓w_op2, ↓w_op1, ↓w_cb, ↓w_c, ↓w_var, ↓w_nil, ↓w_cons, ↓w_tup, ↓w_lst, ↓w_new, ↓w_if, ↓w_test, ↓w_tru, ↓w_not, ↓w_and, ↓w_or, ↓w_andV, ↓w_orV, ↓w_notV, ↓w_chain, ↓w_call, ↓w_callK, ↓w_sl, ↓w_part0, ↓w_part1, ↓w_isi, ↓w_join, ↓w_mt, ↓w_lc, ↓w_lcN, ↓w_lcA, ↓w_it, ↓w_range1, ↓w_range2, ↓w_enum, ↓w_enumS, ↓w_zip,   OkX_ok, OkX_err, OkX_stuck, OkX_guard, o_addS, o_addT, o_addLL, o_addRL, o_addII, o_subI, o_mulI, o_mulS, o_fdivI, o_modI, o_powI, o_negI, o_ltI, o_leI, o_gtI, o_geI, o_ltS, o_leS, o_gtS, o_geS, o_eqI, o_eqS, o_neI, o_neS, o_isD, o_isnotD, o_inS, o_ixS, o_ixT, o_ixL, o_ixR, o_slS, o_slT, o_slL, o_slR, o_lenS, o_lenT, o_lenL, o_lenR, o_absI, o_intI, o_intB, o_tupT, o_tupL, o_tupR, o_maxI, o_minI,   List.set_cons_zero, List.set_cons_succ, List.getElem?_cons_zero, List.getElem?_cons_succ, List.map_cons, List.map_nil, List.length_cons, List.length_nil, List.replicate_succ, List.replicate_zero, List.cons_append, List.nil_append, Nat.reduceSub, Nat.reduceAdd, Nat.reduceLeDiff, exists_eq_left', D.bl.injEq, D.int.injEq, D.str.injEq, D.ref.injEq, D.tup.injEq, true_and, and_true, if_true, if_false, Bool.false_eq_true, Bool.not_true, Bool.not_false, decide_true, decide_false, bindP, bindPs, isK, atI_0, atI_1, atI_2, atI_3, ixN_0, ixN_1, Nat.zero_add, LINE, Nat.zero_le, truD, wipeD, Option.some.injEq]
          refine ⟨by omega, by simp; omega, ?_⟩
          exact fin s h2 _ _ _ hx2 hs1 hs2 fun z _ => absurd z (by simp only [List.mem_cons, List.not_mem_nil, or_false] at hs; rcases hs with rfl | rfl | rfl | rfl <;> simp)
      · have e1 : decide (l1 = l2) = false := by
          rw [decide_eq_false_iff_not, hl1, hl2]
          have : (kw = 0 ∨ kw = 1 ∨ kw = 2) ∧ (kl = 0 ∨ kl = 1 ∨ kl = 2) := by omega
          rcases this with ⟨rfl | rfl | rfl, rfl | rfl | rfl⟩ <;> first | exact absurd rfl hkk | decide
        simp (dsimp := false) only [e1, hpos, ↓Kp_app, ↓w_seq, ↓w_sNil, ↓w_set, ↓w_ret, ↓w_retN, ↓w_sIf, ↓w_expr, ↓w_par, ↓w_par3, ↓w_asg, ↓w_aug, ↓w_sub, ↓w_for, ↓w_raise, ↓w_break, ↓w_cont, ↓w_op2, ↓w_op1, ↓w_cb, ↓w_c, ↓w_var, ↓w_nil, ↓w_cons, ↓w_tup, ↓w_lst, ↓w_new, ↓w_if, ↓w_test, ↓w_tru, ↓w_not, ↓w_and, ↓w_or, ↓w_andV, ↓w_orV, ↓w_notV, ↓w_chain, ↓w_call, ↓w_callK, ↓w_sl, ↓w_part0, ↓w_part1, ↓w_isi, ↓w_join, ↓w_mt, ↓w_lc, ↓w_lcN, ↓w_lcA, ↓w_it, ↓w_range1, ↓w_range2, ↓w_enum, ↓w_enumS, ↓w_zip,   OkX_ok, OkX_err, OkX_stuck, OkX_guard, o_addS, o_addT, o_addLL, o_addRL, o_addII, o_subI, o_mulI, o_mulS, o_fdivI, o_modI, o_powI, o_negI, o_ltI, o_leI, o_gtI, o_geI, o_ltS, o_leS, o_gtS, o_geS, o_eqI, o_eqS, o_neI, o_neS, o_isD, o_isnotD, o_inS, o_ixS, o_ixT, o_ixL, o_ixR, o_slS, o_slT, o_slL, o_slR, o_lenS, o_lenT, o_lenL, o_lenR, o_absI, o_intI, o_intB, o_tupT, o_tupL, o_tupR, o_maxI, o_minI,   List.set_cons_zero, List.set_cons_succ, List.getElem?_cons_zero, List.getElem?_cons_succ, List.map_cons, List.map_nil, List.length_cons, List.length_nil, List.replicate_succ, List.replicate_zero, List.cons_append, List.nil_append, Nat.reduceSub, Nat.reduceAdd, Nat.reduceLeDiff, exists_eq_left', D.bl.injEq, D.int.injEq, D.str.injEq, D.ref.injEq, D.tup.injEq, true_and, and_true, if_true, if_false, Bool.false_eq_true, Bool.not_true, Bool.not_false, decide_true, decide_false, bindP, bindPs, isK, atI_0, atI_1, atI_2, atI_3, ixN_0, ixN_1, Nat.zero_add, LINE, Nat.zero_le, truD, wipeD, Option.some.injEq]
        refine pick_ok hb.box (by simp) (by simp) fun d h2 hd hx2 => ?_
        obtain ⟨s, hs, rfl⟩ := List.mem_map.mp (show d ∈ ([[], [], [32], [10]] : List (List Nat)).map D.str from hd)
        obtain ⟨hs1, hs2⟩ := g4 s hs
        simp (dsimp := false) only [↓Kp_app, ↓w_seq, ↓w_sNil, ↓w_set, ↓w_ret, ↓w_retN, ↓w_sIf, ↓w_expr, ↓w_par, ↓w_par3, ↓w_asg, ↓w_aug, ↓w_sub, ↓w_for, ↓w_raise, ↓w_break, ↓w_cont, ↓w_op2, ↓w_op1, ↓w_cb, ↓w_c, ↓w_var, ↓w_nil, ↓w_cons, ↓w_tup, ↓w_lst, ↓w_new, ↓w_if, ↓w_test, ↓w_tru, ↓w_not, ↓w_and, ↓w_or, ↓w_andV, ↓w_orV, ↓w_notV, ↓w_chain, ↓w_call, ↓w_callK, ↓w_sl, ↓w_part0, ↓w_part1, ↓w_isi, ↓w_join, ↓w_mt, ↓w_lc, ↓w_lcN, ↓w_lcA, ↓w_it, ↓w_range1, ↓w_range2, ↓w_enum, ↓w_enumS, ↓w_zip,   OkX_ok, OkX_err, OkX_stuck, OkX_guard, o_addS, o_addT, o_addLL, o_addRL, o_addII, o_subI, o_mulI, o_mulS, o_fdivI, o_modI, o_powI, o_negI, o_ltI, o_leI, o_gtI, o_geI, o_ltS, o_leS, o_gtS, o_geS, o_eqI, o_eqS, o_neI, o_neS, o_isD, o_isnotD, o_inS, o_ixS, o_ixT, o_ixL, o_ixR, o_slS, o_slT, o_slL, o_slR, o_lenS, o_lenT, o_lenL, o_lenR, o_absI, o_intI, o_intB, o_tupT, o_tupL, o_tupR, o_maxI, o_minI,   List.set_cons_zero, List.set_cons_succ, List.getElem?_cons_zero, List.getElem?_cons_succ, List.map_cons, List.map_nil, List.length_cons, List.length_nil, List.replicate_succ, List.replicate_zero, List.cons_append, List.nil_append, Nat.reduceSub, Nat.reduceAdd, Nat.reduceLeDiff, exists_eq_left', D.bl.injEq, D.int.injEq, D.str.injEq, D.ref.injEq, D.tup.injEq, true_and, and_true, if_true, if_false, Bool.false_eq_true, Bool.not_true, Bool.not_false, decide_true, decide_false, bindP, bindPs, isK, atI_0, atI_1, atI_2, atI_3, ixN_0, ixN_1, Nat.zero_add, LINE, Nat.zero_le, truD, wipeD, Option.some.injEq]
        refine ⟨by omega, by simp; omega, ?_⟩
        exact fin s h2 _ _ _ hx2 hs1 hs2 fun z _ => bdk (.inl hkk)
  · obtain ⟨done, gr, text, x3, x4, x5, rfl, hpl, rfl, hb, ht, htl, ht0, htg⟩ := i
    have : gr = [] := by
      simp [enumD_len] at hpl
      exact hpl
    subst this
    simp only [List.append_nil] at *
    simp (dsimp := false) only [↓Kp_app, ↓w_seq, ↓w_sNil, ↓w_set, ↓w_ret, ↓w_retN, ↓w_sIf, ↓w_expr, ↓w_par, ↓w_par3, ↓w_asg, ↓w_aug, ↓w_sub, ↓w_for, ↓w_raise, ↓w_break, ↓w_cont, ↓w_op2, ↓w_op1, ↓w_cb, ↓w_c, ↓w_var, ↓w_nil, ↓w_cons, ↓w_tup, ↓w_lst, ↓w_new, ↓w_if, ↓w_test, ↓w_tru, ↓w_not, ↓w_and, ↓w_or, ↓w_andV, ↓w_orV, ↓w_notV, ↓w_chain, ↓w_call, ↓w_callK, ↓w_sl, ↓w_part0, ↓w_part1, ↓w_isi, ↓w_join, ↓w_mt, ↓w_lc, ↓w_lcN, ↓w_lcA, ↓w_it, ↓w_range1, ↓w_range2, ↓w_enum, ↓w_enumS, ↓w_zip,   OkX_ok, OkX_err, OkX_stuck, OkX_guard, o_addS, o_addT, o_addLL, o_addRL, o_addII, o_subI, o_mulI, o_mulS, o_fdivI, o_modI, o_powI, o_negI, o_ltI, o_leI, o_gtI, o_geI, o_ltS, o_leS, o_gtS, o_geS, o_eqI, o_eqS, o_neI, o_neS, o_isD, o_isnotD, o_inS, o_ixS, o_ixT, o_ixL, o_ixR, o_slS, o_slT, o_slL, o_slR, o_lenS, o_lenT, o_lenL, o_lenR, o_absI, o_intI, o_intB, o_tupT, o_tupL, o_tupR, o_maxI, o_minI,   List.set_cons_zero, List.set_cons_succ, List.getElem?_cons_zero, List.getElem?_cons_succ, List.map_cons, List.map_nil, List.length_cons, List.length_nil, List.replicate_succ, List.replicate_zero, List.cons_append, List.nil_append, Nat.reduceSub, Nat.reduceAdd, Nat.reduceLeDiff, exists_eq_left', D.bl.injEq, D.int.injEq, D.str.injEq, D.ref.injEq, D.tup.injEq, true_and, and_true, if_true, if_false, Bool.false_eq_true, Bool.not_true, Bool.not_false, decide_true, decide_false, bindP, bindPs, isK, atI_0, atI_1, atI_2, atI_3, ixN_0, ixN_1, Nat.zero_add, LINE, Nat.zero_le, truD, wipeD, Option.some.injEq]
    refine pick_ok hb.box (by simp) (by simp) fun d h2 hd hx2 => ?_
    obtain ⟨s1, rfl, hs1, hsl1⟩ : ∃ s, d = .str s ∧ Gap s ∧ s.length ≤ 3 := by
      simp only [List.mem_cons, List.not_mem_nil, or_false] at hd
      rcases hd with rfl | rfl | rfl <;> exact ⟨_, rfl, by intro c m; simp at m; try (unfold isG; omega), by simp⟩
    simp (dsimp := false) only [↓Kp_app, ↓w_seq, ↓w_sNil, ↓w_set, ↓w_ret, ↓w_retN, ↓w_sIf, ↓w_expr, ↓w_par, ↓w_par3, ↓w_asg, ↓w_aug, ↓w_sub, ↓w_for, ↓w_raise, ↓w_break, ↓w_cont, ↓w_op2, ↓w_op1, ↓w_cb, ↓w_c, ↓w_var, ↓w_nil, ↓w_cons, ↓w_tup, ↓w_lst, ↓w_new, ↓w_if, ↓w_test, ↓w_tru, ↓w_not, ↓w_and, ↓w_or, ↓w_andV, ↓w_orV, ↓w_notV, ↓w_chain, ↓w_call, ↓w_callK, ↓w_sl, ↓w_part0, ↓w_part1, ↓w_isi, ↓w_join, ↓w_mt, ↓w_lc, ↓w_lcN, ↓w_lcA, ↓w_it, ↓w_range1, ↓w_range2, ↓w_enum, ↓w_enumS, ↓w_zip,   OkX_ok, OkX_err, OkX_stuck, OkX_guard, o_addS, o_addT, o_addLL, o_addRL, o_addII, o_subI, o_mulI, o_mulS, o_fdivI, o_modI, o_powI, o_negI, o_ltI, o_leI, o_gtI, o_geI, o_ltS, o_leS, o_gtS, o_geS, o_eqI, o_eqS, o_neI, o_neS, o_isD, o_isnotD, o_inS, o_ixS, o_ixT, o_ixL, o_ixR, o_slS, o_slT, o_slL, o_slR, o_lenS, o_lenT, o_lenL, o_lenR, o_absI, o_intI, o_intB, o_tupT, o_tupL, o_tupR, o_maxI, o_minI,   List.set_cons_zero, List.set_cons_succ, List.getElem?_cons_zero, List.getElem?_cons_succ, List.map_cons, List.map_nil, List.length_cons, List.length_nil, List.replicate_succ, List.replicate_zero, List.cons_append, List.nil_append, Nat.reduceSub, Nat.reduceAdd, Nat.reduceLeDiff, exists_eq_left', D.bl.injEq, D.int.injEq, D.str.injEq, D.ref.injEq, D.tup.injEq, true_and, and_true, if_true, if_false, Bool.false_eq_true, Bool.not_true, Bool.not_false, decide_true, decide_false, bindP, bindPs, isK, atI_0, atI_1, atI_2, atI_3, ixN_0, ixN_1, Nat.zero_add, LINE, Nat.zero_le, truD, wipeD, Option.some.injEq]
    refine ⟨by omega, q _ _ (hb.trans hx2) ?_ (by simp; omega)⟩
    have := ht.app hs1.tok hs1.bdR
    rwa [List.append_nil] at this

/-! all -/
theorem lam3_bad {d : D} {P : D → List MO → Prop} (hd : isiD ["str"] d = some false) (hp : plD d = true) (hb : belowD 0 d = true) : OkX (e_0 ([d, D.clo 3 []].map some) []) P (fun e h1 => e = exT (-1) 0 ∧ h1 = []) := by
  unfold e_0
  have e : cloF e_3 1 [] [d] [] = .err (exT (-1) 0) [] := by
    unfold cloF
    rw [if_pos (by simp [plDs, hp])]
    have : e_3 (([d] ++ []).map some) [] = .err (exT (-1) 0) [] := by
      unfold e_3
      have q : OkX (xCall m_cut_groups [] (aCons (xVar 0) aNil) (([d] ++ []).map some) []) (fun _ _ => False) (fun e h1 => e = exT (-1) 0 ∧ h1 = []) := by
        simp (dsimp := false) only [↓Kp_app, ↓w_seq, ↓w_sNil, ↓w_set, ↓w_ret, ↓w_retN, ↓w_sIf, ↓w_expr, ↓w_par, ↓w_par3, ↓w_asg, ↓w_aug, ↓w_sub, ↓w_for, ↓w_raise, ↓w_break, ↓w_cont, ↓w_op2, ↓w_op1, ↓w_cb, ↓w_c, ↓w_var, ↓w_nil, ↓w_cons, ↓w_tup, ↓w_lst, ↓w_new, ↓w_if, ↓w_test, ↓w_tru, ↓w_not, ↓w_and, ↓w_or, ↓w_andV, ↓w_orV, ↓w_notV, ↓w_chain, ↓w_call, ↓w_callK, ↓w_sl, ↓w_part0, ↓w_part1, ↓w_isi, ↓w_join, ↓w_mt, ↓w_lc, ↓w_lcN, ↓w_lcA, ↓w_it, ↓w_range1, ↓w_range2, ↓w_enum, ↓w_enumS, ↓w_zip,   OkX_ok, OkX_err, OkX_stuck, OkX_guard, o_addS, o_addT, o_addLL, o_addRL, o_addII, o_subI, o_mulI, o_mulS, o_fdivI, o_modI, o_powI, o_negI, o_ltI, o_leI, o_gtI, o_geI, o_ltS, o_leS, o_gtS, o_geS, o_eqI, o_eqS, o_neI, o_neS, o_isD, o_isnotD, o_inS, o_ixS, o_ixT, o_ixL, o_ixR, o_slS, o_slT, o_slL, o_slR, o_lenS, o_lenT, o_lenL, o_lenR, o_absI, o_intI, o_intB, o_tupT, o_tupL, o_tupR, o_maxI, o_minI,   List.set_cons_zero, List.set_cons_succ, List.getElem?_cons_zero, List.getElem?_cons_succ, List.map_cons, List.map_nil, List.length_cons, List.length_nil, List.replicate_succ, List.replicate_zero, List.cons_append, List.nil_append, Nat.reduceSub, Nat.reduceAdd, Nat.reduceLeDiff, exists_eq_left', D.bl.injEq, D.int.injEq, D.str.injEq, D.ref.injEq, D.tup.injEq, true_and, and_true, if_true, if_false, Bool.false_eq_true, Bool.not_true, Bool.not_false, decide_true, decide_false, bindP, bindPs, isK, atI_0, atI_1, atI_2, atI_3, ixN_0, ixN_1, Nat.zero_add, LINE, Nat.zero_le, truD, wipeD, Option.some.injEq]
        exact cut_bad0 hd hb ⟨rfl, rfl⟩
      cases er : xCall m_cut_groups [] (aCons (xVar 0) aNil) (([d] ++ []).map some) [] with
      | ok d h1 => rw [er] at q; exact q.elim
      | stuck => rw [er] at q; exact q.elim
      | err e h1 => rw [er] at q; obtain ⟨rfl, rfl⟩ := q; rfl
    rw [this]; rfl
  unfold xCallV
  show OkX (Res.bind (Res.ok [d] []) fun ds h1 => cloF e_3 1 [] ds h1) P _
  show OkX (cloF e_3 1 [] [d] []) P _
  rw [e]
  exact ⟨rfl, rfl⟩
theorem all_ok {ds : List D} {h : List MO} {P : D → List MO → Prop} {X : Ex → List MO → Prop} (hds : ∀ d ∈ ds, isiD ["str"] d = some false ∧ plD d = true ∧ belowD 0 d = true) (q : P (.bl true) h) : OkX (m__law_all [.clo 3 [], .lst ds, .tup [.str [116, 101, 120, 116], .int (-1), .int 0]] h) P X := by
  unfold m__law_all; rw [w_run]; unfold b__law_all
  simp (dsimp := false) only [itemsD, ↓Kp_app, ↓w_seq, ↓w_sNil, ↓w_set, ↓w_ret, ↓w_retN, ↓w_sIf, ↓w_expr, ↓w_par, ↓w_par3, ↓w_asg, ↓w_aug, ↓w_sub, ↓w_for, ↓w_raise, ↓w_break, ↓w_cont, ↓w_op2, ↓w_op1, ↓w_cb, ↓w_c, ↓w_var, ↓w_nil, ↓w_cons, ↓w_tup, ↓w_lst, ↓w_new, ↓w_if, ↓w_test, ↓w_tru, ↓w_not, ↓w_and, ↓w_or, ↓w_andV, ↓w_orV, ↓w_notV, ↓w_chain, ↓w_call, ↓w_callK, ↓w_sl, ↓w_part0, ↓w_part1, ↓w_isi, ↓w_join, ↓w_mt, ↓w_lc, ↓w_lcN, ↓w_lcA, ↓w_it, ↓w_range1, ↓w_range2, ↓w_enum, ↓w_enumS, ↓w_zip,   OkX_ok, OkX_err, OkX_stuck, OkX_guard, o_addS, o_addT, o_addLL, o_addRL, o_addII, o_subI, o_mulI, o_mulS, o_fdivI, o_modI, o_powI, o_negI, o_ltI, o_leI, o_gtI, o_geI, o_ltS, o_leS, o_gtS, o_geS, o_eqI, o_eqS, o_neI, o_neS, o_isD, o_isnotD, o_inS, o_ixS, o_ixT, o_ixL, o_ixR, o_slS, o_slT, o_slL, o_slR, o_lenS, o_lenT, o_lenL, o_lenR, o_absI, o_intI, o_intB, o_tupT, o_tupL, o_tupR, o_maxI, o_minI,   List.set_cons_zero, List.set_cons_succ, List.getElem?_cons_zero, List.getElem?_cons_succ, List.map_cons, List.map_nil, List.length_cons, List.length_nil, List.replicate_succ, List.replicate_zero, List.cons_append, List.nil_append, Nat.reduceSub, Nat.reduceAdd, Nat.reduceLeDiff, exists_eq_left', D.bl.injEq, D.int.injEq, D.str.injEq, D.ref.injEq, D.tup.injEq, true_and, and_true, if_true, if_false, Bool.false_eq_true, Bool.not_true, Bool.not_false, decide_true, decide_false, bindP, bindPs, isK, atI_0, atI_1, atI_2, atI_3, ixN_0, ixN_1, Nat.zero_add, LINE, Nat.zero_le, truD, wipeD, Option.some.injEq]
  refine w_loopF (fun _ ρ h' => (∃ x3, ρ = [some (.clo 3 []), some (.lst ds), some (.tup [.str [116, 101, 120, 116], .int (-1), .int 0]), x3]) ∧ h' = h) (fun _ _ _ _ => rfl) [] ds _ _ ⟨⟨_, rfl⟩, rfl⟩ (fun l d r ρ h' e i => ?_) (fun ρ h' i => ?_)
  · obtain ⟨⟨x3, rfl⟩, rfl⟩ := i
    obtain ⟨d1, d2, d3⟩ := hds d (by rw [List.nil_append] at e; rw [e]; simp)
    refine ⟨_, rfl, ?_⟩
    simp (dsimp := false) only [↓Kp_app, ↓w_seq, ↓w_sNil, ↓w_set, ↓w_ret, ↓w_retN, ↓w_sIf, ↓w_expr, ↓w_par, ↓w_par3, ↓w_asg, ↓w_aug, ↓w_sub, ↓w_for, ↓w_raise, ↓w_break, ↓w_cont, ↓w_op2, ↓w_op1, ↓w_cb, ↓w_c, ↓w_var, ↓w_nil, ↓w_cons, ↓w_tup, ↓w_lst, ↓w_new, ↓w_if, ↓w_test, ↓w_tru, ↓w_not, ↓w_and, ↓w_or, ↓w_andV, ↓w_orV, ↓w_notV, ↓w_chain, ↓w_call, ↓w_callK, ↓w_sl, ↓w_part0, ↓w_part1, ↓w_isi, ↓w_join, ↓w_mt, ↓w_lc, ↓w_lcN, ↓w_lcA, ↓w_it, ↓w_range1, ↓w_range2, ↓w_enum, ↓w_enumS, ↓w_zip,   OkX_ok, OkX_err, OkX_stuck, OkX_guard, o_addS, o_addT, o_addLL, o_addRL, o_addII, o_subI, o_mulI, o_mulS, o_fdivI, o_modI, o_powI, o_negI, o_ltI, o_leI, o_gtI, o_geI, o_ltS, o_leS, o_gtS, o_geS, o_eqI, o_eqS, o_neI, o_neS, o_isD, o_isnotD, o_inS, o_ixS, o_ixT, o_ixL, o_ixR, o_slS, o_slT, o_slL, o_slR, o_lenS, o_lenT, o_lenL, o_lenR, o_absI, o_intI, o_intB, o_tupT, o_tupL, o_tupR, o_maxI, o_minI,   List.set_cons_zero, List.set_cons_succ, List.getElem?_cons_zero, List.getElem?_cons_succ, List.map_cons, List.map_nil, List.length_cons, List.length_nil, List.replicate_succ, List.replicate_zero, List.cons_append, List.nil_append, Nat.reduceSub, Nat.reduceAdd, Nat.reduceLeDiff, exists_eq_left', D.bl.injEq, D.int.injEq, D.str.injEq, D.ref.injEq, D.tup.injEq, true_and, and_true, if_true, if_false, Bool.false_eq_true, Bool.not_true, Bool.not_false, decide_true, decide_false, bindP, bindPs, isK, atI_0, atI_1, atI_2, atI_3, ixN_0, ixN_1, Nat.zero_add, LINE, Nat.zero_le, truD, wipeD, Option.some.injEq]
    refine w_callC (cs := [d, .clo 3 []]) rfl (by simp [belowDs, d3, belowD]) ?_
    simp (dsimp := false) only [↓Kp_app, ↓w_seq, ↓w_sNil, ↓w_set, ↓w_ret, ↓w_retN, ↓w_sIf, ↓w_expr, ↓w_par, ↓w_par3, ↓w_asg, ↓w_aug, ↓w_sub, ↓w_for, ↓w_raise, ↓w_break, ↓w_cont, ↓w_op2, ↓w_op1, ↓w_cb, ↓w_c, ↓w_var, ↓w_nil, ↓w_cons, ↓w_tup, ↓w_lst, ↓w_new, ↓w_if, ↓w_test, ↓w_tru, ↓w_not, ↓w_and, ↓w_or, ↓w_andV, ↓w_orV, ↓w_notV, ↓w_chain, ↓w_call, ↓w_callK, ↓w_sl, ↓w_part0, ↓w_part1, ↓w_isi, ↓w_join, ↓w_mt, ↓w_lc, ↓w_lcN, ↓w_lcA, ↓w_it, ↓w_range1, ↓w_range2, ↓w_enum, ↓w_enumS, ↓w_zip,   OkX_ok, OkX_err, OkX_stuck, OkX_guard, o_addS, o_addT, o_addLL, o_addRL, o_addII, o_subI, o_mulI, o_mulS, o_fdivI, o_modI, o_powI, o_negI, o_ltI, o_leI, o_gtI, o_geI, o_ltS, o_leS, o_gtS, o_geS, o_eqI, o_eqS, o_neI, o_neS, o_isD, o_isnotD, o_inS, o_ixS, o_ixT, o_ixL, o_ixR, o_slS, o_slT, o_slL, o_slR, o_lenS, o_lenT, o_lenL, o_lenR, o_absI, o_intI, o_intB, o_tupT, o_tupL, o_tupR, o_maxI, o_minI,   List.set_cons_zero, List.set_cons_succ, List.getElem?_cons_zero, List.getElem?_cons_succ, List.map_cons, List.map_nil, List.length_cons, List.length_nil, List.replicate_succ, List.replicate_zero, List.cons_append, List.nil_append, Nat.reduceSub, Nat.reduceAdd, Nat.reduceLeDiff, exists_eq_left', D.bl.injEq, D.int.injEq, D.str.injEq, D.ref.injEq, D.tup.injEq, true_and, and_true, if_true, if_false, Bool.false_eq_true, Bool.not_true, Bool.not_false, decide_true, decide_false, bindP, bindPs, isK, atI_0, atI_1, atI_2, atI_3, ixN_0, ixN_1, Nat.zero_add, LINE, Nat.zero_le, truD, wipeD, Option.some.injEq]
    refine ⟨rfl, error_bad (n := 0) (cs := [d, .clo 3 []]) (fb := e_0) (i := -1) (j := 0) rfl (lam3_bad d1 d2 d3) ?_⟩
    refine ⟨rfl, rfl, ?_⟩
    refine isq rfl ?_
    simp (dsimp := false) only [↓Kp_app, ↓w_seq, ↓w_sNil, ↓w_set, ↓w_ret, ↓w_retN, ↓w_sIf, ↓w_expr, ↓w_par, ↓w_par3, ↓w_asg, ↓w_aug, ↓w_sub, ↓w_for, ↓w_raise, ↓w_break, ↓w_cont, ↓w_op2, ↓w_op1, ↓w_cb, ↓w_c, ↓w_var, ↓w_nil, ↓w_cons, ↓w_tup, ↓w_lst, ↓w_new, ↓w_if, ↓w_test, ↓w_tru, ↓w_not, ↓w_and, ↓w_or, ↓w_andV, ↓w_orV, ↓w_notV, ↓w_chain, ↓w_call, ↓w_callK, ↓w_sl, ↓w_part0, ↓w_part1, ↓w_isi, ↓w_join, ↓w_mt, ↓w_lc, ↓w_lcN, ↓w_lcA, ↓w_it, ↓w_range1, ↓w_range2, ↓w_enum, ↓w_enumS, ↓w_zip,   OkX_ok, OkX_err, OkX_stuck, OkX_guard, o_addS, o_addT, o_addLL, o_addRL, o_addII, o_subI, o_mulI, o_mulS, o_fdivI, o_modI, o_powI, o_negI, o_ltI, o_leI, o_gtI, o_geI, o_ltS, o_leS, o_gtS, o_geS, o_eqI, o_eqS, o_neI, o_neS, o_isD, o_isnotD, o_inS, o_ixS, o_ixT, o_ixL, o_ixR, o_slS, o_slT, o_slL, o_slR, o_lenS, o_lenT, o_lenL, o_lenR, o_absI, o_intI, o_intB, o_tupT, o_tupL, o_tupR, o_maxI, o_minI,   List.set_cons_zero, List.set_cons_succ, List.getElem?_cons_zero, List.getElem?_cons_succ, List.map_cons, List.map_nil, List.length_cons, List.length_nil, List.replicate_succ, List.replicate_zero, List.cons_append, List.nil_append, Nat.reduceSub, Nat.reduceAdd, Nat.reduceLeDiff, exists_eq_left', D.bl.injEq, D.int.injEq, D.str.injEq, D.ref.injEq, D.tup.injEq, true_and, and_true, if_true, if_false, Bool.false_eq_true, Bool.not_true, Bool.not_false, decide_true, decide_false, bindP, bindPs, isK, atI_0, atI_1, atI_2, atI_3, ixN_0, ixN_1, Nat.zero_add, LINE, Nat.zero_le, truD, wipeD, Option.some.injEq]
    exact ⟨_, rfl⟩
  · obtain ⟨⟨x3, rfl⟩, rfl⟩ := i
    simp (dsimp := false) only [↓Kp_app, ↓w_seq, ↓w_sNil, ↓w_set, ↓w_ret, ↓w_retN, ↓w_sIf, ↓w_expr, ↓w_par, ↓w_par3, ↓w_asg, ↓w_aug, ↓w_sub, ↓w_for, ↓w_raise, ↓w_break, ↓w_cont, ↓w_op2, ↓w_op1, ↓w_cb, ↓w_c, ↓w_var, ↓w_nil, ↓w_cons, ↓w_tup, ↓w_lst, ↓w_new, ↓w_if, ↓w_test, ↓w_tru, ↓w_not, ↓w_and, ↓w_or, ↓w_andV, ↓w_orV, ↓w_notV, ↓w_chain, ↓w_call, ↓w_callK, ↓w_sl, ↓w_part0, ↓w_part1, ↓w_isi, ↓w_join, ↓w_mt, ↓w_lc, ↓w_lcN, ↓w_lcA, ↓w_it, ↓w_range1, ↓w_range2, ↓w_enum, ↓w_enumS, ↓w_zip,   OkX_ok, OkX_err, OkX_stuck, OkX_guard, o_addS, o_addT, o_addLL, o_addRL, o_addII, o_subI, o_mulI, o_mulS, o_fdivI, o_modI, o_powI, o_negI, o_ltI, o_leI, o_gtI, o_geI, o_ltS, o_leS, o_gtS, o_geS, o_eqI, o_eqS, o_neI, o_neS, o_isD, o_isnotD, o_inS, o_ixS, o_ixT, o_ixL, o_ixR, o_slS, o_slT, o_slL, o_slR, o_lenS, o_lenT, o_lenL, o_lenR, o_absI, o_intI, o_intB, o_tupT, o_tupL, o_tupR, o_maxI, o_minI,   List.set_cons_zero, List.set_cons_succ, List.getElem?_cons_zero, List.getElem?_cons_succ, List.map_cons, List.map_nil, List.length_cons, List.length_nil, List.replicate_succ, List.replicate_zero, List.cons_append, List.nil_append, Nat.reduceSub, Nat.reduceAdd, Nat.reduceLeDiff, exists_eq_left', D.bl.injEq, D.int.injEq, D.str.injEq, D.ref.injEq, D.tup.injEq, true_and, and_true, if_true, if_false, Bool.false_eq_true, Bool.not_true, Bool.not_false, decide_true, decide_false, bindP, bindPs, isK, atI_0, atI_1, atI_2, atI_3, ixN_0, ixN_1, Nat.zero_add, LINE, Nat.zero_le, truD, wipeD, Option.some.injEq]
    exact q
/-! the law -/
def LawI (sc : D) (ρ : Rho) (h : List MO) : Prop := (∃ x3 x4 x5 x6 x7 x8 x9 x10 x11 x12 x13 x14, ρ = [some sc, some (.ref 1), some (.str Lts), x3, x4, x5, x6, x7, x8, x9, x10, x11, x12, x13, x14]) ∧ Box h 1
def GrpI (sc : D) (g : Nat) (pre : List D) (ρ : Rho) (h : List MO) : Prop := (∃ x3 x5 x6 x7 x8 x9 x10 x11 x12 x13 x14, ρ = [some sc, some (.ref 1), some (.str Lts), x3, some (.ref g), x5, x6, x7, x8, x9, x10, x11, x12, x13, x14]) ∧ Box h 1 ∧ 1 < g ∧ ∃ gs : List (List Nat), hl h g = some (gs.map .str) ∧ gs.length ≤ pre.length ∧ ∀ w ∈ gs, w.length ≤ 20 ∧ ∃ k, k ≤ 2 ∧ Grp k w
theorem strs_signs : ∀ cs : List Nat, strsD (cs.map fun c => D.str [c]) = some (cs.map fun c => [c])
  | [] => rfl
  | c :: cs => by
    show (strsD (cs.map fun c => D.str [c])).map ([c] :: ·) = _
    rw [strs_signs cs]; rfl
theorem join_signs : ∀ cs : List Nat, joinD [] (cs.map fun c => [c]) = cs
  | [] => rfl
  | [c] => rfl
  | c :: d :: cs => by
    show [c] ++ [] ++ joinD [] ((d :: cs).map fun c => [c]) = _
    rw [join_signs (d :: cs)]; rfl
theorem sum_signs : ∀ cs : List Nat, ((cs.map fun c => [c]).map List.length).sum = cs.length
  | [] => rfl
  | c :: cs => by
    show 1 + ((cs.map fun c => [c]).map List.length).sum = cs.length + 1
    rw [sum_signs cs]; omega
theorem join_ok {cs : List Nat} {h : List MO} {P : D → List MO → Prop} {X : Ex → List MO → Prop} (hl : cs.length ≤ 1000) (q : P (.str cs) h) : OkX (oJoin [] (.lst (cs.map fun c => D.str [c])) h) P X := by
  unfold oJoin
  show OkX (match strsD (cs.map fun c => D.str [c]) with | some ys => _ | none => _) P X
  rw [strs_signs]
  simp only [OkX_guard, join_signs, sum_signs]
  refine ⟨?_, q⟩
  simp [LINE]; omega
theorem draws_ok {fe : ME} {ρ0 : Rho} {n : Int} {h : List MO} {p : Nat → Prop} {PA : List D → List MO → Prop} {X : Ex → List MO → Prop} (hb : Box h 1) (hn : n ≤ 1000)
    (step : ∀ (i : D) h', Box h' 1 → ∀ P : D → List MO → Prop, (∀ c h2, p c → Bx 1 h' h2 → P (.str [c]) h2) → OkX (fe (ρ0.set 14 (some i)) h') P fun _ _ => False)
    (q : ∀ (cs : List Nat) h', cs.length = n.toNat → (∀ c ∈ cs, p c) → Bx 1 h h' → PA (cs.map fun c => .str [c]) h') : OkX (loopC (.nm 14) xYes fe ⟨rangeD 0 n.toNat, none⟩ ρ0 (rangeD 0 n.toNat) [] h) PA X := by
  unfold rangeD
  refine w_loopC (fun (i : Nat) => D.int (0 + (i : Int))) (fun l a h' => ∃ cs : List Nat, a = cs.map (fun c => D.str [c]) ∧ cs.length = l.length ∧ (∀ c ∈ cs, p c) ∧ Bx 1 h h') (fun _ _ _ _ => by rfl) (List.range n.toNat) h ⟨[], rfl, rfl, (fun c m => by cases m), Bx.refl hb⟩ (fun l x r a h' e i => ?_) (fun a h' i => ?_)
  · obtain ⟨cs, rfl, h1, h2, h3⟩ := i
    refine ⟨_, rfl, ?_⟩
    show OkX (Res.ok true h') _ _
    rw [OkX_ok, if_pos rfl]
    refine step _ h' h3.box _ fun c h2' pc hx => ⟨?_, cs ++ [c], by simp, by simp; omega, fun d m => ?_, h3.trans hx⟩
    · have := congrArg List.length e
      simp at this
      simp [LINE]; omega
    · rcases List.mem_append.mp m with m | m
      · exact h2 d m
      · rw [List.mem_singleton.mp m]; exact pc
  · obtain ⟨cs, rfl, h1, h2, h3⟩ := i
    exact q cs h' (by rw [h1]; simp) h2 h3
theorem take_at {l : List Nat} {k : Nat} {h : List MO} {P : D → List MO → Prop} {X : Ex → List MO → Prop} (hb : Box h 1) (e : l.length = k) (h0 : 0 < k) (h1 : k < 100) (q : ∀ c h2, c ∈ l → Bx 1 h h2 → P (.str [c]) h2) : OkX (runF 3 bTake [.ref 1, .int (k : Int)] h) (fun y h2 => OkX (oIx (.str l) y h2) P X) X := by
  refine take_ok hb (by omega) (by
    rw [Int.natAbs_natCast]
    have : k.log2 < 60 := (Nat.log2_lt (by omega)).mpr (by omega)
    omega) fun n h2 n0 n1 hx => ?_
  obtain ⟨m, rfl⟩ := Int.eq_ofNat_of_zero_le n0
  have hm : m < l.length := by omega
  simp (dsimp := false) only [MP.atI_nat, List.getElem?_eq_getElem hm, ↓Kp_app, ↓w_seq, ↓w_sNil, ↓w_set, ↓w_ret, ↓w_retN, ↓w_sIf, ↓w_expr, ↓w_par, ↓w_par3, ↓w_asg, ↓w_aug, ↓w_sub, ↓w_for, ↓w_raise, ↓w_break, ↓w_cont, ↓w_op2, ↓w_op1, ↓w_cb, ↓w_c, ↓w_var, ↓w_nil, ↓w_cons, ↓w_tup, ↓w_lst, ↓w_new, ↓w_if, ↓w_test, ↓w_tru, ↓w_not, ↓w_and, ↓w_or, ↓w_andV, ↓w_orV, ↓w_notV, ↓w_chain, ↓w_call, ↓w_callK, ↓w_sl, ↓w_part0, ↓w_part1, ↓w_isi, ↓w_join, ↓w_mt, ↓w_lc, ↓w_lcN, ↓w_lcA, ↓w_it, ↓w_range1, ↓w_range2, ↓w_enum, ↓w_enumS, ↓w_zip,   OkX_ok, OkX_err, OkX_stuck, OkX_guard, o_addS, o_addT, o_addLL, o_addRL, o_addII, o_subI, o_mulI, o_mulS, o_fdivI, o_modI, o_powI, o_negI, o_ltI, o_leI, o_gtI, o_geI, o_ltS, o_leS, o_gtS, o_geS, o_eqI, o_eqS, o_neI, o_neS, o_isD, o_isnotD, o_inS, o_ixS, o_ixT, o_ixL, o_ixR, o_slS, o_slT, o_slL, o_slR, o_lenS, o_lenT, o_lenL, o_lenR, o_absI, o_intI, o_intB, o_tupT, o_tupL, o_tupR, o_maxI, o_minI,   List.set_cons_zero, List.set_cons_succ, List.getElem?_cons_zero, List.getElem?_cons_succ, List.map_cons, List.map_nil, List.length_cons, List.length_nil, List.replicate_succ, List.replicate_zero, List.cons_append, List.nil_append, Nat.reduceSub, Nat.reduceAdd, Nat.reduceLeDiff, exists_eq_left', D.bl.injEq, D.int.injEq, D.str.injEq, D.ref.injEq, D.tup.injEq, true_and, and_true, if_true, if_false, Bool.false_eq_true, Bool.not_true, Bool.not_false, decide_true, decide_false, bindP, bindPs, isK, atI_0, atI_1, atI_2, atI_3, ixN_0, ixN_1, Nat.zero_add, LINE, Nat.zero_le, truD, wipeD, Option.some.injEq]
  exact ⟨by omega, q _ _ (List.getElem_mem hm) hx⟩
theorem rep_len (n : Nat) (l : List Nat) : (repS n l).length = n * l.length := by
  unfold repS
  induction n with
  | zero => simp
  | succ n ih => rw [List.replicate_succ, List.flatten_cons, List.length_append, ih, Nat.succ_mul]; omega
abbrev bTurn : MS := (sSeq (sIf (xNot (xTru (xCall (m__law_is 8) [] (aCons (xCallC m__law_error 2 [13] aNil) (aCons (xVar 10) aNil))))) (sSeq (sRet (xC (.bl false))) sNil) sNil) sNil)
theorem turn_ok {t : List Nat} {due x0 x1 x2 x3 x4 x5 x6 x7 x8 x9 x11 x12 x14} {h : List MO} {N : Po} (sd : sameD 7 due = true) (pd : plD due = true) (he : ∀ (P : D → List MO → Prop) (X : Ex → List MO → Prop), P due [] → OkX (m__law_error [.clo 2 [.str t]] []) P X) (q : N.nx [x0, x1, x2, x3, x4, x5, x6, x7, x8, x9, some due, x11, x12, some (.str t), x14] h) : OkS (bTurn [x0, x1, x2, x3, x4, x5, x6, x7, x8, x9, some due, x11, x12, some (.str t), x14] h) N := by
  unfold bTurn
  simp (dsimp := false) only [↓Kp_app, ↓w_seq, ↓w_sNil, ↓w_set, ↓w_ret, ↓w_retN, ↓w_sIf, ↓w_expr, ↓w_par, ↓w_par3, ↓w_asg, ↓w_aug, ↓w_sub, ↓w_for, ↓w_raise, ↓w_break, ↓w_cont, ↓w_op2, ↓w_op1, ↓w_cb, ↓w_c, ↓w_var, ↓w_nil, ↓w_cons, ↓w_tup, ↓w_lst, ↓w_new, ↓w_if, ↓w_test, ↓w_tru, ↓w_not, ↓w_and, ↓w_or, ↓w_andV, ↓w_orV, ↓w_notV, ↓w_chain, ↓w_call, ↓w_callK, ↓w_sl, ↓w_part0, ↓w_part1, ↓w_isi, ↓w_join, ↓w_mt, ↓w_lc, ↓w_lcN, ↓w_lcA, ↓w_it, ↓w_range1, ↓w_range2, ↓w_enum, ↓w_enumS, ↓w_zip,   OkX_ok, OkX_err, OkX_stuck, OkX_guard, o_addS, o_addT, o_addLL, o_addRL, o_addII, o_subI, o_mulI, o_mulS, o_fdivI, o_modI, o_powI, o_negI, o_ltI, o_leI, o_gtI, o_geI, o_ltS, o_leS, o_gtS, o_geS, o_eqI, o_eqS, o_neI, o_neS, o_isD, o_isnotD, o_inS, o_ixS, o_ixT, o_ixL, o_ixR, o_slS, o_slT, o_slL, o_slR, o_lenS, o_lenT, o_lenL, o_lenR, o_absI, o_intI, o_intB, o_tupT, o_tupL, o_tupR, o_maxI, o_minI,   List.set_cons_zero, List.set_cons_succ, List.getElem?_cons_zero, List.getElem?_cons_succ, List.map_cons, List.map_nil, List.length_cons, List.length_nil, List.replicate_succ, List.replicate_zero, List.cons_append, List.nil_append, Nat.reduceSub, Nat.reduceAdd, Nat.reduceLeDiff, exists_eq_left', D.bl.injEq, D.int.injEq, D.str.injEq, D.ref.injEq, D.tup.injEq, true_and, and_true, if_true, if_false, Bool.false_eq_true, Bool.not_true, Bool.not_false, decide_true, decide_false, bindP, bindPs, isK, atI_0, atI_1, atI_2, atI_3, ixN_0, ixN_1, Nat.zero_add, LINE, Nat.zero_le, truD, wipeD, Option.some.injEq]
  refine w_callC (cs := [.str t]) rfl rfl ?_
  simp (dsimp := false) only [↓Kp_app, ↓w_seq, ↓w_sNil, ↓w_set, ↓w_ret, ↓w_retN, ↓w_sIf, ↓w_expr, ↓w_par, ↓w_par3, ↓w_asg, ↓w_aug, ↓w_sub, ↓w_for, ↓w_raise, ↓w_break, ↓w_cont, ↓w_op2, ↓w_op1, ↓w_cb, ↓w_c, ↓w_var, ↓w_nil, ↓w_cons, ↓w_tup, ↓w_lst, ↓w_new, ↓w_if, ↓w_test, ↓w_tru, ↓w_not, ↓w_and, ↓w_or, ↓w_andV, ↓w_orV, ↓w_notV, ↓w_chain, ↓w_call, ↓w_callK, ↓w_sl, ↓w_part0, ↓w_part1, ↓w_isi, ↓w_join, ↓w_mt, ↓w_lc, ↓w_lcN, ↓w_lcA, ↓w_it, ↓w_range1, ↓w_range2, ↓w_enum, ↓w_enumS, ↓w_zip,   OkX_ok, OkX_err, OkX_stuck, OkX_guard, o_addS, o_addT, o_addLL, o_addRL, o_addII, o_subI, o_mulI, o_mulS, o_fdivI, o_modI, o_powI, o_negI, o_ltI, o_leI, o_gtI, o_geI, o_ltS, o_leS, o_gtS, o_geS, o_eqI, o_eqS, o_neI, o_neS, o_isD, o_isnotD, o_inS, o_ixS, o_ixT, o_ixL, o_ixR, o_slS, o_slT, o_slL, o_slR, o_lenS, o_lenT, o_lenL, o_lenR, o_absI, o_intI, o_intB, o_tupT, o_tupL, o_tupR, o_maxI, o_minI,   List.set_cons_zero, List.set_cons_succ, List.getElem?_cons_zero, List.getElem?_cons_succ, List.map_cons, List.map_nil, List.length_cons, List.length_nil, List.replicate_succ, List.replicate_zero, List.cons_append, List.nil_append, Nat.reduceSub, Nat.reduceAdd, Nat.reduceLeDiff, exists_eq_left', D.bl.injEq, D.int.injEq, D.str.injEq, D.ref.injEq, D.tup.injEq, true_and, and_true, if_true, if_false, Bool.false_eq_true, Bool.not_true, Bool.not_false, decide_true, decide_false, bindP, bindPs, isK, atI_0, atI_1, atI_2, atI_3, ixN_0, ixN_1, Nat.zero_add, LINE, Nat.zero_le, truD, wipeD, Option.some.injEq]
  refine ⟨rfl, he _ _ ⟨pd, rfl, isq sd ?_⟩⟩
  simp (dsimp := false) only [↓Kp_app, ↓w_seq, ↓w_sNil, ↓w_set, ↓w_ret, ↓w_retN, ↓w_sIf, ↓w_expr, ↓w_par, ↓w_par3, ↓w_asg, ↓w_aug, ↓w_sub, ↓w_for, ↓w_raise, ↓w_break, ↓w_cont, ↓w_op2, ↓w_op1, ↓w_cb, ↓w_c, ↓w_var, ↓w_nil, ↓w_cons, ↓w_tup, ↓w_lst, ↓w_new, ↓w_if, ↓w_test, ↓w_tru, ↓w_not, ↓w_and, ↓w_or, ↓w_andV, ↓w_orV, ↓w_notV, ↓w_chain, ↓w_call, ↓w_callK, ↓w_sl, ↓w_part0, ↓w_part1, ↓w_isi, ↓w_join, ↓w_mt, ↓w_lc, ↓w_lcN, ↓w_lcA, ↓w_it, ↓w_range1, ↓w_range2, ↓w_enum, ↓w_enumS, ↓w_zip,   OkX_ok, OkX_err, OkX_stuck, OkX_guard, o_addS, o_addT, o_addLL, o_addRL, o_addII, o_subI, o_mulI, o_mulS, o_fdivI, o_modI, o_powI, o_negI, o_ltI, o_leI, o_gtI, o_geI, o_ltS, o_leS, o_gtS, o_geS, o_eqI, o_eqS, o_neI, o_neS, o_isD, o_isnotD, o_inS, o_ixS, o_ixT, o_ixL, o_ixR, o_slS, o_slT, o_slL, o_slR, o_lenS, o_lenT, o_lenL, o_lenR, o_absI, o_intI, o_intB, o_tupT, o_tupL, o_tupR, o_maxI, o_minI,   List.set_cons_zero, List.set_cons_succ, List.getElem?_cons_zero, List.getElem?_cons_succ, List.map_cons, List.map_nil, List.length_cons, List.length_nil, List.replicate_succ, List.replicate_zero, List.cons_append, List.nil_append, Nat.reduceSub, Nat.reduceAdd, Nat.reduceLeDiff, exists_eq_left', D.bl.injEq, D.int.injEq, D.str.injEq, D.ref.injEq, D.tup.injEq, true_and, and_true, if_true, if_false, Bool.false_eq_true, Bool.not_true, Bool.not_false, decide_true, decide_false, bindP, bindPs, isK, atI_0, atI_1, atI_2, atI_3, ixN_0, ixN_1, Nat.zero_add, LINE, Nat.zero_le, truD, wipeD, Option.some.injEq]
  exact q
theorem plDs_strs : ∀ gs : List (List Nat), plDs (gs.map .str) = true
  | [] => rfl
  | g :: gs => by rw [List.map_cons]; unfold plDs; rw [plDs_strs gs]; rfl
theorem e2_told {t : List Nat} {gs : List (List Nat)} (hl : t.length ≤ 60000) (ht : Tok t gs) (hg : gs.length ≤ 4000) : ∀ (P : D → List MO → Prop) (X : Ex → List MO → Prop), P (.tup [.str [116, 111, 108, 100]]) [] → OkX (m__law_error [.clo 2 [.str t]] []) P X := fun P X p => by
  refine error_told (n := 2) (cs := [.str t]) (fb := e_2) rfl ?_ p
  unfold e_2
  simp (dsimp := false) only [↓Kp_app, ↓w_seq, ↓w_sNil, ↓w_set, ↓w_ret, ↓w_retN, ↓w_sIf, ↓w_expr, ↓w_par, ↓w_par3, ↓w_asg, ↓w_aug, ↓w_sub, ↓w_for, ↓w_raise, ↓w_break, ↓w_cont, ↓w_op2, ↓w_op1, ↓w_cb, ↓w_c, ↓w_var, ↓w_nil, ↓w_cons, ↓w_tup, ↓w_lst, ↓w_new, ↓w_if, ↓w_test, ↓w_tru, ↓w_not, ↓w_and, ↓w_or, ↓w_andV, ↓w_orV, ↓w_notV, ↓w_chain, ↓w_call, ↓w_callK, ↓w_sl, ↓w_part0, ↓w_part1, ↓w_isi, ↓w_join, ↓w_mt, ↓w_lc, ↓w_lcN, ↓w_lcA, ↓w_it, ↓w_range1, ↓w_range2, ↓w_enum, ↓w_enumS, ↓w_zip,   OkX_ok, OkX_err, OkX_stuck, OkX_guard, o_addS, o_addT, o_addLL, o_addRL, o_addII, o_subI, o_mulI, o_mulS, o_fdivI, o_modI, o_powI, o_negI, o_ltI, o_leI, o_gtI, o_geI, o_ltS, o_leS, o_gtS, o_geS, o_eqI, o_eqS, o_neI, o_neS, o_isD, o_isnotD, o_inS, o_ixS, o_ixT, o_ixL, o_ixR, o_slS, o_slT, o_slL, o_slR, o_lenS, o_lenT, o_lenL, o_lenR, o_absI, o_intI, o_intB, o_tupT, o_tupL, o_tupR, o_maxI, o_minI,   List.set_cons_zero, List.set_cons_succ, List.getElem?_cons_zero, List.getElem?_cons_succ, List.map_cons, List.map_nil, List.length_cons, List.length_nil, List.replicate_succ, List.replicate_zero, List.cons_append, List.nil_append, Nat.reduceSub, Nat.reduceAdd, Nat.reduceLeDiff, exists_eq_left', D.bl.injEq, D.int.injEq, D.str.injEq, D.ref.injEq, D.tup.injEq, true_and, and_true, if_true, if_false, Bool.false_eq_true, Bool.not_true, Bool.not_false, decide_true, decide_false, bindP, bindPs, isK, atI_0, atI_1, atI_2, atI_3, ixN_0, ixN_1, Nat.zero_add, LINE, Nat.zero_le, truD, wipeD, Option.some.injEq]
  refine cut_tok hl ht (fun _ => ⟨?_, rfl⟩) fun z => absurd z (by omega)
  exact plDs_strs gs
theorem e2_bad {t : List Nat} {i j : Int} (q : ∀ (P : D → List MO → Prop) (X : Ex → List MO → Prop), X (exT i j) [] → OkX (m_cut_groups [.str t] []) P X) : ∀ (P : D → List MO → Prop) (X : Ex → List MO → Prop), P (.tup [.str [116, 101, 120, 116], .int i, .int j]) [] → OkX (m__law_error [.clo 2 [.str t]] []) P X := fun P X p => by
  refine error_bad (n := 2) (cs := [.str t]) (fb := e_2) rfl ?_ p
  unfold e_2
  simp (dsimp := false) only [↓Kp_app, ↓w_seq, ↓w_sNil, ↓w_set, ↓w_ret, ↓w_retN, ↓w_sIf, ↓w_expr, ↓w_par, ↓w_par3, ↓w_asg, ↓w_aug, ↓w_sub, ↓w_for, ↓w_raise, ↓w_break, ↓w_cont, ↓w_op2, ↓w_op1, ↓w_cb, ↓w_c, ↓w_var, ↓w_nil, ↓w_cons, ↓w_tup, ↓w_lst, ↓w_new, ↓w_if, ↓w_test, ↓w_tru, ↓w_not, ↓w_and, ↓w_or, ↓w_andV, ↓w_orV, ↓w_notV, ↓w_chain, ↓w_call, ↓w_callK, ↓w_sl, ↓w_part0, ↓w_part1, ↓w_isi, ↓w_join, ↓w_mt, ↓w_lc, ↓w_lcN, ↓w_lcA, ↓w_it, ↓w_range1, ↓w_range2, ↓w_enum, ↓w_enumS, ↓w_zip,   OkX_ok, OkX_err, OkX_stuck, OkX_guard, o_addS, o_addT, o_addLL, o_addRL, o_addII, o_subI, o_mulI, o_mulS, o_fdivI, o_modI, o_powI, o_negI, o_ltI, o_leI, o_gtI, o_geI, o_ltS, o_leS, o_gtS, o_geS, o_eqI, o_eqS, o_neI, o_neS, o_isD, o_isnotD, o_inS, o_ixS, o_ixT, o_ixL, o_ixR, o_slS, o_slT, o_slL, o_slR, o_lenS, o_lenT, o_lenL, o_lenR, o_absI, o_intI, o_intB, o_tupT, o_tupL, o_tupR, o_maxI, o_minI,   List.set_cons_zero, List.set_cons_succ, List.getElem?_cons_zero, List.getElem?_cons_succ, List.map_cons, List.map_nil, List.length_cons, List.length_nil, List.replicate_succ, List.replicate_zero, List.cons_append, List.nil_append, Nat.reduceSub, Nat.reduceAdd, Nat.reduceLeDiff, exists_eq_left', D.bl.injEq, D.int.injEq, D.str.injEq, D.ref.injEq, D.tup.injEq, true_and, and_true, if_true, if_false, Bool.false_eq_true, Bool.not_true, Bool.not_false, decide_true, decide_false, bindP, bindPs, isK, atI_0, atI_1, atI_2, atI_3, ixN_0, ixN_1, Nat.zero_add, LINE, Nat.zero_le, truD, wipeD, Option.some.injEq]
  exact q _ _ ⟨rfl, rfl⟩
theorem w_turns {t : List Nat} {due : D} {it : IterD} {ds : List D} {x0 x1 x2 x3 x4 x5 x6 x7 x8 x9 x10 x11 x12 x13 x14} {h : List MO} {N : Po} (ck : ckOk it h = true) (sd : sameD 7 due = true) (pd : plD due = true) (he : ∀ (P : D → List MO → Prop) (X : Ex → List MO → Prop), P due [] → OkX (m__law_error [.clo 2 [.str t]] []) P X)
    (q : OkS (loopF (.tp [.nm 13, .nm 10]) bTurn it ds [x0, x1, x2, x3, x4, x5, x6, x7, x8, x9, some due, x11, x12, some (.str t), x14] h) N) : OkS (loopF (.tp [.nm 13, .nm 10]) bTurn it (.tup [.str t, due] :: ds) [x0, x1, x2, x3, x4, x5, x6, x7, x8, x9, x10, x11, x12, x13, x14] h) N := by
  rw [w_lf_cons]
  refine ⟨ck, ?_⟩
  simp only [bindP, bindPs, List.set_cons_succ, List.set_cons_zero]
  exact turn_ok sd pd he q
theorem t8 : Tok [100, 101, 101, 100, 32, 117, 112, 49, 45, 49] [[100, 101, 101, 100], [117, 112], [49], [45], [49]] := by
  refine .let_ (w := [100, 101, 101, 100]) (r := [32, 117, 112, 49, 45, 49]) (by simp) (by decide) (by simp; decide) (.gap (by decide) ?_)
  refine .let_ (w := [117, 112]) (r := [49, 45, 49]) (by simp) (by decide) (by simp; decide) ?_
  refine .fig (w := [49]) (r := [45, 49]) (by simp) (by decide) (by simp; decide) (.dash ?_)
  exact .fig (w := [49]) (r := []) (by simp) (by decide) (by simp) .nil
theorem big1 : ∃ t, repS (Int.toNat 4000) [45, 32] = t ∧ Tok t (List.replicate 4000 [45]) ∧ t.length = 8000 :=
  ⟨_, rfl, tok_rep (w := [45]) (s := [32]) (k := 2) rfl (fun c m => by simp at m; exact .inl m) (by simp) 4000, rep_len _ _⟩
theorem big2 : ∃ t, repS (Int.toNat 4001) [45] = t ∧ Tok t (List.replicate 4001 [45]) ∧ t.length = 4001 :=
  ⟨_, rfl, by rw [rep_one]; exact tok_dash 4001, rep_len _ _⟩
theorem big3 : ∃ t, repS (Int.toNat 60000) [97] = t ∧ Tok t [t] ∧ t.length = 60000 := by
  have l : (repS (Int.toNat 60000) [97]).length = 60000 := rep_len _ _
  exact ⟨_, rfl, Grp.tok (k := 0) ⟨fun z => by rw [z] at l; simp at l, fun c m => by rw [rep_one] at m; rw [List.eq_of_mem_replicate m]; decide⟩, l⟩
theorem big4 : ∃ t, repS (Int.toNat 60001) [97] = t ∧ t.length = 60001 := ⟨_, rfl, rep_len _ _⟩
theorem big6 : ∃ t, repS (Int.toNat 60001) [61] = t ∧ t.length = 60001 := ⟨_, rfl, rep_len _ _⟩
theorem big7 : ∃ t, repS (Int.toNat 4000) [55, 32] = t ∧ Tok t (List.replicate 4000 [55]) ∧ t.length = 8000 :=
  ⟨_, rfl, tok_rep (w := [55]) (s := [32]) (k := 1) ⟨by simp, fun c m => by simp at m; subst m; decide⟩ (fun c m => by simp at m; exact .inl m) (by simp) 4000, rep_len _ _⟩
abbrev bCount : MS := (sSeq (sSet 6 (xOp2 oAdd (xC (.int 1)) (xCall m__law_take [] (aCons (xVar 1) (aCons (xCall m__law_pick [] (aCons (xVar 1) (aCons (xLst (aCons (xC (.int 2)) (aCons (xC (.int 15)) aNil))) aNil))) aNil))))) (sSeq (sSet 7 (xJoin (xC (.str [])) (xLc (xRange1 (aCons (xVar 6) aNil)) (.nm 14) xYes (xOp2 oIx (xVar 2) (xCall m__law_take [] (aCons (xVar 1) (aCons (xC (.int 26)) aNil)))) [14]))) (sSeq (sSet 8 (xJoin (xC (.str [])) (xLc (xRange1 (aCons (xVar 6) aNil)) (.nm 14) xYes (xOp2 oIx (xC (.str [48, 49, 50, 51, 52, 53, 54, 55, 56, 57])) (xCall m__law_take [] (aCons (xVar 1) (aCons (xC (.int 10)) aNil)))) [14]))) (sSeq (sExpr (xMt gAppend (xVar 4) (aCons (xCall m__law_pick [] (aCons (xVar 1) (aCons (xLst (aCons (xVar 7) (aCons (xVar 8) (aCons (xC (.str [45])) (aCons (xC (.str [100, 101, 101, 100])) (aCons (xC (.str [48])) (aCons (xC (.str [45])) aNil))))))) aNil))) aNil))) sNil))))
abbrev bAfter : MS := (sSeq (sSet 13 (xCall m__law_told [] (aCons (xVar 1) (aCons (xVar 4) aNil)))) (sSeq (sIf (xNot (xTru (xCall (m__law_is 8) [] (aCons (xTup (aCons (xCall m_cut_groups [] (aCons (xVar 13) aNil)) (aCons (xCallK m_cut_groups ((List.range 1).map .kw) aNil (aCons (xVar 13) aNil)) aNil))) (aCons (xTup (aCons (xCB oTuple (aCons (xVar 4) aNil)) (aCons (xCB oTuple (aCons (xVar 4) aNil)) aNil))) aNil))))) (sSeq (sRet (xC (.bl false))) sNil) sNil) (sSeq (sAsg (.tp [(.nm 12), (.nm 11)]) (xTup (aCons (xCall m__law_pick [] (aCons (xVar 1) (aCons (xLst (aCons (xC (.str [65])) (aCons (xC (.str [43])) (aCons (xC (.str [46])) (aCons (xC (.str [44])) (aCons (xC (.str [40])) (aCons (xC (.str [9])) (aCons (xC (.str [95])) (aCons (xC (.str [58])) (aCons (xC (.str [39])) (aCons (xC (.str [47])) aNil))))))))))) aNil))) (aCons (xCall m__law_take [] (aCons (xVar 1) (aCons (xOp2 oAdd (xCB oLen (aCons (xVar 13) aNil)) (xC (.int 1))) aNil))) aNil)))) (sSeq (sIf (xNot (xTru (xCall (m__law_is 8) [] (aCons (xCallC m__law_error 1 [13, 12, 11] aNil) (aCons (xTup (aCons (xC (.str [116, 101, 120, 116])) (aCons (xVar 11) (aCons (xC (.int 1)) aNil)))) aNil))))) (sSeq (sRet (xC (.bl false))) sNil) sNil) sNil))))
def bRest : MS := (sSeq (sSet 9 (xLst (aCons (xTup (aCons (xOp2 oMul (xC (.str [45, 32])) (xC (.int 4000))) (aCons (xTup (aCons (xC (.str [116, 111, 108, 100])) aNil)) aNil))) (aCons (xTup (aCons (xOp2 oMul (xC (.str [45])) (xC (.int 4001))) (aCons (xTup (aCons (xC (.str [116, 101, 120, 116])) (aCons (xOp1 oNeg (xC (.int 1))) (aCons (xC (.int 2)) aNil)))) aNil))) (aCons (xTup (aCons (xOp2 oMul (xC (.str [97])) (xC (.int 60000))) (aCons (xTup (aCons (xC (.str [116, 111, 108, 100])) aNil)) aNil))) (aCons (xTup (aCons (xOp2 oMul (xC (.str [97])) (xC (.int 60001))) (aCons (xTup (aCons (xC (.str [116, 101, 120, 116])) (aCons (xOp1 oNeg (xC (.int 1))) (aCons (xC (.int 0)) aNil)))) aNil))) aNil)))))) (sSeq (sFor (xIt (xOp2 oAdd (xVar 9) (xLst (aCons (xTup (aCons (xOp2 oAdd (xOp2 oMul (xC (.str [45])) (xC (.int 4001))) (xC (.str [61]))) (aCons (xTup (aCons (xC (.str [116, 101, 120, 116])) (aCons (xC (.int 4001)) (aCons (xC (.int 1)) aNil)))) aNil))) (aCons (xTup (aCons (xOp2 oMul (xC (.str [61])) (xC (.int 60001))) (aCons (xTup (aCons (xC (.str [116, 101, 120, 116])) (aCons (xOp1 oNeg (xC (.int 1))) (aCons (xC (.int 0)) aNil)))) aNil))) aNil))))) (.tp [(.nm 13), (.nm 10)]) (sSeq (sIf (xNot (xTru (xCall (m__law_is 8) [] (aCons (xCallC m__law_error 2 [13] aNil) (aCons (xVar 10) aNil))))) (sSeq (sRet (xC (.bl false))) sNil) sNil) sNil)) (sSeq (sIf (xOr (xTest (xOp2 oNe (xCB oLen (aCons (xCall m_cut_groups [] (aCons (xOp2 oMul (xC (.str [55, 32])) (xC (.int 4000))) aNil)) aNil)) (xC (.int 4000)))) (xNot (xTru (xCall (m__law_is 8) [] (aCons (xCall m_cut_groups [] (aCons (xOp2 oMul (xC (.str [97])) (xC (.int 60000))) aNil)) (aCons (xTup (aCons (xOp2 oMul (xC (.str [97])) (xC (.int 60000))) aNil)) aNil)))))) (sSeq (sRet (xC (.bl false))) sNil) sNil) (sSeq (sIf (xNot (xTru (xCall m__law_all [] (aCons (xC (.clo 3 [])) (aCons (xLst (aCons (xC .non) (aCons (xC (.int 0)) (aCons (xC (.bl true)) (aCons (xLst (aCons (xC (.str [100, 101, 101, 100])) aNil)) (aCons (xTup (aCons (xC (.str [112, 108, 97, 99, 101])) (aCons (xC (.str [97])) aNil))) aNil)))))) (aCons (xTup (aCons (xC (.str [116, 101, 120, 116])) (aCons (xOp1 oNeg (xC (.int 1))) (aCons (xC (.int 0)) aNil)))) aNil)))))) (sSeq (sRet (xC (.bl false))) sNil) sNil) (sSeq (sRet (xCall (m__law_is 8) [] (aCons (xTup (aCons (xCall m_cut_groups [] (aCons (xC (.str [100, 101, 101, 100, 32, 117, 112, 49, 45, 49])) aNil)) (aCons (xCall m_cut_groups [] (aCons (xC (.str [])) aNil)) (aCons (xC (.tup [.str [110, 111, 32, 116, 101, 120, 116], .str [110, 111, 32, 115, 117, 99, 104, 32, 115, 105, 103, 110], .str [116, 111, 111, 32, 109, 97, 110, 121, 32, 103, 114, 111, 117, 112, 115], .str [116, 111, 111, 32, 108, 111, 110, 103], .str [110, 111, 116, 32, 116, 104, 105, 115, 32, 104, 101, 114, 101]])) aNil)))) (aCons (xTup (aCons (xTup (aCons (xC (.str [100, 101, 101, 100])) (aCons (xC (.str [117, 112])) (aCons (xC (.str [49])) (aCons (xC (.str [45])) (aCons (xC (.str [49])) aNil)))))) (aCons (xTup aNil) (aCons (xTup (aCons (xC (.str [110, 111, 32, 116, 101, 120, 116])) (aCons (xC (.str [110, 111, 32, 115, 117, 99, 104, 32, 115, 105, 103, 110])) (aCons (xC (.str [116, 111, 111, 32, 109, 97, 110, 121, 32, 103, 114, 111, 117, 112, 115])) (aCons (xC (.str [116, 111, 111, 32, 108, 111, 110, 103])) (aCons (xC (.str [110, 111, 116, 32, 116, 104, 105, 115, 32, 104, 101, 114, 101])) aNil)))))) aNil)))) aNil)))) sNil)))))
theorem count_ok {sc : D} {g : Nat} {N : Po} {l2 r2 : List D} {d2 : D} {n : Int} (n0 : 0 ≤ n) (n1 : n < 14) (hlt : 1 < g) (e2 : [] ++ rangeD 0 n.toNat = l2 ++ d2 :: r2) {ρ2 : Rho} {h2 : List MO} (i2 : GrpI sc g l2 ρ2 h2) (hN : ∀ ρ h, GrpI sc g (l2 ++ [d2]) ρ h → N.nx ρ h) :
    ∃ ρ1, bindP (.nm 5) d2 ρ2 = some ρ1 ∧ OkS (bCount ρ1 h2) N := by
  obtain ⟨⟨x3, x5, x6, x7, x8, x9, x10, x11, x12, x13, x14, rfl⟩, hb2, _, gs, hg2, hgl, hgs⟩ := i2
  refine ⟨_, rfl, ?_⟩
  try simp (dsimp := false) only [↓Kp_app, ↓w_seq, ↓w_sNil, ↓w_set, ↓w_ret, ↓w_retN, ↓w_sIf, ↓w_expr, ↓w_par, ↓w_par3, ↓w_asg, ↓w_aug, ↓w_sub, ↓w_for, ↓w_raise, ↓w_break, ↓w_cont, ↓w_op2, ↓w_op1, ↓w_cb, ↓w_c, ↓w_var, ↓w_nil, ↓w_cons, ↓w_tup, ↓w_lst, ↓w_new, ↓w_if, ↓w_test, ↓w_tru, ↓w_not, ↓w_and, ↓w_or, ↓w_andV, ↓w_orV, ↓w_notV, ↓w_chain, ↓w_call, ↓w_callK, ↓w_sl, ↓w_part0, ↓w_part1, ↓w_isi, ↓w_join, ↓w_mt, ↓w_lc, ↓w_lcN, ↓w_lcA, ↓w_it, ↓w_range1, ↓w_range2, ↓w_enum, ↓w_enumS, ↓w_zip,   OkX_ok, OkX_err, OkX_stuck, OkX_guard, o_addS, o_addT, o_addLL, o_addRL, o_addII, o_subI, o_mulI, o_mulS, o_fdivI, o_modI, o_powI, o_negI, o_ltI, o_leI, o_gtI, o_geI, o_ltS, o_leS, o_gtS, o_geS, o_eqI, o_eqS, o_neI, o_neS, o_isD, o_isnotD, o_inS, o_ixS, o_ixT, o_ixL, o_ixR, o_slS, o_slT, o_slL, o_slR, o_lenS, o_lenT, o_lenL, o_lenR, o_absI, o_intI, o_intB, o_tupT, o_tupL, o_tupR, o_maxI, o_minI,   List.set_cons_zero, List.set_cons_succ, List.getElem?_cons_zero, List.getElem?_cons_succ, List.map_cons, List.map_nil, List.length_cons, List.length_nil, List.replicate_succ, List.replicate_zero, List.cons_append, List.nil_append, Nat.reduceSub, Nat.reduceAdd, Nat.reduceLeDiff, exists_eq_left', D.bl.injEq, D.int.injEq, D.str.injEq, D.ref.injEq, D.tup.injEq, true_and, and_true, if_true, if_false, Bool.false_eq_true, Bool.not_true, Bool.not_false, decide_true, decide_false, bindP, bindPs, isK, atI_0, atI_1, atI_2, atI_3, ixN_0, ixN_1, Nat.zero_add, LINE, Nat.zero_le, truD, wipeD, Option.some.injEq]
  rw [pick_eq]
  refine pick_ok hb2 (by simp) (by simp) fun d h3 hd hx3 => ?_
  obtain ⟨n, rfl, hn0, hn1⟩ : ∃ n, d = .int n ∧ 0 < n ∧ n ≤ 15 := by
    simp only [List.mem_cons, List.not_mem_nil, or_false] at hd
    rcases hd with rfl | rfl <;> exact ⟨_, rfl, by omega, by omega⟩
  refine take_ok hx3.box hn0 (by
    have : n.natAbs.log2 < 60 := (Nat.log2_lt (by omega)).mpr (by omega)
    omega) fun m h4 hm0 hm1 hx4 => ?_
  try simp (dsimp := false) only [↓Kp_app, ↓w_seq, ↓w_sNil, ↓w_set, ↓w_ret, ↓w_retN, ↓w_sIf, ↓w_expr, ↓w_par, ↓w_par3, ↓w_asg, ↓w_aug, ↓w_sub, ↓w_for, ↓w_raise, ↓w_break, ↓w_cont, ↓w_op2, ↓w_op1, ↓w_cb, ↓w_c, ↓w_var, ↓w_nil, ↓w_cons, ↓w_tup, ↓w_lst, ↓w_new, ↓w_if, ↓w_test, ↓w_tru, ↓w_not, ↓w_and, ↓w_or, ↓w_andV, ↓w_orV, ↓w_notV, ↓w_chain, ↓w_call, ↓w_callK, ↓w_sl, ↓w_part0, ↓w_part1, ↓w_isi, ↓w_join, ↓w_mt, ↓w_lc, ↓w_lcN, ↓w_lcA, ↓w_it, ↓w_range1, ↓w_range2, ↓w_enum, ↓w_enumS, ↓w_zip,   OkX_ok, OkX_err, OkX_stuck, OkX_guard, o_addS, o_addT, o_addLL, o_addRL, o_addII, o_subI, o_mulI, o_mulS, o_fdivI, o_modI, o_powI, o_negI, o_ltI, o_leI, o_gtI, o_geI, o_ltS, o_leS, o_gtS, o_geS, o_eqI, o_eqS, o_neI, o_neS, o_isD, o_isnotD, o_inS, o_ixS, o_ixT, o_ixL, o_ixR, o_slS, o_slT, o_slL, o_slR, o_lenS, o_lenT, o_lenL, o_lenR, o_absI, o_intI, o_intB, o_tupT, o_tupL, o_tupR, o_maxI, o_minI,   List.set_cons_zero, List.set_cons_succ, List.getElem?_cons_zero, List.getElem?_cons_succ, List.map_cons, List.map_nil, List.length_cons, List.length_nil, List.replicate_succ, List.replicate_zero, List.cons_append, List.nil_append, Nat.reduceSub, Nat.reduceAdd, Nat.reduceLeDiff, exists_eq_left', D.bl.injEq, D.int.injEq, D.str.injEq, D.ref.injEq, D.tup.injEq, true_and, and_true, if_true, if_false, Bool.false_eq_true, Bool.not_true, Bool.not_false, decide_true, decide_false, bindP, bindPs, isK, atI_0, atI_1, atI_2, atI_3, ixN_0, ixN_1, Nat.zero_add, LINE, Nat.zero_le, truD, wipeD, Option.some.injEq]
  refine ⟨by unfold big62; omega, ?_⟩
  refine draws_ok (p := isL) hx4.box (by omega) (fun i h5 hb5 P hP => ?_) fun cs h5 hc1 hc2 hx5 => ?_
  · simp (dsimp := false) only [↓Kp_app, ↓w_seq, ↓w_sNil, ↓w_set, ↓w_ret, ↓w_retN, ↓w_sIf, ↓w_expr, ↓w_par, ↓w_par3, ↓w_asg, ↓w_aug, ↓w_sub, ↓w_for, ↓w_raise, ↓w_break, ↓w_cont, ↓w_op2, ↓w_op1, ↓w_cb, ↓w_c, ↓w_var, ↓w_nil, ↓w_cons, ↓w_tup, ↓w_lst, ↓w_new, ↓w_if, ↓w_test, ↓w_tru, ↓w_not, ↓w_and, ↓w_or, ↓w_andV, ↓w_orV, ↓w_notV, ↓w_chain, ↓w_call, ↓w_callK, ↓w_sl, ↓w_part0, ↓w_part1, ↓w_isi, ↓w_join, ↓w_mt, ↓w_lc, ↓w_lcN, ↓w_lcA, ↓w_it, ↓w_range1, ↓w_range2, ↓w_enum, ↓w_enumS, ↓w_zip,   OkX_ok, OkX_err, OkX_stuck, OkX_guard, o_addS, o_addT, o_addLL, o_addRL, o_addII, o_subI, o_mulI, o_mulS, o_fdivI, o_modI, o_powI, o_negI, o_ltI, o_leI, o_gtI, o_geI, o_ltS, o_leS, o_gtS, o_geS, o_eqI, o_eqS, o_neI, o_neS, o_isD, o_isnotD, o_inS, o_ixS, o_ixT, o_ixL, o_ixR, o_slS, o_slT, o_slL, o_slR, o_lenS, o_lenT, o_lenL, o_lenR, o_absI, o_intI, o_intB, o_tupT, o_tupL, o_tupR, o_maxI, o_minI,   List.set_cons_zero, List.set_cons_succ, List.getElem?_cons_zero, List.getElem?_cons_succ, List.map_cons, List.map_nil, List.length_cons, List.length_nil, List.replicate_succ, List.replicate_zero, List.cons_append, List.nil_append, Nat.reduceSub, Nat.reduceAdd, Nat.reduceLeDiff, exists_eq_left', D.bl.injEq, D.int.injEq, D.str.injEq, D.ref.injEq, D.tup.injEq, true_and, and_true, if_true, if_false, Bool.false_eq_true, Bool.not_true, Bool.not_false, decide_true, decide_false, bindP, bindPs, isK, atI_0, atI_1, atI_2, atI_3, ixN_0, ixN_1, Nat.zero_add, LINE, Nat.zero_le, truD, wipeD, Option.some.injEq]
    exact take_at (l := Lts) (k := 26) hb5 rfl (by omega) (by omega) fun c h6 hc hx6 => hP c h6 (memL.mp hc) hx6
  refine join_ok (by omega) ?_
  try simp (dsimp := false) only [↓Kp_app, ↓w_seq, ↓w_sNil, ↓w_set, ↓w_ret, ↓w_retN, ↓w_sIf, ↓w_expr, ↓w_par, ↓w_par3, ↓w_asg, ↓w_aug, ↓w_sub, ↓w_for, ↓w_raise, ↓w_break, ↓w_cont, ↓w_op2, ↓w_op1, ↓w_cb, ↓w_c, ↓w_var, ↓w_nil, ↓w_cons, ↓w_tup, ↓w_lst, ↓w_new, ↓w_if, ↓w_test, ↓w_tru, ↓w_not, ↓w_and, ↓w_or, ↓w_andV, ↓w_orV, ↓w_notV, ↓w_chain, ↓w_call, ↓w_callK, ↓w_sl, ↓w_part0, ↓w_part1, ↓w_isi, ↓w_join, ↓w_mt, ↓w_lc, ↓w_lcN, ↓w_lcA, ↓w_it, ↓w_range1, ↓w_range2, ↓w_enum, ↓w_enumS, ↓w_zip,   OkX_ok, OkX_err, OkX_stuck, OkX_guard, o_addS, o_addT, o_addLL, o_addRL, o_addII, o_subI, o_mulI, o_mulS, o_fdivI, o_modI, o_powI, o_negI, o_ltI, o_leI, o_gtI, o_geI, o_ltS, o_leS, o_gtS, o_geS, o_eqI, o_eqS, o_neI, o_neS, o_isD, o_isnotD, o_inS, o_ixS, o_ixT, o_ixL, o_ixR, o_slS, o_slT, o_slL, o_slR, o_lenS, o_lenT, o_lenL, o_lenR, o_absI, o_intI, o_intB, o_tupT, o_tupL, o_tupR, o_maxI, o_minI,   List.set_cons_zero, List.set_cons_succ, List.getElem?_cons_zero, List.getElem?_cons_succ, List.map_cons, List.map_nil, List.length_cons, List.length_nil, List.replicate_succ, List.replicate_zero, List.cons_append, List.nil_append, Nat.reduceSub, Nat.reduceAdd, Nat.reduceLeDiff, exists_eq_left', D.bl.injEq, D.int.injEq, D.str.injEq, D.ref.injEq, D.tup.injEq, true_and, and_true, if_true, if_false, Bool.false_eq_true, Bool.not_true, Bool.not_false, decide_true, decide_false, bindP, bindPs, isK, atI_0, atI_1, atI_2, atI_3, ixN_0, ixN_1, Nat.zero_add, LINE, Nat.zero_le, truD, wipeD, Option.some.injEq]
  refine ⟨by unfold big62; omega, ?_⟩
  refine draws_ok (p := isF) hx5.box (by omega) (fun i h6 hb6 P hP => ?_) fun fs h6 hf1 hf2 hx6 => ?_
  · simp (dsimp := false) only [↓Kp_app, ↓w_seq, ↓w_sNil, ↓w_set, ↓w_ret, ↓w_retN, ↓w_sIf, ↓w_expr, ↓w_par, ↓w_par3, ↓w_asg, ↓w_aug, ↓w_sub, ↓w_for, ↓w_raise, ↓w_break, ↓w_cont, ↓w_op2, ↓w_op1, ↓w_cb, ↓w_c, ↓w_var, ↓w_nil, ↓w_cons, ↓w_tup, ↓w_lst, ↓w_new, ↓w_if, ↓w_test, ↓w_tru, ↓w_not, ↓w_and, ↓w_or, ↓w_andV, ↓w_orV, ↓w_notV, ↓w_chain, ↓w_call, ↓w_callK, ↓w_sl, ↓w_part0, ↓w_part1, ↓w_isi, ↓w_join, ↓w_mt, ↓w_lc, ↓w_lcN, ↓w_lcA, ↓w_it, ↓w_range1, ↓w_range2, ↓w_enum, ↓w_enumS, ↓w_zip,   OkX_ok, OkX_err, OkX_stuck, OkX_guard, o_addS, o_addT, o_addLL, o_addRL, o_addII, o_subI, o_mulI, o_mulS, o_fdivI, o_modI, o_powI, o_negI, o_ltI, o_leI, o_gtI, o_geI, o_ltS, o_leS, o_gtS, o_geS, o_eqI, o_eqS, o_neI, o_neS, o_isD, o_isnotD, o_inS, o_ixS, o_ixT, o_ixL, o_ixR, o_slS, o_slT, o_slL, o_slR, o_lenS, o_lenT, o_lenL, o_lenR, o_absI, o_intI, o_intB, o_tupT, o_tupL, o_tupR, o_maxI, o_minI,   List.set_cons_zero, List.set_cons_succ, List.getElem?_cons_zero, List.getElem?_cons_succ, List.map_cons, List.map_nil, List.length_cons, List.length_nil, List.replicate_succ, List.replicate_zero, List.cons_append, List.nil_append, Nat.reduceSub, Nat.reduceAdd, Nat.reduceLeDiff, exists_eq_left', D.bl.injEq, D.int.injEq, D.str.injEq, D.ref.injEq, D.tup.injEq, true_and, and_true, if_true, if_false, Bool.false_eq_true, Bool.not_true, Bool.not_false, decide_true, decide_false, bindP, bindPs, isK, atI_0, atI_1, atI_2, atI_3, ixN_0, ixN_1, Nat.zero_add, LINE, Nat.zero_le, truD, wipeD, Option.some.injEq]
    exact take_at (l := Fgs) (k := 10) hb6 rfl (by omega) (by omega) fun c h6 hc hx6 => hP c h6 (memF.mp hc) hx6
  refine join_ok (by omega) ?_
  try simp (dsimp := false) only [↓Kp_app, ↓w_seq, ↓w_sNil, ↓w_set, ↓w_ret, ↓w_retN, ↓w_sIf, ↓w_expr, ↓w_par, ↓w_par3, ↓w_asg, ↓w_aug, ↓w_sub, ↓w_for, ↓w_raise, ↓w_break, ↓w_cont, ↓w_op2, ↓w_op1, ↓w_cb, ↓w_c, ↓w_var, ↓w_nil, ↓w_cons, ↓w_tup, ↓w_lst, ↓w_new, ↓w_if, ↓w_test, ↓w_tru, ↓w_not, ↓w_and, ↓w_or, ↓w_andV, ↓w_orV, ↓w_notV, ↓w_chain, ↓w_call, ↓w_callK, ↓w_sl, ↓w_part0, ↓w_part1, ↓w_isi, ↓w_join, ↓w_mt, ↓w_lc, ↓w_lcN, ↓w_lcA, ↓w_it, ↓w_range1, ↓w_range2, ↓w_enum, ↓w_enumS, ↓w_zip,   OkX_ok, OkX_err, OkX_stuck, OkX_guard, o_addS, o_addT, o_addLL, o_addRL, o_addII, o_subI, o_mulI, o_mulS, o_fdivI, o_modI, o_powI, o_negI, o_ltI, o_leI, o_gtI, o_geI, o_ltS, o_leS, o_gtS, o_geS, o_eqI, o_eqS, o_neI, o_neS, o_isD, o_isnotD, o_inS, o_ixS, o_ixT, o_ixL, o_ixR, o_slS, o_slT, o_slL, o_slR, o_lenS, o_lenT, o_lenL, o_lenR, o_absI, o_intI, o_intB, o_tupT, o_tupL, o_tupR, o_maxI, o_minI,   List.set_cons_zero, List.set_cons_succ, List.getElem?_cons_zero, List.getElem?_cons_succ, List.map_cons, List.map_nil, List.length_cons, List.length_nil, List.replicate_succ, List.replicate_zero, List.cons_append, List.nil_append, Nat.reduceSub, Nat.reduceAdd, Nat.reduceLeDiff, exists_eq_left', D.bl.injEq, D.int.injEq, D.str.injEq, D.ref.injEq, D.tup.injEq, true_and, and_true, if_true, if_false, Bool.false_eq_true, Bool.not_true, Bool.not_false, decide_true, decide_false, bindP, bindPs, isK, atI_0, atI_1, atI_2, atI_3, ixN_0, ixN_1, Nat.zero_add, LINE, Nat.zero_le, truD, wipeD, Option.some.injEq]
  refine pick_ok hx6.box (by simp) (by simp) fun d h7 hd hx7 => ?_
  have hx := (((hx3.trans hx4).trans hx5).trans hx6).trans hx7
  have hg7 : hl h7 g = some (gs.map .str) := by rw [hx.hl (by omega)]; exact hg2
  obtain ⟨w, rfl, hw1, k, hk, hw⟩ : ∃ w, d = .str w ∧ w.length ≤ 20 ∧ ∃ k, k ≤ 2 ∧ Grp k w := by
    simp only [List.mem_cons, List.not_mem_nil, or_false] at hd
    rcases hd with rfl | rfl | rfl | rfl | rfl | rfl
    · exact ⟨cs, rfl, by omega, 0, by omega, fun z => by subst z; simp at hc1; omega, hc2⟩
    · exact ⟨fs, rfl, by omega, 1, by omega, fun z => by subst z; simp at hf1; omega, hf2⟩
    · exact ⟨_, rfl, by simp, 2, by omega, rfl⟩
    · exact ⟨_, rfl, by simp, 0, by omega, by simp, by decide⟩
    · exact ⟨_, rfl, by simp, 1, by omega, by simp, by decide⟩
    · exact ⟨_, rfl, by simp, 2, by omega, rfl⟩
  have hll2 : gs.length ≤ 100 := by
    have := congrArg List.length e2
    simp [rangeD] at this
    omega
  simp (dsimp := false) only [hg7, app_append (show (gs.map D.str).length < LINE by simp [LINE]; omega), ↓Kp_app, ↓w_seq, ↓w_sNil, ↓w_set, ↓w_ret, ↓w_retN, ↓w_sIf, ↓w_expr, ↓w_par, ↓w_par3, ↓w_asg, ↓w_aug, ↓w_sub, ↓w_for, ↓w_raise, ↓w_break, ↓w_cont, ↓w_op2, ↓w_op1, ↓w_cb, ↓w_c, ↓w_var, ↓w_nil, ↓w_cons, ↓w_tup, ↓w_lst, ↓w_new, ↓w_if, ↓w_test, ↓w_tru, ↓w_not, ↓w_and, ↓w_or, ↓w_andV, ↓w_orV, ↓w_notV, ↓w_chain, ↓w_call, ↓w_callK, ↓w_sl, ↓w_part0, ↓w_part1, ↓w_isi, ↓w_join, ↓w_mt, ↓w_lc, ↓w_lcN, ↓w_lcA, ↓w_it, ↓w_range1, ↓w_range2, ↓w_enum, ↓w_enumS, ↓w_zip,   OkX_ok, OkX_err, OkX_stuck, OkX_guard, o_addS, o_addT, o_addLL, o_addRL, o_addII, o_subI, o_mulI, o_mulS, o_fdivI, o_modI, o_powI, o_negI, o_ltI, o_leI, o_gtI, o_geI, o_ltS, o_leS, o_gtS, o_geS, o_eqI, o_eqS, o_neI, o_neS, o_isD, o_isnotD, o_inS, o_ixS, o_ixT, o_ixL, o_ixR, o_slS, o_slT, o_slL, o_slR, o_lenS, o_lenT, o_lenL, o_lenR, o_absI, o_intI, o_intB, o_tupT, o_tupL, o_tupR, o_maxI, o_minI,   List.set_cons_zero, List.set_cons_succ, List.getElem?_cons_zero, List.getElem?_cons_succ, List.map_cons, List.map_nil, List.length_cons, List.length_nil, List.replicate_succ, List.replicate_zero, List.cons_append, List.nil_append, Nat.reduceSub, Nat.reduceAdd, Nat.reduceLeDiff, exists_eq_left', D.bl.injEq, D.int.injEq, D.str.injEq, D.ref.injEq, D.tup.injEq, true_and, and_true, if_true, if_false, Bool.false_eq_true, Bool.not_true, Bool.not_false, decide_true, decide_false, bindP, bindPs, isK, atI_0, atI_1, atI_2, atI_3, ixN_0, ixN_1, Nat.zero_add, LINE, Nat.zero_le, truD, wipeD, Option.some.injEq]
  refine hN _ _ ⟨⟨_, _, _, _, _, _, _, _, _, _, _, rfl⟩, hx.box.set hlt, hlt, gs ++ [w], ?_, by simp; omega, fun v m => ?_⟩
  · rw [hl_set (hl_some hg7)]; simp
  · rcases List.mem_append.mp m with m | m
    · exact hgs v m
    · rw [List.mem_singleton.mp m]; exact ⟨hw1, k, hk, hw⟩
theorem after_ok {sc : D} {g : Nat} {n : Int} (n1 : n < 14) (hlt : 1 < g) {ρ2 : Rho} {h2 : List MO} {N : Po} (i2 : GrpI sc g ([] ++ rangeD 0 n.toNat) ρ2 h2) (hN : ∀ ρ h, LawI sc ρ h → N.nx ρ h) : OkS (bAfter ρ2 h2) N := by
  obtain ⟨⟨x3, x5, x6, x7, x8, x9, x10, x11, x12, x13, x14, rfl⟩, hb2, _, gs, hg2, hgl, hgs⟩ := i2
  try simp (dsimp := false) only [↓Kp_app, ↓w_seq, ↓w_sNil, ↓w_set, ↓w_ret, ↓w_retN, ↓w_sIf, ↓w_expr, ↓w_par, ↓w_par3, ↓w_asg, ↓w_aug, ↓w_sub, ↓w_for, ↓w_raise, ↓w_break, ↓w_cont, ↓w_op2, ↓w_op1, ↓w_cb, ↓w_c, ↓w_var, ↓w_nil, ↓w_cons, ↓w_tup, ↓w_lst, ↓w_new, ↓w_if, ↓w_test, ↓w_tru, ↓w_not, ↓w_and, ↓w_or, ↓w_andV, ↓w_orV, ↓w_notV, ↓w_chain, ↓w_call, ↓w_callK, ↓w_sl, ↓w_part0, ↓w_part1, ↓w_isi, ↓w_join, ↓w_mt, ↓w_lc, ↓w_lcN, ↓w_lcA, ↓w_it, ↓w_range1, ↓w_range2, ↓w_enum, ↓w_enumS, ↓w_zip,   OkX_ok, OkX_err, OkX_stuck, OkX_guard, o_addS, o_addT, o_addLL, o_addRL, o_addII, o_subI, o_mulI, o_mulS, o_fdivI, o_modI, o_powI, o_negI, o_ltI, o_leI, o_gtI, o_geI, o_ltS, o_leS, o_gtS, o_geS, o_eqI, o_eqS, o_neI, o_neS, o_isD, o_isnotD, o_inS, o_ixS, o_ixT, o_ixL, o_ixR, o_slS, o_slT, o_slL, o_slR, o_lenS, o_lenT, o_lenL, o_lenR, o_absI, o_intI, o_intB, o_tupT, o_tupL, o_tupR, o_maxI, o_minI,   List.set_cons_zero, List.set_cons_succ, List.getElem?_cons_zero, List.getElem?_cons_succ, List.map_cons, List.map_nil, List.length_cons, List.length_nil, List.replicate_succ, List.replicate_zero, List.cons_append, List.nil_append, Nat.reduceSub, Nat.reduceAdd, Nat.reduceLeDiff, exists_eq_left', D.bl.injEq, D.int.injEq, D.str.injEq, D.ref.injEq, D.tup.injEq, true_and, and_true, if_true, if_false, Bool.false_eq_true, Bool.not_true, Bool.not_false, decide_true, decide_false, bindP, bindPs, isK, atI_0, atI_1, atI_2, atI_3, ixN_0, ixN_1, Nat.zero_add, LINE, Nat.zero_le, truD, wipeD, Option.some.injEq]
  refine told_ok hb2 hg2 hlt hgs (by simp [rangeD] at hgl; omega) fun tx h3 hx3 ht htl => ?_
  try simp (dsimp := false) only [↓Kp_app, ↓w_seq, ↓w_sNil, ↓w_set, ↓w_ret, ↓w_retN, ↓w_sIf, ↓w_expr, ↓w_par, ↓w_par3, ↓w_asg, ↓w_aug, ↓w_sub, ↓w_for, ↓w_raise, ↓w_break, ↓w_cont, ↓w_op2, ↓w_op1, ↓w_cb, ↓w_c, ↓w_var, ↓w_nil, ↓w_cons, ↓w_tup, ↓w_lst, ↓w_new, ↓w_if, ↓w_test, ↓w_tru, ↓w_not, ↓w_and, ↓w_or, ↓w_andV, ↓w_orV, ↓w_notV, ↓w_chain, ↓w_call, ↓w_callK, ↓w_sl, ↓w_part0, ↓w_part1, ↓w_isi, ↓w_join, ↓w_mt, ↓w_lc, ↓w_lcN, ↓w_lcA, ↓w_it, ↓w_range1, ↓w_range2, ↓w_enum, ↓w_enumS, ↓w_zip,   OkX_ok, OkX_err, OkX_stuck, OkX_guard, o_addS, o_addT, o_addLL, o_addRL, o_addII, o_subI, o_mulI, o_mulS, o_fdivI, o_modI, o_powI, o_negI, o_ltI, o_leI, o_gtI, o_geI, o_ltS, o_leS, o_gtS, o_geS, o_eqI, o_eqS, o_neI, o_neS, o_isD, o_isnotD, o_inS, o_ixS, o_ixT, o_ixL, o_ixR, o_slS, o_slT, o_slL, o_slR, o_lenS, o_lenT, o_lenL, o_lenR, o_absI, o_intI, o_intB, o_tupT, o_tupL, o_tupR, o_maxI, o_minI,   List.set_cons_zero, List.set_cons_succ, List.getElem?_cons_zero, List.getElem?_cons_succ, List.map_cons, List.map_nil, List.length_cons, List.length_nil, List.replicate_succ, List.replicate_zero, List.cons_append, List.nil_append, Nat.reduceSub, Nat.reduceAdd, Nat.reduceLeDiff, exists_eq_left', D.bl.injEq, D.int.injEq, D.str.injEq, D.ref.injEq, D.tup.injEq, true_and, and_true, if_true, if_false, Bool.false_eq_true, Bool.not_true, Bool.not_false, decide_true, decide_false, bindP, bindPs, isK, atI_0, atI_1, atI_2, atI_3, ixN_0, ixN_1, Nat.zero_add, LINE, Nat.zero_le, truD, wipeD, Option.some.injEq]
  have hg3 : hl h3 g = some (gs.map .str) := by rw [hx3.hl (by omega)]; exact hg2
  have hgn : gs.length ≤ 4000 := by simp [rangeD] at hgl; omega
  refine cut_tok (by omega) ht (fun _ => ?_) (fun z => by omega)
  simp (dsimp := false) only [↓Kp_app, ↓w_seq, ↓w_sNil, ↓w_set, ↓w_ret, ↓w_retN, ↓w_sIf, ↓w_expr, ↓w_par, ↓w_par3, ↓w_asg, ↓w_aug, ↓w_sub, ↓w_for, ↓w_raise, ↓w_break, ↓w_cont, ↓w_op2, ↓w_op1, ↓w_cb, ↓w_c, ↓w_var, ↓w_nil, ↓w_cons, ↓w_tup, ↓w_lst, ↓w_new, ↓w_if, ↓w_test, ↓w_tru, ↓w_not, ↓w_and, ↓w_or, ↓w_andV, ↓w_orV, ↓w_notV, ↓w_chain, ↓w_call, ↓w_callK, ↓w_sl, ↓w_part0, ↓w_part1, ↓w_isi, ↓w_join, ↓w_mt, ↓w_lc, ↓w_lcN, ↓w_lcA, ↓w_it, ↓w_range1, ↓w_range2, ↓w_enum, ↓w_enumS, ↓w_zip,   OkX_ok, OkX_err, OkX_stuck, OkX_guard, o_addS, o_addT, o_addLL, o_addRL, o_addII, o_subI, o_mulI, o_mulS, o_fdivI, o_modI, o_powI, o_negI, o_ltI, o_leI, o_gtI, o_geI, o_ltS, o_leS, o_gtS, o_geS, o_eqI, o_eqS, o_neI, o_neS, o_isD, o_isnotD, o_inS, o_ixS, o_ixT, o_ixL, o_ixR, o_slS, o_slT, o_slL, o_slR, o_lenS, o_lenT, o_lenL, o_lenR, o_absI, o_intI, o_intB, o_tupT, o_tupL, o_tupR, o_maxI, o_minI,   List.set_cons_zero, List.set_cons_succ, List.getElem?_cons_zero, List.getElem?_cons_succ, List.map_cons, List.map_nil, List.length_cons, List.length_nil, List.replicate_succ, List.replicate_zero, List.cons_append, List.nil_append, Nat.reduceSub, Nat.reduceAdd, Nat.reduceLeDiff, exists_eq_left', D.bl.injEq, D.int.injEq, D.str.injEq, D.ref.injEq, D.tup.injEq, true_and, and_true, if_true, if_false, Bool.false_eq_true, Bool.not_true, Bool.not_false, decide_true, decide_false, bindP, bindPs, isK, atI_0, atI_1, atI_2, atI_3, ixN_0, ixN_1, Nat.zero_add, LINE, Nat.zero_le, truD, wipeD, Option.some.injEq]
  show OkX (m_cut_groups [.str tx] h3) _ _
  refine cut_tok (by omega) ht (fun _ => ?_) (fun z => by omega)
  simp (dsimp := false) only [hg3, ↓Kp_app, ↓w_seq, ↓w_sNil, ↓w_set, ↓w_ret, ↓w_retN, ↓w_sIf, ↓w_expr, ↓w_par, ↓w_par3, ↓w_asg, ↓w_aug, ↓w_sub, ↓w_for, ↓w_raise, ↓w_break, ↓w_cont, ↓w_op2, ↓w_op1, ↓w_cb, ↓w_c, ↓w_var, ↓w_nil, ↓w_cons, ↓w_tup, ↓w_lst, ↓w_new, ↓w_if, ↓w_test, ↓w_tru, ↓w_not, ↓w_and, ↓w_or, ↓w_andV, ↓w_orV, ↓w_notV, ↓w_chain, ↓w_call, ↓w_callK, ↓w_sl, ↓w_part0, ↓w_part1, ↓w_isi, ↓w_join, ↓w_mt, ↓w_lc, ↓w_lcN, ↓w_lcA, ↓w_it, ↓w_range1, ↓w_range2, ↓w_enum, ↓w_enumS, ↓w_zip,   OkX_ok, OkX_err, OkX_stuck, OkX_guard, o_addS, o_addT, o_addLL, o_addRL, o_addII, o_subI, o_mulI, o_mulS, o_fdivI, o_modI, o_powI, o_negI, o_ltI, o_leI, o_gtI, o_geI, o_ltS, o_leS, o_gtS, o_geS, o_eqI, o_eqS, o_neI, o_neS, o_isD, o_isnotD, o_inS, o_ixS, o_ixT, o_ixL, o_ixR, o_slS, o_slT, o_slL, o_slR, o_lenS, o_lenT, o_lenL, o_lenR, o_absI, o_intI, o_intB, o_tupT, o_tupL, o_tupR, o_maxI, o_minI,   List.set_cons_zero, List.set_cons_succ, List.getElem?_cons_zero, List.getElem?_cons_succ, List.map_cons, List.map_nil, List.length_cons, List.length_nil, List.replicate_succ, List.replicate_zero, List.cons_append, List.nil_append, Nat.reduceSub, Nat.reduceAdd, Nat.reduceLeDiff, exists_eq_left', D.bl.injEq, D.int.injEq, D.str.injEq, D.ref.injEq, D.tup.injEq, true_and, and_true, if_true, if_false, Bool.false_eq_true, Bool.not_true, Bool.not_false, decide_true, decide_false, bindP, bindPs, isK, atI_0, atI_1, atI_2, atI_3, ixN_0, ixN_1, Nat.zero_add, LINE, Nat.zero_le, truD, wipeD, Option.some.injEq]
  refine isq (by simp [sameD]) ?_
  try simp (dsimp := false) only [↓Kp_app, ↓w_seq, ↓w_sNil, ↓w_set, ↓w_ret, ↓w_retN, ↓w_sIf, ↓w_expr, ↓w_par, ↓w_par3, ↓w_asg, ↓w_aug, ↓w_sub, ↓w_for, ↓w_raise, ↓w_break, ↓w_cont, ↓w_op2, ↓w_op1, ↓w_cb, ↓w_c, ↓w_var, ↓w_nil, ↓w_cons, ↓w_tup, ↓w_lst, ↓w_new, ↓w_if, ↓w_test, ↓w_tru, ↓w_not, ↓w_and, ↓w_or, ↓w_andV, ↓w_orV, ↓w_notV, ↓w_chain, ↓w_call, ↓w_callK, ↓w_sl, ↓w_part0, ↓w_part1, ↓w_isi, ↓w_join, ↓w_mt, ↓w_lc, ↓w_lcN, ↓w_lcA, ↓w_it, ↓w_range1, ↓w_range2, ↓w_enum, ↓w_enumS, ↓w_zip,   OkX_ok, OkX_err, OkX_stuck, OkX_guard, o_addS, o_addT, o_addLL, o_addRL, o_addII, o_subI, o_mulI, o_mulS, o_fdivI, o_modI, o_powI, o_negI, o_ltI, o_leI, o_gtI, o_geI, o_ltS, o_leS, o_gtS, o_geS, o_eqI, o_eqS, o_neI, o_neS, o_isD, o_isnotD, o_inS, o_ixS, o_ixT, o_ixL, o_ixR, o_slS, o_slT, o_slL, o_slR, o_lenS, o_lenT, o_lenL, o_lenR, o_absI, o_intI, o_intB, o_tupT, o_tupL, o_tupR, o_maxI, o_minI,   List.set_cons_zero, List.set_cons_succ, List.getElem?_cons_zero, List.getElem?_cons_succ, List.map_cons, List.map_nil, List.length_cons, List.length_nil, List.replicate_succ, List.replicate_zero, List.cons_append, List.nil_append, Nat.reduceSub, Nat.reduceAdd, Nat.reduceLeDiff, exists_eq_left', D.bl.injEq, D.int.injEq, D.str.injEq, D.ref.injEq, D.tup.injEq, true_and, and_true, if_true, if_false, Bool.false_eq_true, Bool.not_true, Bool.not_false, decide_true, decide_false, bindP, bindPs, isK, atI_0, atI_1, atI_2, atI_3, ixN_0, ixN_1, Nat.zero_add, LINE, Nat.zero_le, truD, wipeD, Option.some.injEq]
  rw [pick_eq]
  refine pick_ok hx3.box (by simp) (by simp) fun d h4 hd hx4 => ?_
  obtain ⟨c, rfl, hc⟩ : ∃ c, d = .str [c] ∧ ¬ okC c := by
    simp only [List.mem_cons, List.not_mem_nil, or_false] at hd
    rcases hd with rfl | rfl | rfl | rfl | rfl | rfl | rfl | rfl | rfl | rfl <;> exact ⟨_, rfl, by unfold okC isL isF isG; omega⟩
  try simp (dsimp := false) only [↓Kp_app, ↓w_seq, ↓w_sNil, ↓w_set, ↓w_ret, ↓w_retN, ↓w_sIf, ↓w_expr, ↓w_par, ↓w_par3, ↓w_asg, ↓w_aug, ↓w_sub, ↓w_for, ↓w_raise, ↓w_break, ↓w_cont, ↓w_op2, ↓w_op1, ↓w_cb, ↓w_c, ↓w_var, ↓w_nil, ↓w_cons, ↓w_tup, ↓w_lst, ↓w_new, ↓w_if, ↓w_test, ↓w_tru, ↓w_not, ↓w_and, ↓w_or, ↓w_andV, ↓w_orV, ↓w_notV, ↓w_chain, ↓w_call, ↓w_callK, ↓w_sl, ↓w_part0, ↓w_part1, ↓w_isi, ↓w_join, ↓w_mt, ↓w_lc, ↓w_lcN, ↓w_lcA, ↓w_it, ↓w_range1, ↓w_range2, ↓w_enum, ↓w_enumS, ↓w_zip,   OkX_ok, OkX_err, OkX_stuck, OkX_guard, o_addS, o_addT, o_addLL, o_addRL, o_addII, o_subI, o_mulI, o_mulS, o_fdivI, o_modI, o_powI, o_negI, o_ltI, o_leI, o_gtI, o_geI, o_ltS, o_leS, o_gtS, o_geS, o_eqI, o_eqS, o_neI, o_neS, o_isD, o_isnotD, o_inS, o_ixS, o_ixT, o_ixL, o_ixR, o_slS, o_slT, o_slL, o_slR, o_lenS, o_lenT, o_lenL, o_lenR, o_absI, o_intI, o_intB, o_tupT, o_tupL, o_tupR, o_maxI, o_minI,   List.set_cons_zero, List.set_cons_succ, List.getElem?_cons_zero, List.getElem?_cons_succ, List.map_cons, List.map_nil, List.length_cons, List.length_nil, List.replicate_succ, List.replicate_zero, List.cons_append, List.nil_append, Nat.reduceSub, Nat.reduceAdd, Nat.reduceLeDiff, exists_eq_left', D.bl.injEq, D.int.injEq, D.str.injEq, D.ref.injEq, D.tup.injEq, true_and, and_true, if_true, if_false, Bool.false_eq_true, Bool.not_true, Bool.not_false, decide_true, decide_false, bindP, bindPs, isK, atI_0, atI_1, atI_2, atI_3, ixN_0, ixN_1, Nat.zero_add, LINE, Nat.zero_le, truD, wipeD, Option.some.injEq]
  refine ⟨by omega, take_ok hx4.box (by omega) (by
    have : ((tx.length : Int) + 1).natAbs.log2 < 60 := (Nat.log2_lt (by omega)).mpr (by omega)
    omega) fun k h5 k0 k1 hx5 => ?_⟩
  obtain ⟨m, rfl⟩ := Int.eq_ofNat_of_zero_le k0
  have hm : m ≤ tx.length := by omega
  try simp (dsimp := false) only [↓Kp_app, ↓w_seq, ↓w_sNil, ↓w_set, ↓w_ret, ↓w_retN, ↓w_sIf, ↓w_expr, ↓w_par, ↓w_par3, ↓w_asg, ↓w_aug, ↓w_sub, ↓w_for, ↓w_raise, ↓w_break, ↓w_cont, ↓w_op2, ↓w_op1, ↓w_cb, ↓w_c, ↓w_var, ↓w_nil, ↓w_cons, ↓w_tup, ↓w_lst, ↓w_new, ↓w_if, ↓w_test, ↓w_tru, ↓w_not, ↓w_and, ↓w_or, ↓w_andV, ↓w_orV, ↓w_notV, ↓w_chain, ↓w_call, ↓w_callK, ↓w_sl, ↓w_part0, ↓w_part1, ↓w_isi, ↓w_join, ↓w_mt, ↓w_lc, ↓w_lcN, ↓w_lcA, ↓w_it, ↓w_range1, ↓w_range2, ↓w_enum, ↓w_enumS, ↓w_zip,   OkX_ok, OkX_err, OkX_stuck, OkX_guard, o_addS, o_addT, o_addLL, o_addRL, o_addII, o_subI, o_mulI, o_mulS, o_fdivI, o_modI, o_powI, o_negI, o_ltI, o_leI, o_gtI, o_geI, o_ltS, o_leS, o_gtS, o_geS, o_eqI, o_eqS, o_neI, o_neS, o_isD, o_isnotD, o_inS, o_ixS, o_ixT, o_ixL, o_ixR, o_slS, o_slT, o_slL, o_slR, o_lenS, o_lenT, o_lenL, o_lenR, o_absI, o_intI, o_intB, o_tupT, o_tupL, o_tupR, o_maxI, o_minI,   List.set_cons_zero, List.set_cons_succ, List.getElem?_cons_zero, List.getElem?_cons_succ, List.map_cons, List.map_nil, List.length_cons, List.length_nil, List.replicate_succ, List.replicate_zero, List.cons_append, List.nil_append, Nat.reduceSub, Nat.reduceAdd, Nat.reduceLeDiff, exists_eq_left', D.bl.injEq, D.int.injEq, D.str.injEq, D.ref.injEq, D.tup.injEq, true_and, and_true, if_true, if_false, Bool.false_eq_true, Bool.not_true, Bool.not_false, decide_true, decide_false, bindP, bindPs, isK, atI_0, atI_1, atI_2, atI_3, ixN_0, ixN_1, Nat.zero_add, LINE, Nat.zero_le, truD, wipeD, Option.some.injEq]
  refine w_callC (cs := [.str tx, .str [c], .int m]) rfl rfl ?_
  try simp (dsimp := false) only [↓Kp_app, ↓w_seq, ↓w_sNil, ↓w_set, ↓w_ret, ↓w_retN, ↓w_sIf, ↓w_expr, ↓w_par, ↓w_par3, ↓w_asg, ↓w_aug, ↓w_sub, ↓w_for, ↓w_raise, ↓w_break, ↓w_cont, ↓w_op2, ↓w_op1, ↓w_cb, ↓w_c, ↓w_var, ↓w_nil, ↓w_cons, ↓w_tup, ↓w_lst, ↓w_new, ↓w_if, ↓w_test, ↓w_tru, ↓w_not, ↓w_and, ↓w_or, ↓w_andV, ↓w_orV, ↓w_notV, ↓w_chain, ↓w_call, ↓w_callK, ↓w_sl, ↓w_part0, ↓w_part1, ↓w_isi, ↓w_join, ↓w_mt, ↓w_lc, ↓w_lcN, ↓w_lcA, ↓w_it, ↓w_range1, ↓w_range2, ↓w_enum, ↓w_enumS, ↓w_zip,   OkX_ok, OkX_err, OkX_stuck, OkX_guard, o_addS, o_addT, o_addLL, o_addRL, o_addII, o_subI, o_mulI, o_mulS, o_fdivI, o_modI, o_powI, o_negI, o_ltI, o_leI, o_gtI, o_geI, o_ltS, o_leS, o_gtS, o_geS, o_eqI, o_eqS, o_neI, o_neS, o_isD, o_isnotD, o_inS, o_ixS, o_ixT, o_ixL, o_ixR, o_slS, o_slT, o_slL, o_slR, o_lenS, o_lenT, o_lenL, o_lenR, o_absI, o_intI, o_intB, o_tupT, o_tupL, o_tupR, o_maxI, o_minI,   List.set_cons_zero, List.set_cons_succ, List.getElem?_cons_zero, List.getElem?_cons_succ, List.map_cons, List.map_nil, List.length_cons, List.length_nil, List.replicate_succ, List.replicate_zero, List.cons_append, List.nil_append, Nat.reduceSub, Nat.reduceAdd, Nat.reduceLeDiff, exists_eq_left', D.bl.injEq, D.int.injEq, D.str.injEq, D.ref.injEq, D.tup.injEq, true_and, and_true, if_true, if_false, Bool.false_eq_true, Bool.not_true, Bool.not_false, decide_true, decide_false, bindP, bindPs, isK, atI_0, atI_1, atI_2, atI_3, ixN_0, ixN_1, Nat.zero_add, LINE, Nat.zero_le, truD, wipeD, Option.some.injEq]
  refine ⟨rfl, error_bad (n := 1) (cs := [.str tx, .str [c], .int m]) (fb := e_1) (i := m) (j := 1) rfl ?_ ?_⟩
  · unfold e_1
    simp (dsimp := false) only [MP.cut_to, MP.cut_from, ↓Kp_app, ↓w_seq, ↓w_sNil, ↓w_set, ↓w_ret, ↓w_retN, ↓w_sIf, ↓w_expr, ↓w_par, ↓w_par3, ↓w_asg, ↓w_aug, ↓w_sub, ↓w_for, ↓w_raise, ↓w_break, ↓w_cont, ↓w_op2, ↓w_op1, ↓w_cb, ↓w_c, ↓w_var, ↓w_nil, ↓w_cons, ↓w_tup, ↓w_lst, ↓w_new, ↓w_if, ↓w_test, ↓w_tru, ↓w_not, ↓w_and, ↓w_or, ↓w_andV, ↓w_orV, ↓w_notV, ↓w_chain, ↓w_call, ↓w_callK, ↓w_sl, ↓w_part0, ↓w_part1, ↓w_isi, ↓w_join, ↓w_mt, ↓w_lc, ↓w_lcN, ↓w_lcA, ↓w_it, ↓w_range1, ↓w_range2, ↓w_enum, ↓w_enumS, ↓w_zip,   OkX_ok, OkX_err, OkX_stuck, OkX_guard, o_addS, o_addT, o_addLL, o_addRL, o_addII, o_subI, o_mulI, o_mulS, o_fdivI, o_modI, o_powI, o_negI, o_ltI, o_leI, o_gtI, o_geI, o_ltS, o_leS, o_gtS, o_geS, o_eqI, o_eqS, o_neI, o_neS, o_isD, o_isnotD, o_inS, o_ixS, o_ixT, o_ixL, o_ixR, o_slS, o_slT, o_slL, o_slR, o_lenS, o_lenT, o_lenL, o_lenR, o_absI, o_intI, o_intB, o_tupT, o_tupL, o_tupR, o_maxI, o_minI,   List.set_cons_zero, List.set_cons_succ, List.getElem?_cons_zero, List.getElem?_cons_succ, List.map_cons, List.map_nil, List.length_cons, List.length_nil, List.replicate_succ, List.replicate_zero, List.cons_append, List.nil_append, Nat.reduceSub, Nat.reduceAdd, Nat.reduceLeDiff, exists_eq_left', D.bl.injEq, D.int.injEq, D.str.injEq, D.ref.injEq, D.tup.injEq, true_and, and_true, if_true, if_false, Bool.false_eq_true, Bool.not_true, Bool.not_false, decide_true, decide_false, bindP, bindPs, isK, atI_0, atI_1, atI_2, atI_3, ixN_0, ixN_1, Nat.zero_add, LINE, Nat.zero_le, truD, wipeD, Option.some.injEq]
    have e : tx.take m ++ [c] ++ tx.drop m ++ [61] = tx.take m ++ c :: (tx.drop m ++ [61]) := by simp
    refine ⟨by omega, by simp; omega, by omega, by simp; omega, by simp; omega, ?_⟩
    rw [e]
    refine cut_odd (by simp; omega) (fun d hd => ht.ok d (List.mem_of_mem_take hd)) hc ⟨?_, rfl⟩
    rw [List.length_take, Nat.min_eq_left hm]
  · refine ⟨rfl, rfl, isq rfl ?_⟩
    try simp (dsimp := false) only [↓Kp_app, ↓w_seq, ↓w_sNil, ↓w_set, ↓w_ret, ↓w_retN, ↓w_sIf, ↓w_expr, ↓w_par, ↓w_par3, ↓w_asg, ↓w_aug, ↓w_sub, ↓w_for, ↓w_raise, ↓w_break, ↓w_cont, ↓w_op2, ↓w_op1, ↓w_cb, ↓w_c, ↓w_var, ↓w_nil, ↓w_cons, ↓w_tup, ↓w_lst, ↓w_new, ↓w_if, ↓w_test, ↓w_tru, ↓w_not, ↓w_and, ↓w_or, ↓w_andV, ↓w_orV, ↓w_notV, ↓w_chain, ↓w_call, ↓w_callK, ↓w_sl, ↓w_part0, ↓w_part1, ↓w_isi, ↓w_join, ↓w_mt, ↓w_lc, ↓w_lcN, ↓w_lcA, ↓w_it, ↓w_range1, ↓w_range2, ↓w_enum, ↓w_enumS, ↓w_zip,   OkX_ok, OkX_err, OkX_stuck, OkX_guard, o_addS, o_addT, o_addLL, o_addRL, o_addII, o_subI, o_mulI, o_mulS, o_fdivI, o_modI, o_powI, o_negI, o_ltI, o_leI, o_gtI, o_geI, o_ltS, o_leS, o_gtS, o_geS, o_eqI, o_eqS, o_neI, o_neS, o_isD, o_isnotD, o_inS, o_ixS, o_ixT, o_ixL, o_ixR, o_slS, o_slT, o_slL, o_slR, o_lenS, o_lenT, o_lenL, o_lenR, o_absI, o_intI, o_intB, o_tupT, o_tupL, o_tupR, o_maxI, o_minI,   List.set_cons_zero, List.set_cons_succ, List.getElem?_cons_zero, List.getElem?_cons_succ, List.map_cons, List.map_nil, List.length_cons, List.length_nil, List.replicate_succ, List.replicate_zero, List.cons_append, List.nil_append, Nat.reduceSub, Nat.reduceAdd, Nat.reduceLeDiff, exists_eq_left', D.bl.injEq, D.int.injEq, D.str.injEq, D.ref.injEq, D.tup.injEq, true_and, and_true, if_true, if_false, Bool.false_eq_true, Bool.not_true, Bool.not_false, decide_true, decide_false, bindP, bindPs, isK, atI_0, atI_1, atI_2, atI_3, ixN_0, ixN_1, Nat.zero_add, LINE, Nat.zero_le, truD, wipeD, Option.some.injEq]
    exact hN _ _ ⟨⟨_, _, _, _, _, _, _, _, _, _, _, _, rfl⟩, (hx4.trans hx5).box⟩
theorem rest_ok {t1 t2 t3 t4 t6 t7 : List Nat} (e1 : repS (Int.toNat 4000) [45, 32] = t1) (t1t : Tok t1 (List.replicate 4000 [45])) (t1l : t1.length = 8000) (e2 : repS (Int.toNat 4001) [45] = t2) (t2t : Tok t2 (List.replicate 4001 [45])) (t2l : t2.length = 4001)
    (e3 : repS (Int.toNat 60000) [97] = t3) (t3t : Tok t3 [t3]) (t3l : t3.length = 60000) (e4 : repS (Int.toNat 60001) [97] = t4) (t4l : t4.length = 60001) (e6 : repS (Int.toNat 60001) [61] = t6) (t6l : t6.length = 60001) (e7 : repS (Int.toNat 4000) [55, 32] = t7) (t7t : Tok t7 (List.replicate 4000 [55])) (t7l : t7.length = 8000)
    {sc : D} {ρ : Rho} {h' : List MO} {N : Po} (i : LawI sc ρ h') (hN : ∀ d h, d = .bl true → N.rt d h) : OkS (bRest ρ h') N := by
  unfold bRest
  obtain ⟨⟨x3, x4, x5, x6, x7, x8, x9, x10, x11, x12, x13, x14, rfl⟩, hbx⟩ := i
  simp (dsimp := false) only [e1, e2, e3, e4, e6, ↓Kp_app, ↓w_seq, ↓w_sNil, ↓w_set, ↓w_ret, ↓w_retN, ↓w_sIf, ↓w_expr, ↓w_par, ↓w_par3, ↓w_asg, ↓w_aug, ↓w_sub, ↓w_for, ↓w_raise, ↓w_break, ↓w_cont, ↓w_op2, ↓w_op1, ↓w_cb, ↓w_c, ↓w_var, ↓w_nil, ↓w_cons, ↓w_tup, ↓w_lst, ↓w_new, ↓w_if, ↓w_test, ↓w_tru, ↓w_not, ↓w_and, ↓w_or, ↓w_andV, ↓w_orV, ↓w_notV, ↓w_chain, ↓w_call, ↓w_callK, ↓w_sl, ↓w_part0, ↓w_part1, ↓w_isi, ↓w_join, ↓w_mt, ↓w_lc, ↓w_lcN, ↓w_lcA, ↓w_it, ↓w_range1, ↓w_range2, ↓w_enum, ↓w_enumS, ↓w_zip,   OkX_ok, OkX_err, OkX_stuck, OkX_guard, o_addS, o_addT, o_addLL, o_addRL, o_addII, o_subI, o_mulI, o_mulS, o_fdivI, o_modI, o_powI, o_negI, o_ltI, o_leI, o_gtI, o_geI, o_ltS, o_leS, o_gtS, o_geS, o_eqI, o_eqS, o_neI, o_neS, o_isD, o_isnotD, o_inS, o_ixS, o_ixT, o_ixL, o_ixR, o_slS, o_slT, o_slL, o_slR, o_lenS, o_lenT, o_lenL, o_lenR, o_absI, o_intI, o_intB, o_tupT, o_tupL, o_tupR, o_maxI, o_minI,   List.set_cons_zero, List.set_cons_succ, List.getElem?_cons_zero, List.getElem?_cons_succ, List.map_cons, List.map_nil, List.length_cons, List.length_nil, List.replicate_succ, List.replicate_zero, List.cons_append, List.nil_append, Nat.reduceSub, Nat.reduceAdd, Nat.reduceLeDiff, exists_eq_left', D.bl.injEq, D.int.injEq, D.str.injEq, D.ref.injEq, D.tup.injEq, true_and, and_true, if_true, if_false, Bool.false_eq_true, Bool.not_true, Bool.not_false, decide_true, decide_false, bindP, bindPs, isK, atI_0, atI_1, atI_2, atI_3, ixN_0, ixN_1, Nat.zero_add, LINE, Nat.zero_le, truD, wipeD, Option.some.injEq]
  refine ⟨by omega, by omega, by omega, by omega, by omega, by omega, by omega, ⟨_, none⟩, rfl, ?_⟩
  refine w_turns rfl rfl rfl (e2_told (by omega) t1t (by simp)) ?_
  refine w_turns rfl rfl rfl (e2_bad fun P X p => cut_tok (by omega) t2t (fun z => by simp at z) fun _ => p) ?_
  refine w_turns rfl rfl rfl (e2_told (by omega) t3t (by simp)) ?_
  refine w_turns rfl rfl rfl (e2_bad fun P X p => cut_long (by omega) (by omega) p) ?_
  refine w_turns rfl rfl rfl (e2_bad fun P X p => cut_odd (r := []) (by simp; omega) t2t.ok (by unfold okC isL isF isG; omega) (by rw [t2l]; exact p)) ?_
  refine w_turns rfl rfl rfl (e2_bad fun P X p => cut_long (by omega) (by omega) p) ?_
  rw [w_lf_nil]
  refine ⟨rfl, ?_⟩
  simp (dsimp := false) only [e7, ↓Kp_app, ↓w_seq, ↓w_sNil, ↓w_set, ↓w_ret, ↓w_retN, ↓w_sIf, ↓w_expr, ↓w_par, ↓w_par3, ↓w_asg, ↓w_aug, ↓w_sub, ↓w_for, ↓w_raise, ↓w_break, ↓w_cont, ↓w_op2, ↓w_op1, ↓w_cb, ↓w_c, ↓w_var, ↓w_nil, ↓w_cons, ↓w_tup, ↓w_lst, ↓w_new, ↓w_if, ↓w_test, ↓w_tru, ↓w_not, ↓w_and, ↓w_or, ↓w_andV, ↓w_orV, ↓w_notV, ↓w_chain, ↓w_call, ↓w_callK, ↓w_sl, ↓w_part0, ↓w_part1, ↓w_isi, ↓w_join, ↓w_mt, ↓w_lc, ↓w_lcN, ↓w_lcA, ↓w_it, ↓w_range1, ↓w_range2, ↓w_enum, ↓w_enumS, ↓w_zip,   OkX_ok, OkX_err, OkX_stuck, OkX_guard, o_addS, o_addT, o_addLL, o_addRL, o_addII, o_subI, o_mulI, o_mulS, o_fdivI, o_modI, o_powI, o_negI, o_ltI, o_leI, o_gtI, o_geI, o_ltS, o_leS, o_gtS, o_geS, o_eqI, o_eqS, o_neI, o_neS, o_isD, o_isnotD, o_inS, o_ixS, o_ixT, o_ixL, o_ixR, o_slS, o_slT, o_slL, o_slR, o_lenS, o_lenT, o_lenL, o_lenR, o_absI, o_intI, o_intB, o_tupT, o_tupL, o_tupR, o_maxI, o_minI,   List.set_cons_zero, List.set_cons_succ, List.getElem?_cons_zero, List.getElem?_cons_succ, List.map_cons, List.map_nil, List.length_cons, List.length_nil, List.replicate_succ, List.replicate_zero, List.cons_append, List.nil_append, Nat.reduceSub, Nat.reduceAdd, Nat.reduceLeDiff, exists_eq_left', D.bl.injEq, D.int.injEq, D.str.injEq, D.ref.injEq, D.tup.injEq, true_and, and_true, if_true, if_false, Bool.false_eq_true, Bool.not_true, Bool.not_false, decide_true, decide_false, bindP, bindPs, isK, atI_0, atI_1, atI_2, atI_3, ixN_0, ixN_1, Nat.zero_add, LINE, Nat.zero_le, truD, wipeD, Option.some.injEq]
  refine ⟨by omega, ?_⟩
  refine cut_tok (by omega) t7t (fun _ => ?_) (fun z => by simp at z)
  simp (dsimp := false) only [↓Kp_app, ↓w_seq, ↓w_sNil, ↓w_set, ↓w_ret, ↓w_retN, ↓w_sIf, ↓w_expr, ↓w_par, ↓w_par3, ↓w_asg, ↓w_aug, ↓w_sub, ↓w_for, ↓w_raise, ↓w_break, ↓w_cont, ↓w_op2, ↓w_op1, ↓w_cb, ↓w_c, ↓w_var, ↓w_nil, ↓w_cons, ↓w_tup, ↓w_lst, ↓w_new, ↓w_if, ↓w_test, ↓w_tru, ↓w_not, ↓w_and, ↓w_or, ↓w_andV, ↓w_orV, ↓w_notV, ↓w_chain, ↓w_call, ↓w_callK, ↓w_sl, ↓w_part0, ↓w_part1, ↓w_isi, ↓w_join, ↓w_mt, ↓w_lc, ↓w_lcN, ↓w_lcA, ↓w_it, ↓w_range1, ↓w_range2, ↓w_enum, ↓w_enumS, ↓w_zip,   OkX_ok, OkX_err, OkX_stuck, OkX_guard, o_addS, o_addT, o_addLL, o_addRL, o_addII, o_subI, o_mulI, o_mulS, o_fdivI, o_modI, o_powI, o_negI, o_ltI, o_leI, o_gtI, o_geI, o_ltS, o_leS, o_gtS, o_geS, o_eqI, o_eqS, o_neI, o_neS, o_isD, o_isnotD, o_inS, o_ixS, o_ixT, o_ixL, o_ixR, o_slS, o_slT, o_slL, o_slR, o_lenS, o_lenT, o_lenL, o_lenR, o_absI, o_intI, o_intB, o_tupT, o_tupL, o_tupR, o_maxI, o_minI,   List.set_cons_zero, List.set_cons_succ, List.getElem?_cons_zero, List.getElem?_cons_succ, List.map_cons, List.map_nil, List.length_cons, List.length_nil, List.replicate_succ, List.replicate_zero, List.cons_append, List.nil_append, Nat.reduceSub, Nat.reduceAdd, Nat.reduceLeDiff, exists_eq_left', D.bl.injEq, D.int.injEq, D.str.injEq, D.ref.injEq, D.tup.injEq, true_and, and_true, if_true, if_false, Bool.false_eq_true, Bool.not_true, Bool.not_false, decide_true, decide_false, bindP, bindPs, isK, atI_0, atI_1, atI_2, atI_3, ixN_0, ixN_1, Nat.zero_add, LINE, Nat.zero_le, truD, wipeD, Option.some.injEq]
  rw [if_neg (by simp)]
  simp (dsimp := false) only [e3, ↓Kp_app, ↓w_seq, ↓w_sNil, ↓w_set, ↓w_ret, ↓w_retN, ↓w_sIf, ↓w_expr, ↓w_par, ↓w_par3, ↓w_asg, ↓w_aug, ↓w_sub, ↓w_for, ↓w_raise, ↓w_break, ↓w_cont, ↓w_op2, ↓w_op1, ↓w_cb, ↓w_c, ↓w_var, ↓w_nil, ↓w_cons, ↓w_tup, ↓w_lst, ↓w_new, ↓w_if, ↓w_test, ↓w_tru, ↓w_not, ↓w_and, ↓w_or, ↓w_andV, ↓w_orV, ↓w_notV, ↓w_chain, ↓w_call, ↓w_callK, ↓w_sl, ↓w_part0, ↓w_part1, ↓w_isi, ↓w_join, ↓w_mt, ↓w_lc, ↓w_lcN, ↓w_lcA, ↓w_it, ↓w_range1, ↓w_range2, ↓w_enum, ↓w_enumS, ↓w_zip,   OkX_ok, OkX_err, OkX_stuck, OkX_guard, o_addS, o_addT, o_addLL, o_addRL, o_addII, o_subI, o_mulI, o_mulS, o_fdivI, o_modI, o_powI, o_negI, o_ltI, o_leI, o_gtI, o_geI, o_ltS, o_leS, o_gtS, o_geS, o_eqI, o_eqS, o_neI, o_neS, o_isD, o_isnotD, o_inS, o_ixS, o_ixT, o_ixL, o_ixR, o_slS, o_slT, o_slL, o_slR, o_lenS, o_lenT, o_lenL, o_lenR, o_absI, o_intI, o_intB, o_tupT, o_tupL, o_tupR, o_maxI, o_minI,   List.set_cons_zero, List.set_cons_succ, List.getElem?_cons_zero, List.getElem?_cons_succ, List.map_cons, List.map_nil, List.length_cons, List.length_nil, List.replicate_succ, List.replicate_zero, List.cons_append, List.nil_append, Nat.reduceSub, Nat.reduceAdd, Nat.reduceLeDiff, exists_eq_left', D.bl.injEq, D.int.injEq, D.str.injEq, D.ref.injEq, D.tup.injEq, true_and, and_true, if_true, if_false, Bool.false_eq_true, Bool.not_true, Bool.not_false, decide_true, decide_false, bindP, bindPs, isK, atI_0, atI_1, atI_2, atI_3, ixN_0, ixN_1, Nat.zero_add, LINE, Nat.zero_le, truD, wipeD, Option.some.injEq]
  refine ⟨by omega, cut_tok (by omega) t3t (fun _ => ?_) (fun z => by simp at z)⟩
  simp (dsimp := false) only [e3, ↓Kp_app, ↓w_seq, ↓w_sNil, ↓w_set, ↓w_ret, ↓w_retN, ↓w_sIf, ↓w_expr, ↓w_par, ↓w_par3, ↓w_asg, ↓w_aug, ↓w_sub, ↓w_for, ↓w_raise, ↓w_break, ↓w_cont, ↓w_op2, ↓w_op1, ↓w_cb, ↓w_c, ↓w_var, ↓w_nil, ↓w_cons, ↓w_tup, ↓w_lst, ↓w_new, ↓w_if, ↓w_test, ↓w_tru, ↓w_not, ↓w_and, ↓w_or, ↓w_andV, ↓w_orV, ↓w_notV, ↓w_chain, ↓w_call, ↓w_callK, ↓w_sl, ↓w_part0, ↓w_part1, ↓w_isi, ↓w_join, ↓w_mt, ↓w_lc, ↓w_lcN, ↓w_lcA, ↓w_it, ↓w_range1, ↓w_range2, ↓w_enum, ↓w_enumS, ↓w_zip,   OkX_ok, OkX_err, OkX_stuck, OkX_guard, o_addS, o_addT, o_addLL, o_addRL, o_addII, o_subI, o_mulI, o_mulS, o_fdivI, o_modI, o_powI, o_negI, o_ltI, o_leI, o_gtI, o_geI, o_ltS, o_leS, o_gtS, o_geS, o_eqI, o_eqS, o_neI, o_neS, o_isD, o_isnotD, o_inS, o_ixS, o_ixT, o_ixL, o_ixR, o_slS, o_slT, o_slL, o_slR, o_lenS, o_lenT, o_lenL, o_lenR, o_absI, o_intI, o_intB, o_tupT, o_tupL, o_tupR, o_maxI, o_minI,   List.set_cons_zero, List.set_cons_succ, List.getElem?_cons_zero, List.getElem?_cons_succ, List.map_cons, List.map_nil, List.length_cons, List.length_nil, List.replicate_succ, List.replicate_zero, List.cons_append, List.nil_append, Nat.reduceSub, Nat.reduceAdd, Nat.reduceLeDiff, exists_eq_left', D.bl.injEq, D.int.injEq, D.str.injEq, D.ref.injEq, D.tup.injEq, true_and, and_true, if_true, if_false, Bool.false_eq_true, Bool.not_true, Bool.not_false, decide_true, decide_false, bindP, bindPs, isK, atI_0, atI_1, atI_2, atI_3, ixN_0, ixN_1, Nat.zero_add, LINE, Nat.zero_le, truD, wipeD, Option.some.injEq]
  refine ⟨by omega, isq rfl ?_⟩
  simp (dsimp := false) only [↓Kp_app, ↓w_seq, ↓w_sNil, ↓w_set, ↓w_ret, ↓w_retN, ↓w_sIf, ↓w_expr, ↓w_par, ↓w_par3, ↓w_asg, ↓w_aug, ↓w_sub, ↓w_for, ↓w_raise, ↓w_break, ↓w_cont, ↓w_op2, ↓w_op1, ↓w_cb, ↓w_c, ↓w_var, ↓w_nil, ↓w_cons, ↓w_tup, ↓w_lst, ↓w_new, ↓w_if, ↓w_test, ↓w_tru, ↓w_not, ↓w_and, ↓w_or, ↓w_andV, ↓w_orV, ↓w_notV, ↓w_chain, ↓w_call, ↓w_callK, ↓w_sl, ↓w_part0, ↓w_part1, ↓w_isi, ↓w_join, ↓w_mt, ↓w_lc, ↓w_lcN, ↓w_lcA, ↓w_it, ↓w_range1, ↓w_range2, ↓w_enum, ↓w_enumS, ↓w_zip,   OkX_ok, OkX_err, OkX_stuck, OkX_guard, o_addS, o_addT, o_addLL, o_addRL, o_addII, o_subI, o_mulI, o_mulS, o_fdivI, o_modI, o_powI, o_negI, o_ltI, o_leI, o_gtI, o_geI, o_ltS, o_leS, o_gtS, o_geS, o_eqI, o_eqS, o_neI, o_neS, o_isD, o_isnotD, o_inS, o_ixS, o_ixT, o_ixL, o_ixR, o_slS, o_slT, o_slL, o_slR, o_lenS, o_lenT, o_lenL, o_lenR, o_absI, o_intI, o_intB, o_tupT, o_tupL, o_tupR, o_maxI, o_minI,   List.set_cons_zero, List.set_cons_succ, List.getElem?_cons_zero, List.getElem?_cons_succ, List.map_cons, List.map_nil, List.length_cons, List.length_nil, List.replicate_succ, List.replicate_zero, List.cons_append, List.nil_append, Nat.reduceSub, Nat.reduceAdd, Nat.reduceLeDiff, exists_eq_left', D.bl.injEq, D.int.injEq, D.str.injEq, D.ref.injEq, D.tup.injEq, true_and, and_true, if_true, if_false, Bool.false_eq_true, Bool.not_true, Bool.not_false, decide_true, decide_false, bindP, bindPs, isK, atI_0, atI_1, atI_2, atI_3, ixN_0, ixN_1, Nat.zero_add, LINE, Nat.zero_le, truD, wipeD, Option.some.injEq]
  refine all_ok (fun d m => ?_) ?_
  · simp only [List.mem_cons, List.not_mem_nil, or_false] at m
    rcases m with rfl | rfl | rfl | rfl | rfl <;> exact ⟨rfl, rfl, rfl⟩
  try simp (dsimp := false) only [↓Kp_app, ↓w_seq, ↓w_sNil, ↓w_set, ↓w_ret, ↓w_retN, ↓w_sIf, ↓w_expr, ↓w_par, ↓w_par3, ↓w_asg, ↓w_aug, ↓w_sub, ↓w_for, ↓w_raise, ↓w_break, ↓w_cont, ↓w_op2, ↓w_op1, ↓w_cb, ↓w_c, ↓w_var, ↓w_nil, ↓w_cons, ↓w_tup, ↓w_lst, ↓w_new, ↓w_if, ↓w_test, ↓w_tru, ↓w_not, ↓w_and, ↓w_or, ↓w_andV, ↓w_orV, ↓w_notV, ↓w_chain, ↓w_call, ↓w_callK, ↓w_sl, ↓w_part0, ↓w_part1, ↓w_isi, ↓w_join, ↓w_mt, ↓w_lc, ↓w_lcN, ↓w_lcA, ↓w_it, ↓w_range1, ↓w_range2, ↓w_enum, ↓w_enumS, ↓w_zip,   OkX_ok, OkX_err, OkX_stuck, OkX_guard, o_addS, o_addT, o_addLL, o_addRL, o_addII, o_subI, o_mulI, o_mulS, o_fdivI, o_modI, o_powI, o_negI, o_ltI, o_leI, o_gtI, o_geI, o_ltS, o_leS, o_gtS, o_geS, o_eqI, o_eqS, o_neI, o_neS, o_isD, o_isnotD, o_inS, o_ixS, o_ixT, o_ixL, o_ixR, o_slS, o_slT, o_slL, o_slR, o_lenS, o_lenT, o_lenL, o_lenR, o_absI, o_intI, o_intB, o_tupT, o_tupL, o_tupR, o_maxI, o_minI,   List.set_cons_zero, List.set_cons_succ, List.getElem?_cons_zero, List.getElem?_cons_succ, List.map_cons, List.map_nil, List.length_cons, List.length_nil, List.replicate_succ, List.replicate_zero, List.cons_append, List.nil_append, Nat.reduceSub, Nat.reduceAdd, Nat.reduceLeDiff, exists_eq_left', D.bl.injEq, D.int.injEq, D.str.injEq, D.ref.injEq, D.tup.injEq, true_and, and_true, if_true, if_false, Bool.false_eq_true, Bool.not_true, Bool.not_false, decide_true, decide_false, bindP, bindPs, isK, atI_0, atI_1, atI_2, atI_3, ixN_0, ixN_1, Nat.zero_add, LINE, Nat.zero_le, truD, wipeD, Option.some.injEq]
  refine cut_tok (l := [100, 101, 101, 100, 32, 117, 112, 49, 45, 49]) (gs := [[100, 101, 101, 100], [117, 112], [49], [45], [49]]) ?a t8 ?b ?c
  case a => simp
  case c => intro z; simp at z
  case b =>
    intro _
    simp (dsimp := false) only [↓Kp_app, ↓w_seq, ↓w_sNil, ↓w_set, ↓w_ret, ↓w_retN, ↓w_sIf, ↓w_expr, ↓w_par, ↓w_par3, ↓w_asg, ↓w_aug, ↓w_sub, ↓w_for, ↓w_raise, ↓w_break, ↓w_cont, ↓w_op2, ↓w_op1, ↓w_cb, ↓w_c, ↓w_var, ↓w_nil, ↓w_cons, ↓w_tup, ↓w_lst, ↓w_new, ↓w_if, ↓w_test, ↓w_tru, ↓w_not, ↓w_and, ↓w_or, ↓w_andV, ↓w_orV, ↓w_notV, ↓w_chain, ↓w_call, ↓w_callK, ↓w_sl, ↓w_part0, ↓w_part1, ↓w_isi, ↓w_join, ↓w_mt, ↓w_lc, ↓w_lcN, ↓w_lcA, ↓w_it, ↓w_range1, ↓w_range2, ↓w_enum, ↓w_enumS, ↓w_zip,   OkX_ok, OkX_err, OkX_stuck, OkX_guard, o_addS, o_addT, o_addLL, o_addRL, o_addII, o_subI, o_mulI, o_mulS, o_fdivI, o_modI, o_powI, o_negI, o_ltI, o_leI, o_gtI, o_geI, o_ltS, o_leS, o_gtS, o_geS, o_eqI, o_eqS, o_neI, o_neS, o_isD, o_isnotD, o_inS, o_ixS, o_ixT, o_ixL, o_ixR, o_slS, o_slT, o_slL, o_slR, o_lenS, o_lenT, o_lenL, o_lenR, o_absI, o_intI, o_intB, o_tupT, o_tupL, o_tupR, o_maxI, o_minI,   List.set_cons_zero, List.set_cons_succ, List.getElem?_cons_zero, List.getElem?_cons_succ, List.map_cons, List.map_nil, List.length_cons, List.length_nil, List.replicate_succ, List.replicate_zero, List.cons_append, List.nil_append, Nat.reduceSub, Nat.reduceAdd, Nat.reduceLeDiff, exists_eq_left', D.bl.injEq, D.int.injEq, D.str.injEq, D.ref.injEq, D.tup.injEq, true_and, and_true, if_true, if_false, Bool.false_eq_true, Bool.not_true, Bool.not_false, decide_true, decide_false, bindP, bindPs, isK, atI_0, atI_1, atI_2, atI_3, ixN_0, ixN_1, Nat.zero_add, LINE, Nat.zero_le, truD, wipeD, Option.some.injEq]
    refine cut_tok (l := []) (gs := []) ?a .nil ?b ?c
    case a => simp
    case c => intro z; simp at z
    case b =>
      intro _
      simp (dsimp := false) only [↓Kp_app, ↓w_seq, ↓w_sNil, ↓w_set, ↓w_ret, ↓w_retN, ↓w_sIf, ↓w_expr, ↓w_par, ↓w_par3, ↓w_asg, ↓w_aug, ↓w_sub, ↓w_for, ↓w_raise, ↓w_break, ↓w_cont, ↓w_op2, ↓w_op1, ↓w_cb, ↓w_c, ↓w_var, ↓w_nil, ↓w_cons, ↓w_tup, ↓w_lst, ↓w_new, ↓w_if, ↓w_test, ↓w_tru, ↓w_not, ↓w_and, ↓w_or, ↓w_andV, ↓w_orV, ↓w_notV, ↓w_chain, ↓w_call, ↓w_callK, ↓w_sl, ↓w_part0, ↓w_part1, ↓w_isi, ↓w_join, ↓w_mt, ↓w_lc, ↓w_lcN, ↓w_lcA, ↓w_it, ↓w_range1, ↓w_range2, ↓w_enum, ↓w_enumS, ↓w_zip,   OkX_ok, OkX_err, OkX_stuck, OkX_guard, o_addS, o_addT, o_addLL, o_addRL, o_addII, o_subI, o_mulI, o_mulS, o_fdivI, o_modI, o_powI, o_negI, o_ltI, o_leI, o_gtI, o_geI, o_ltS, o_leS, o_gtS, o_geS, o_eqI, o_eqS, o_neI, o_neS, o_isD, o_isnotD, o_inS, o_ixS, o_ixT, o_ixL, o_ixR, o_slS, o_slT, o_slL, o_slR, o_lenS, o_lenT, o_lenL, o_lenR, o_absI, o_intI, o_intB, o_tupT, o_tupL, o_tupR, o_maxI, o_minI,   List.set_cons_zero, List.set_cons_succ, List.getElem?_cons_zero, List.getElem?_cons_succ, List.map_cons, List.map_nil, List.length_cons, List.length_nil, List.replicate_succ, List.replicate_zero, List.cons_append, List.nil_append, Nat.reduceSub, Nat.reduceAdd, Nat.reduceLeDiff, exists_eq_left', D.bl.injEq, D.int.injEq, D.str.injEq, D.ref.injEq, D.tup.injEq, true_and, and_true, if_true, if_false, Bool.false_eq_true, Bool.not_true, Bool.not_false, decide_true, decide_false, bindP, bindPs, isK, atI_0, atI_1, atI_2, atI_3, ixN_0, ixN_1, Nat.zero_add, LINE, Nat.zero_le, truD, wipeD, Option.some.injEq]
      exact isq (by decide) (hN _ _ rfl)
theorem plain : Plain := by
  intro ns hlen hz
  obtain ⟨t1, e1, t1t, t1l⟩ := big1
  obtain ⟨t2, e2, t2t, t2l⟩ := big2
  obtain ⟨t3, e3, t3t, t3l⟩ := big3
  obtain ⟨t4, e4, t4l⟩ := big4
  obtain ⟨t6, e6, t6l⟩ := big6
  obtain ⟨t7, e7, t7t, t7l⟩ := big7
  suffices hs : OkX (m_law [.lst (ns.map D.int)] []) (fun d _ => d = .bl true) (fun _ _ => False) by
    obtain ⟨d, h, e, rfl⟩ := hs.ex
    exact ⟨h, e⟩
  unfold m_law; rw [w_run]; unfold b_law
  simp (dsimp := false) only [↓Kp_app, ↓w_seq, ↓w_sNil, ↓w_set, ↓w_ret, ↓w_retN, ↓w_sIf, ↓w_expr, ↓w_par, ↓w_par3, ↓w_asg, ↓w_aug, ↓w_sub, ↓w_for, ↓w_raise, ↓w_break, ↓w_cont, ↓w_op2, ↓w_op1, ↓w_cb, ↓w_c, ↓w_var, ↓w_nil, ↓w_cons, ↓w_tup, ↓w_lst, ↓w_new, ↓w_if, ↓w_test, ↓w_tru, ↓w_not, ↓w_and, ↓w_or, ↓w_andV, ↓w_orV, ↓w_notV, ↓w_chain, ↓w_call, ↓w_callK, ↓w_sl, ↓w_part0, ↓w_part1, ↓w_isi, ↓w_join, ↓w_mt, ↓w_lc, ↓w_lcN, ↓w_lcA, ↓w_it, ↓w_range1, ↓w_range2, ↓w_enum, ↓w_enumS, ↓w_zip,   OkX_ok, OkX_err, OkX_stuck, OkX_guard, o_addS, o_addT, o_addLL, o_addRL, o_addII, o_subI, o_mulI, o_mulS, o_fdivI, o_modI, o_powI, o_negI, o_ltI, o_leI, o_gtI, o_geI, o_ltS, o_leS, o_gtS, o_geS, o_eqI, o_eqS, o_neI, o_neS, o_isD, o_isnotD, o_inS, o_ixS, o_ixT, o_ixL, o_ixR, o_slS, o_slT, o_slL, o_slR, o_lenS, o_lenT, o_lenL, o_lenR, o_absI, o_intI, o_intB, o_tupT, o_tupL, o_tupR, o_maxI, o_minI,   List.set_cons_zero, List.set_cons_succ, List.getElem?_cons_zero, List.getElem?_cons_succ, List.map_cons, List.map_nil, List.length_cons, List.length_nil, List.replicate_succ, List.replicate_zero, List.cons_append, List.nil_append, Nat.reduceSub, Nat.reduceAdd, Nat.reduceLeDiff, exists_eq_left', D.bl.injEq, D.int.injEq, D.str.injEq, D.ref.injEq, D.tup.injEq, true_and, and_true, if_true, if_false, Bool.false_eq_true, Bool.not_true, Bool.not_false, decide_true, decide_false, bindP, bindPs, isK, atI_0, atI_1, atI_2, atI_3, ixN_0, ixN_1, Nat.zero_add, LINE, Nat.zero_le, truD, wipeD, Option.some.injEq]
  rw [box_eq]
  refine box_ok hlen hz fun b h hb hlh _ hbox => ?_
  cases hb
  simp (dsimp := false) only [↓Kp_app, ↓w_seq, ↓w_sNil, ↓w_set, ↓w_ret, ↓w_retN, ↓w_sIf, ↓w_expr, ↓w_par, ↓w_par3, ↓w_asg, ↓w_aug, ↓w_sub, ↓w_for, ↓w_raise, ↓w_break, ↓w_cont, ↓w_op2, ↓w_op1, ↓w_cb, ↓w_c, ↓w_var, ↓w_nil, ↓w_cons, ↓w_tup, ↓w_lst, ↓w_new, ↓w_if, ↓w_test, ↓w_tru, ↓w_not, ↓w_and, ↓w_or, ↓w_andV, ↓w_orV, ↓w_notV, ↓w_chain, ↓w_call, ↓w_callK, ↓w_sl, ↓w_part0, ↓w_part1, ↓w_isi, ↓w_join, ↓w_mt, ↓w_lc, ↓w_lcN, ↓w_lcA, ↓w_it, ↓w_range1, ↓w_range2, ↓w_enum, ↓w_enumS, ↓w_zip,   OkX_ok, OkX_err, OkX_stuck, OkX_guard, o_addS, o_addT, o_addLL, o_addRL, o_addII, o_subI, o_mulI, o_mulS, o_fdivI, o_modI, o_powI, o_negI, o_ltI, o_leI, o_gtI, o_geI, o_ltS, o_leS, o_gtS, o_geS, o_eqI, o_eqS, o_neI, o_neS, o_isD, o_isnotD, o_inS, o_ixS, o_ixT, o_ixL, o_ixR, o_slS, o_slT, o_slL, o_slR, o_lenS, o_lenT, o_lenL, o_lenR, o_absI, o_intI, o_intB, o_tupT, o_tupL, o_tupR, o_maxI, o_minI,   List.set_cons_zero, List.set_cons_succ, List.getElem?_cons_zero, List.getElem?_cons_succ, List.map_cons, List.map_nil, List.length_cons, List.length_nil, List.replicate_succ, List.replicate_zero, List.cons_append, List.nil_append, Nat.reduceSub, Nat.reduceAdd, Nat.reduceLeDiff, exists_eq_left', D.bl.injEq, D.int.injEq, D.str.injEq, D.ref.injEq, D.tup.injEq, true_and, and_true, if_true, if_false, Bool.false_eq_true, Bool.not_true, Bool.not_false, decide_true, decide_false, bindP, bindPs, isK, atI_0, atI_1, atI_2, atI_3, ixN_0, ixN_1, Nat.zero_add, LINE, Nat.zero_le, truD, wipeD, Option.some.injEq]
  refine ⟨by decide, w_loopF (fun _ ρ h => LawI (.lst (ns.map .int)) ρ h) (fun _ _ _ _ => rfl) [] _ _ _ ⟨⟨_, _, _, _, _, _, _, _, _, _, _, _, rfl⟩, hbox⟩ (fun l d r ρ h' e i => ?_) (fun ρ h' i => ?_)⟩
  · obtain ⟨⟨x3, x4, x5, x6, x7, x8, x9, x10, x11, x12, x13, x14, rfl⟩, hbx⟩ := i
    refine ⟨_, rfl, ?_⟩
    simp (dsimp := false) only [↓Kp_app, ↓w_seq, ↓w_sNil, ↓w_set, ↓w_ret, ↓w_retN, ↓w_sIf, ↓w_expr, ↓w_par, ↓w_par3, ↓w_asg, ↓w_aug, ↓w_sub, ↓w_for, ↓w_raise, ↓w_break, ↓w_cont, ↓w_op2, ↓w_op1, ↓w_cb, ↓w_c, ↓w_var, ↓w_nil, ↓w_cons, ↓w_tup, ↓w_lst, ↓w_new, ↓w_if, ↓w_test, ↓w_tru, ↓w_not, ↓w_and, ↓w_or, ↓w_andV, ↓w_orV, ↓w_notV, ↓w_chain, ↓w_call, ↓w_callK, ↓w_sl, ↓w_part0, ↓w_part1, ↓w_isi, ↓w_join, ↓w_mt, ↓w_lc, ↓w_lcN, ↓w_lcA, ↓w_it, ↓w_range1, ↓w_range2, ↓w_enum, ↓w_enumS, ↓w_zip,   OkX_ok, OkX_err, OkX_stuck, OkX_guard, o_addS, o_addT, o_addLL, o_addRL, o_addII, o_subI, o_mulI, o_mulS, o_fdivI, o_modI, o_powI, o_negI, o_ltI, o_leI, o_gtI, o_geI, o_ltS, o_leS, o_gtS, o_geS, o_eqI, o_eqS, o_neI, o_neS, o_isD, o_isnotD, o_inS, o_ixS, o_ixT, o_ixL, o_ixR, o_slS, o_slT, o_slL, o_slR, o_lenS, o_lenT, o_lenL, o_lenR, o_absI, o_intI, o_intB, o_tupT, o_tupL, o_tupR, o_maxI, o_minI,   List.set_cons_zero, List.set_cons_succ, List.getElem?_cons_zero, List.getElem?_cons_succ, List.map_cons, List.map_nil, List.length_cons, List.length_nil, List.replicate_succ, List.replicate_zero, List.cons_append, List.nil_append, Nat.reduceSub, Nat.reduceAdd, Nat.reduceLeDiff, exists_eq_left', D.bl.injEq, D.int.injEq, D.str.injEq, D.ref.injEq, D.tup.injEq, true_and, and_true, if_true, if_false, Bool.false_eq_true, Bool.not_true, Bool.not_false, decide_true, decide_false, bindP, bindPs, isK, atI_0, atI_1, atI_2, atI_3, ixN_0, ixN_1, Nat.zero_add, LINE, Nat.zero_le, truD, wipeD, Option.some.injEq]
    rw [take_eq]
    refine take_ok hbx.app (by omega) (by decide +kernel) fun n h1 n0 n1 hx1 => ?_
    simp (dsimp := false) only [↓Kp_app, ↓w_seq, ↓w_sNil, ↓w_set, ↓w_ret, ↓w_retN, ↓w_sIf, ↓w_expr, ↓w_par, ↓w_par3, ↓w_asg, ↓w_aug, ↓w_sub, ↓w_for, ↓w_raise, ↓w_break, ↓w_cont, ↓w_op2, ↓w_op1, ↓w_cb, ↓w_c, ↓w_var, ↓w_nil, ↓w_cons, ↓w_tup, ↓w_lst, ↓w_new, ↓w_if, ↓w_test, ↓w_tru, ↓w_not, ↓w_and, ↓w_or, ↓w_andV, ↓w_orV, ↓w_notV, ↓w_chain, ↓w_call, ↓w_callK, ↓w_sl, ↓w_part0, ↓w_part1, ↓w_isi, ↓w_join, ↓w_mt, ↓w_lc, ↓w_lcN, ↓w_lcA, ↓w_it, ↓w_range1, ↓w_range2, ↓w_enum, ↓w_enumS, ↓w_zip,   OkX_ok, OkX_err, OkX_stuck, OkX_guard, o_addS, o_addT, o_addLL, o_addRL, o_addII, o_subI, o_mulI, o_mulS, o_fdivI, o_modI, o_powI, o_negI, o_ltI, o_leI, o_gtI, o_geI, o_ltS, o_leS, o_gtS, o_geS, o_eqI, o_eqS, o_neI, o_neS, o_isD, o_isnotD, o_inS, o_ixS, o_ixT, o_ixL, o_ixR, o_slS, o_slT, o_slL, o_slR, o_lenS, o_lenT, o_lenL, o_lenR, o_absI, o_intI, o_intB, o_tupT, o_tupL, o_tupR, o_maxI, o_minI,   List.set_cons_zero, List.set_cons_succ, List.getElem?_cons_zero, List.getElem?_cons_succ, List.map_cons, List.map_nil, List.length_cons, List.length_nil, List.replicate_succ, List.replicate_zero, List.cons_append, List.nil_append, Nat.reduceSub, Nat.reduceAdd, Nat.reduceLeDiff, exists_eq_left', D.bl.injEq, D.int.injEq, D.str.injEq, D.ref.injEq, D.tup.injEq, true_and, and_true, if_true, if_false, Bool.false_eq_true, Bool.not_true, Bool.not_false, decide_true, decide_false, bindP, bindPs, isK, atI_0, atI_1, atI_2, atI_3, ixN_0, ixN_1, Nat.zero_add, LINE, Nat.zero_le, truD, wipeD, Option.some.injEq]
    refine ⟨by unfold big62; omega, ?_⟩
    have hlt := hbx.lt
    have hg1 : hl h1 h'.length = some [] := by rw [hx1.hl (by omega)]; exact hl_app
    refine w_loopF (fun pre ρ h => GrpI (.lst (ns.map .int)) h'.length pre ρ h) (fun _ _ _ _ => rfl) [] _ _ _ ⟨⟨_, _, _, _, _, _, _, _, _, _, _, rfl⟩, hx1.box, hlt, [], hg1, by simp, fun w m => by cases m⟩ (fun l2 d2 r2 ρ2 h2 e2 i2 => ?_) (fun ρ2 h2 i2 => ?_)
    · exact count_ok n0 n1 hlt e2 i2 fun _ _ z => z
    · exact after_ok n1 hlt i2 fun _ _ z => z
  · exact rest_ok e1 t1t t1l e2 t2t t2l e3 t3t t3l e4 t4l e6 t6l e7 t7t t7l i fun _ _ z => z
end Lw
end
set_option maxRecDepth 100000 in
set_option maxHeartbeats 8000000 in
theorem PySem.Challenge.cw_twoled_k01_whole_texts_cut_into_groups_holds : PySem.Challenge.rw_twoled_k01_whole_texts_cut_into_groups.Holds := by
  exact Lw.holds Lw.plain
