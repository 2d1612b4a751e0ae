import PyProof.Rows.All
import Wide.All
import OpenK.AllK
import Wide.FinOn
import KE.KDictKeyed
import KE.GoesCell
import KE.GoesNew
import KE.GoesMore
import HandS.Exc
import HandS.TryMany
import HandS.EndTab
import HandS.List
import HandS.TupAny
import HandS.More
import KE.KDictPairs
import KE.KDictLaw
import HandS.ExcInit
import HandS.ExcField
import HandS.Comp
import HandS.TupLen
import HandS.DictComp
import HandS.ListItems
import HandS.Words
import HandS.SortRule
import HandS.SortInts
import PySem.Challenge.RW_foldedwebs_k35_steps_of_maps_refused
set_option Elab.async false
set_option linter.all false
set_option maxRecDepth 100000
/-! the engine, part A: values, cells, the state -/
namespace Z
open PySem PySem.Spec PyProof.Rows
open L2 (frs)

/-- a text by its codes -/
abbrev Nm := List Nat
abbrev Nm.s (x : Nm) : Str := ⟨x.toArray⟩

/-- a value; tuples are told by what they hold, all that has an identity by its number in the store -/
inductive D where
  | non | bl (b : Bool) | int (i : Int) | str (x : Nm) | tup (vs : List D) | ref (i : Nat) | glo (a : Addr) | ty (n : String)
  deriving Inhabited

/-- what stands at a number -/
inductive Cel where
  | lst (vs : List D)
  | frz (vs : List D)
  | dct (kvs : List (D × D))
  | box (v : Option D)
  | clo (l : Nat) (cs : List Nat)
  | exc (C : Addr) (ns : List Nm) (vs : List D)
  | tbl (l : Nat)
  | zb
  | zd
  deriving Inhabited

/-- the store: the cells; below low none was written since the entry -/
structure Store where
  cs : List Cel
  low : Nat

abbrev Rho := List (Addr × Addr)
def NotIn (ρ : Rho) (b : Addr) : Prop := ∀ p ∈ ρ, b ≠ p.1 ∧ b ≠ p.2

/-- a tuple that no cell is -/
def TupAt (ρ : Rho) (h : Heap) (a : Addr) (us : Array Value) : Prop := h.IsTuple a us ∧ NotIn ρ a
mutual
def RV (ρ : Rho) (h : Heap) : D → Value → Prop
  | .non, u => u = .none
  | .bl b, u => u = .bool b
  | .int i, u => ∃ t, u = .int i t
  | .str x, u => ∃ t, u = .str (Nm.s x) t
  | .tup vs, u => ∃ a us, u = .ref a ∧ TupAt ρ h a us.toArray ∧ vs.length ≤ sizeLine ∧ RVs ρ h vs us
  | .ref i, u => ∃ a d, ρ[i]? = some (a, d) ∧ u = .ref a
  | .glo a, u => u = .ref a
  | .ty n, u => u = .type n
def RVs (ρ : Rho) (h : Heap) : List D → List Value → Prop
  | [], us => us = []
  | v :: vs, us => ∃ u r, us = u :: r ∧ RV ρ h v u ∧ RVs ρ h vs r
end

/-- tuples stay -/
def TupK (ρ ρ' : Rho) (h h' : Heap) : Prop := ∀ b us, TupAt ρ h b us → TupAt ρ' h' b us
theorem TupK.refl (ρ : Rho) (h : Heap) : TupK ρ ρ h h := fun _ _ x => x
theorem TupK.trans {ρ ρ1 ρ2 : Rho} {h h1 h2 : Heap} (a : TupK ρ ρ1 h h1) (b : TupK ρ1 ρ2 h1 h2) : TupK ρ ρ2 h h2 := fun c us x => b c us (a c us x)
theorem TupK.same {ρ : Rho} {h h' : Heap} (k : ∀ b us, h.IsTuple b us → NotIn ρ b → h'.IsTuple b us) : TupK ρ ρ h h' := fun b us ⟨x, n⟩ => ⟨k b us x n, n⟩
theorem TupK.app {ρ l : Rho} {h h' : Heap} (k : ∀ b o, h.get? b = some o → h'.get? b = some o) (f : ∀ p ∈ l, h.objs.size ≤ p.1 ∧ h.objs.size ≤ p.2) : TupK ρ (ρ ++ l) h h' := fun b us ⟨⟨o, e, r⟩, n⟩ => ⟨⟨o, k b o e, r⟩, fun p hp => by
  rcases List.mem_append.mp hp with q | q
  · exact n p q
  · have := Heap.lt_size e
    exact ⟨Nat.ne_of_lt (Nat.lt_of_lt_of_le this (f p q).1), Nat.ne_of_lt (Nat.lt_of_lt_of_le this (f p q).2)⟩⟩
theorem TupK.one {ρ : Rho} {h h' : Heap} (k : ∀ b o, h.get? b = some o → h'.get? b = some o) : TupK ρ (ρ ++ [((h.objs.size : Addr), (h.objs.size : Addr))]) h h' := TupK.app k fun p hp => by
  rw [List.mem_singleton.mp hp]; exact ⟨Nat.le_refl _, Nat.le_refl _⟩
/-- numbers stay -/
def RhoK (ρ ρ' : Rho) : Prop := ∀ (i : Nat) (p : Addr × Addr), ρ[i]? = some p → ρ'[i]? = some p
theorem RhoK.refl (ρ : Rho) : RhoK ρ ρ := fun (_ : Nat) _ e => e
theorem RhoK.app (ρ l : Rho) : RhoK ρ (ρ ++ l) := fun i p e => by
  have h := (List.getElem?_eq_some_iff.mp e).1
  rw [List.getElem?_append_left h]; exact e
theorem RhoK.trans {ρ ρ1 ρ2 : Rho} (a : RhoK ρ ρ1) (b : RhoK ρ1 ρ2) : RhoK ρ ρ2 := fun i p e => b i p (a i p e)

mutual
theorem RV.mono {ρ ρ' : Rho} {h h' : Heap} (r : RhoK ρ ρ') (t : TupK ρ ρ' h h') : ∀ (v : D) (u : Value), RV ρ h v u → RV ρ' h' v u
  | .non, _, x => x
  | .bl _, _, x => x
  | .int _, _, x => x
  | .str _, _, x => x
  | .tup vs, u, x => by
    simp only [RV] at x ⊢
    obtain ⟨a, us, e, it, z, y⟩ := x
    exact ⟨a, us, e, t a _ it, z, RVs.mono r t vs us y⟩
  | .ref i, u, x => by
    simp only [RV] at x ⊢
    obtain ⟨a, d, e, q⟩ := x
    exact ⟨a, d, r _ _ e, q⟩
  | .glo _, _, x => x
  | .ty _, _, x => x
theorem RVs.mono {ρ ρ' : Rho} {h h' : Heap} (r : RhoK ρ ρ') (t : TupK ρ ρ' h h') : ∀ (vs : List D) (us : List Value), RVs ρ h vs us → RVs ρ' h' vs us
  | [], _, x => x
  | v :: vs, us, x => by
    simp only [RVs] at x ⊢
    obtain ⟨u, q, e, y, z⟩ := x
    exact ⟨u, q, e, RV.mono r t v u y, RVs.mono r t vs q z⟩
end
theorem RVs.len {ρ : Rho} {h : Heap} : ∀ {vs : List D} {us : List Value}, RVs ρ h vs us → vs.length = us.length
  | [], _, x => by simp only [RVs] at x; subst x; rfl
  | v :: vs, us, x => by
    simp only [RVs] at x
    obtain ⟨u, q, rfl, _, z⟩ := x
    simp [RVs.len z]
theorem RVs.nil {ρ : Rho} {h : Heap} : RVs ρ h [] [] := by simp only [RVs]
theorem RVs.cons {ρ : Rho} {h : Heap} {v : D} {vs : List D} {u : Value} {us : List Value} (a : RV ρ h v u) (b : RVs ρ h vs us) : RVs ρ h (v :: vs) (u :: us) := by
  simp only [RVs]; exact ⟨u, us, rfl, a, b⟩
theorem RVs.get {ρ : Rho} {h : Heap} : ∀ {vs : List D} {us : List Value} {i : Nat} {v : D}, RVs ρ h vs us → vs[i]? = some v → ∃ u, us[i]? = some u ∧ RV ρ h v u
  | [], _, _, _, _, e => by simp at e
  | w :: vs, us, 0, v, x, e => by
    simp only [RVs] at x
    obtain ⟨u, q, rfl, y, z⟩ := x
    simp at e; subst e
    exact ⟨u, rfl, y⟩
  | w :: vs, us, i + 1, v, x, e => by
    simp only [RVs] at x
    obtain ⟨u, q, rfl, y, z⟩ := x
    obtain ⟨u', h1, h2⟩ := RVs.get (i := i) z (by simpa using e)
    exact ⟨u', by simpa using h1, h2⟩
theorem RVs.app {ρ : Rho} {h : Heap} : ∀ {vs ws : List D} {us xs : List Value}, RVs ρ h vs us → RVs ρ h ws xs → RVs ρ h (vs ++ ws) (us ++ xs)
  | [], _, _, _, x, y => by simp only [RVs] at x; subst x; exact y
  | v :: vs, ws, us, xs, x, y => by
    simp only [RVs] at x
    obtain ⟨u, q, rfl, a, b⟩ := x
    exact RVs.cons a (RVs.app b y)
theorem RVs.take {ρ : Rho} {h : Heap} : ∀ {vs : List D} {us : List Value} (n : Nat), RVs ρ h vs us → RVs ρ h (vs.take n) (us.take n)
  | _, _, 0, _ => by simp [RVs.nil]
  | [], _, n + 1, x => by simp only [RVs] at x; subst x; simp [RVs.nil]
  | v :: vs, us, n + 1, x => by
    simp only [RVs] at x
    obtain ⟨u, q, rfl, a, b⟩ := x
    exact RVs.cons a (RVs.take n b)
theorem RVs.drop {ρ : Rho} {h : Heap} : ∀ {vs : List D} {us : List Value} (n : Nat), RVs ρ h vs us → RVs ρ h (vs.drop n) (us.drop n)
  | _, _, 0, x => x
  | [], _, n + 1, x => by simp only [RVs] at x; subst x; simp [RVs.nil]
  | v :: vs, us, n + 1, x => by
    simp only [RVs] at x
    obtain ⟨u, q, rfl, a, b⟩ := x
    exact RVs.drop n b
theorem RVs.set {ρ : Rho} {h : Heap} {w : D} {x : Value} (r : RV ρ h w x) : ∀ {vs : List D} {us : List Value} (i : Nat), RVs ρ h vs us → RVs ρ h (vs.set i w) (us.set i x)
  | [], _, i, y => by simp only [RVs] at y; subst y; simp [RVs.nil]
  | v :: vs, us, 0, y => by
    simp only [RVs] at y
    obtain ⟨u, q, rfl, a, b⟩ := y
    exact RVs.cons r b
  | v :: vs, us, i + 1, y => by
    simp only [RVs] at y
    obtain ⟨u, q, rfl, a, b⟩ := y
    exact RVs.cons a (RVs.set r i b)
theorem RVs.rev {ρ : Rho} {h : Heap} : ∀ {vs : List D} {us : List Value}, RVs ρ h vs us → RVs ρ h vs.reverse us.reverse
  | [], _, x => by simp only [RVs] at x; subst x; exact RVs.nil
  | v :: vs, us, x => by
    simp only [RVs] at x
    obtain ⟨u, q, rfl, a, b⟩ := x
    rw [List.reverse_cons, List.reverse_cons]
    exact RVs.app (RVs.rev b) (RVs.cons a RVs.nil)

/-! ### cells -/
abbrev keyS (P : Program) (w : World) := L2.mixKind P w
/-- a key carried by value -/
def lk : D → Option L2.Key
  | .int i => some (.inl i)
  | .str x => some (.inr (Nm.s x))
  | _ => none
mutual
/-- a key within a tuple -/
def nk : D → Option NestedKey
  | .non => some .none
  | .bl b => some (.num (if b = true then 1 else 0))
  | .int i => some (.num i)
  | .str x => some (.text (Nm.s x))
  | .tup vs => (nks vs).map .tup
  | _ => none
def nks : List D → Option (List NestedKey)
  | [] => some []
  | v :: vs => match nk v, nks vs with
    | some k, some ks => some (k :: ks)
    | _, _ => none
end
def DctOk (P : Program) (w : World) (ρ : Rho) (h : Heap) (a : Addr) (kvs : List (D × D)) : Prop :=
  kvs.length ≤ sizeLine ∧ (a == sysModules) = false ∧
    ((∃ ys : List (L2.Key × Value), h.DictOf (keyS P w) a ys ∧ Paired (fun (p : D × D) (y : L2.Key × Value) => lk p.1 = some y.1 ∧ RV ρ h p.2 y.2) kvs ys) ∨
     (∃ xs : List (NestedKey × Addr × Value), h.DictOfH (nestedKind P w) a xs ∧ Paired (fun (p : D × D) (x : NestedKey × Addr × Value) => nk p.1 = some x.1 ∧ RV ρ h p.1 (.ref x.2.1) ∧ RV ρ h p.2 x.2.2) kvs xs))
/-- a lambda as its text says: parameters, body, scope, the name that its code bears -/
structure Lam where
  params : Arguments
  body : Expr
  scope : Scope
  qual : Str
/-- the code objects in a table bear the names that their places have -/
def TabOk (h : Heap) (a : Addr) (nm : Nat → Nat → Str) : Prop :=
  ∃ ps : Array Value, h.get? a = some (PySem.W.tabObj ps) ∧ TriplesOk ps.toList ∧ ∀ (pos : Pos) (cv : Value), codeAmong pos ps.toList = some cv → h.CodeRec cv (nm pos.line pos.col)
/-- what is fixed for a whole run -/
structure Gl where
  P : Program
  w : World
  K : PySem.W.Frag
  mg : Str → Option Value
  base : Heap
  os : OsState
  lams : Nat → Lam
  nms : Nat → Nat → Nat → Str
  tab : Nat → Addr
def excO (C t : Addr) (d : Option Addr) (o : Obj) : Prop := o.cls = .ref C ∧ o.dict = d ∧ ∃ fv, o.data = .fields fv
def CelOk (G : Gl) (ρ : Rho) (h : Heap) (p : Addr × Addr) : Cel → Prop
  | .lst vs => p.2 = p.1 ∧ vs.length ≤ sizeLine ∧ ∃ us n, RVs ρ h vs us ∧ h.get? p.1 = some { cls := .type "list", data := .seq us.toArray n }
  | .frz vs => p.2 = p.1 ∧ vs.length ≤ sizeLine ∧ ∃ us n, RVs ρ h vs us ∧ h.get? p.1 = some { cls := .type "list", data := .seq us.toArray n }
  | .dct kvs => p.2 = p.1 ∧ DctOk G.P G.w ρ h p.1 kvs
  | .box v => p.2 = p.1 ∧ match v with
    | none => h.IsCell p.1 none
    | some d => ∃ u, h.IsCell p.1 (some u) ∧ RV ρ h d u
  | .clo l cs => p.2 = p.1 ∧ ∃ pm c' ctv cl, h.get? p.1 = some (PySem.W.kla_obj "<lambda>" (G.lams l).qual (G.lams l).params (G.lams l).body (G.lams l).scope cl pm c' ctv) ∧ h.CodeRec (.ref c') (G.lams l).qual ∧
      (cl.map (·.1) = ((G.lams l).scope.names.filter fun y => y.2 == .free).reverse.map (·.1) ∧ (cl.map (·.2)).Nodup ∧ ∀ y ∈ cl, G.base.get? y.2 = none) ∧ Paired (fun (y : Str × Addr) (i : Nat) => ∃ d, ρ[i]? = some (y.2, d) ∧ d = y.2) cl cs
  | .exc C ns vs => ∃ o, h.get? p.1 = some o ∧ o.cls = .ref C ∧ (∃ fv, o.data = .fields fv) ∧
      ((ns = [] ∧ vs = [] ∧ p.2 = p.1 ∧ o.dict = none) ∨ (o.dict = some p.2 ∧ p.2 ≠ p.1 ∧ ∃ us, RVs ρ h vs us ∧ ns.length = vs.length ∧ h.Ns1 p.2 fun x => ((ns.map Nm.s).zip us).lookup x))
  | .tbl l => p.2 = p.1 ∧ p.1 = G.tab l ∧ TabOk h p.1 (G.nms l)
  | .zb => p.2 = p.1 ∧ ∃ a1 a2, IsTupOf2 h p.1 a1 a2
  | .zd => p.2 = p.1 ∧ p.1 < h.objs.size
/-- cells that may be written -/
def Cel.wr : Cel → Bool
  | .lst _ => true
  | .dct _ => true
  | .box _ => true
  | .zb => true
  | .tbl _ => true
  | .zd => true
  | _ => false

/-- objects at a store's addresses stay as they are: only what is not tuple-like of the others matters -/
theorem Paired.imp2 {α β : Type} {F F' : α → β → Prop} {l : List α} {l' : List β} (x : Paired F l l') (f : ∀ a b, F a b → F' a b) : Paired F' l l' := by
  induction x with
  | nil => exact .nil
  | cons r _ ih => exact .cons (f _ _ r) ih
theorem Paired.imp2' {α β : Type} {F F' : α → β → Prop} {l : List α} {l' : List β} (x : Paired F l l') (f : ∀ a b, b ∈ l' → F a b → F' a b) : Paired F' l l' := by
  induction x with
  | nil => exact .nil
  | cons r _ ih => exact .cons (f _ _ (.head _) r) (ih fun a b hb => f a b (.tail _ hb))
mutual
theorem nk_is {ρ : Rho} {h : Heap} : ∀ (v : D) (u : Value) (k : NestedKey), RV ρ h v u → nk v = some k → NestedIs h k u
  | .non, _, _, r, e => by cases r; cases e; exact .none
  | .bl _, _, _, r, e => by cases r; cases e; exact .bool rfl
  | .int _, _, _, r, e => by obtain ⟨t, rfl⟩ := r; cases e; exact .int _ _
  | .str _, _, _, r, e => by obtain ⟨t, rfl⟩ := r; cases e; exact .text _ _
  | .tup vs, _, _, r, e => by
    simp only [RV] at r
    obtain ⟨a, us, rfl, ⟨⟨o, e1, e2, n, e3⟩, _⟩, _, rs⟩ := r
    simp only [nk, Option.map_eq_some_iff] at e
    obtain ⟨ks, e4, rfl⟩ := e
    exact .tup e1 e2 e3 (by simpa using nks_is vs us ks rs e4)
  | .ref _, _, _, _, e => by simp [nk] at e
  | .glo _, _, _, _, e => by simp [nk] at e
  | .ty _, _, _, _, e => by simp [nk] at e
theorem nks_is {ρ : Rho} {h : Heap} : ∀ (vs : List D) (us : List Value) (ks : List NestedKey), RVs ρ h vs us → nks vs = some ks → NestedAll h ks us
  | [], _, _, r, e => by simp only [RVs] at r; subst r; simp only [nks, Option.some.injEq] at e; subst e; exact .nil
  | v :: vs, us, ks, r, e => by
    simp only [RVs] at r
    obtain ⟨u, q, rfl, a, b⟩ := r
    simp only [nks] at e
    split at e
    · rename_i k ks' e1 e2
      cases e
      exact .cons (nk_is v u k a e1) (nks_is vs q ks' b e2)
    · cases e
end
theorem Paired.memR {α β : Type} {R : α → β → Prop} {l : List α} {l' : List β} (h : Paired R l l') : ∀ b ∈ l', ∃ a ∈ l, R a b := by
  induction h with
  | nil => intro b hb; cases hb
  | cons r _ ih =>
    intro b hb
    rcases List.mem_cons.mp hb with rfl | hb
    · exact ⟨_, .head _, r⟩
    · obtain ⟨a, ha, r⟩ := ih b hb
      exact ⟨a, .tail _ ha, r⟩
theorem DctOk.stay {P : Program} {w : World} {ρ ρ' : Rho} {h h' : Heap} {a : Addr} {kvs : List (D × D)} (x : DctOk P w ρ h a kvs) (r : RhoK ρ ρ') (t : TupK ρ ρ' h h') (k : ∀ o, h.get? a = some o → h'.get? a = some o) : DctOk P w ρ' h' a kvs := by
  obtain ⟨z, y, x⟩ := x
  refine ⟨z, y, ?_⟩
  rcases x with ⟨ys, ⟨o, es, ep, e, q⟩, f⟩ | ⟨xs, ⟨o, es, ep, e, q1, q2, q3, q4, q5⟩, f⟩
  · exact .inl ⟨ys, ⟨o, es, ep, k _ e, q⟩, Paired.imp2 f fun p y q => ⟨q.1, RV.mono r t _ _ q.2⟩⟩
  · exact .inr ⟨xs, ⟨o, es, ep, k _ e, q1, q2, q3, fun x hx => ⟨let ⟨p, _, z⟩ := Paired.memR f x hx; nk_is _ _ _ (RV.mono r t _ _ z.2.1) z.1, (q4 x hx).2⟩, q5⟩, Paired.imp2 f fun p y q => ⟨q.1, RV.mono r t _ _ q.2.1, RV.mono r t _ _ q.2.2⟩⟩
/-- a cell stays while its objects, the tuples and the code objects stay -/
theorem CelOk.stay {G : Gl} {ρ ρ' : Rho} {h h' : Heap} {p : Addr × Addr} {c : Cel} (x : CelOk G ρ h p c) (r : RhoK ρ ρ') (t : TupK ρ ρ' h h') (k : ∀ b o, (b = p.1 ∨ b = p.2) → h.get? b = some o → h'.get? b = some o)
    (kc : ∀ cv q, h.CodeRec cv q → h'.CodeRec cv q) (sz : h.objs.size ≤ h'.objs.size) : CelOk G ρ' h' p c := by
  cases c with
  | lst vs => obtain ⟨e, z, us, n, y, g⟩ := x; exact ⟨e, z, us, n, RVs.mono r t _ _ y, k _ _ (.inl rfl) g⟩
  | frz vs => obtain ⟨e, z, us, n, y, g⟩ := x; exact ⟨e, z, us, n, RVs.mono r t _ _ y, k _ _ (.inl rfl) g⟩
  | dct kvs => obtain ⟨e, y⟩ := x; exact ⟨e, y.stay r t fun o q => k _ _ (.inl rfl) q⟩
  | box v =>
    obtain ⟨e, y⟩ := x
    cases v with
    | none => obtain ⟨o, g, q⟩ := y; exact ⟨e, o, k _ _ (.inl rfl) g, q⟩
    | some d => obtain ⟨u, ⟨o, g, q⟩, y⟩ := y; exact ⟨e, u, ⟨o, k _ _ (.inl rfl) g, q⟩, RV.mono r t _ _ y⟩
  | clo l cs =>
    obtain ⟨e, pm, c', ctv, cl, g, q, m, y⟩ := x
    exact ⟨e, pm, c', ctv, cl, k _ _ (.inl rfl) g, kc _ _ q, m, Paired.imp2 y fun a b ⟨d, z, zz⟩ => ⟨d, r _ _ z, zz⟩⟩
  | exc C ns vs =>
    obtain ⟨o, g, c, f, y⟩ := x
    refine ⟨o, k _ _ (.inl rfl) g, c, f, ?_⟩
    rcases y with y | ⟨y1, y2, us, y3, y4, y5⟩
    · exact .inl y
    · exact .inr ⟨y1, y2, us, RVs.mono r t _ _ y3, y4, y5.at fun o q => k _ _ (.inr rfl) q⟩
  | tbl l =>
    obtain ⟨e, ea, ps, g, tr, y⟩ := x
    exact ⟨e, ea, ps, k _ _ (.inl rfl) g, tr, fun pos cv q => kc _ _ (y pos cv q)⟩
  | zb => obtain ⟨e, a1, a2, g⟩ := x; exact ⟨e, a1, a2, k _ _ (.inl rfl) g⟩
  | zd => exact ⟨x.1, Nat.lt_of_lt_of_le x.2 sz⟩
end Z

set_option Elab.async false
set_option linter.all false
set_option maxRecDepth 100000
/-! the engine: a heap never shrinks -/
namespace Z
open PySem

abbrev Shared.hz (s : Shared) : Nat := s.heap.objs.size
theorem runs_hz {M : Model} {Γ : PySem.Ctx} {p : Pos} {t : Sem Fin} {fs : List Frame} {s s1 : Shared} {e : End} (r : Runs M Γ p t fs s e s1) : Shared.hz s ≤ Shared.hz s1 := by
  unfold Shared.hz
  induction r <;> (try simp only [Shared.setGen, Heap.size_update, Heap.size_push] at *) <;> omega
theorem returns_hz {M : Model} {Γ : PySem.Ctx} {p : Pos} {s s1 : Shared} {r : Result} (h : Returns M Γ p s r s1) : Shared.hz s ≤ Shared.hz s1 := runs_hz h
theorem wakes_hz {M : Model} {Γ : PySem.Ctx} {p : Pos} {g : Nat} {r : Resume} {s s1 : Shared} {x : GenResult} (h : Wakes M Γ p g r s x s1) : Shared.hz s ≤ Shared.hz s1 := by
  unfold Wakes at h
  split at h
  · exact False.elim h
  · split at h
    · obtain ⟨_, s2, q, _, _, rfl⟩ := h
      have z := runs_hz q
      exact z
    · obtain ⟨_, rfl⟩ := h
      exact Nat.le_refl _
    · obtain ⟨_, rfl⟩ := h
      exact Nat.le_refl _
  · obtain ⟨_, s2, q, _, _, rfl⟩ := h
    have z := runs_hz q
    exact z
  · obtain ⟨_, rfl⟩ := h
    exact Nat.le_refl _
  · obtain ⟨_, rfl⟩ := h
    exact Nat.le_refl _
theorem wp_hz {α : Type} (M : Model) (Γ : PySem.Ctx) (z : Nat) (t : Sem α) : ∀ (R : α → Pos → Shared → Prop) (X : Value → Pos → Shared → Prop) (q : Pos) (s : Shared), z ≤ Shared.hz s → Sem.wp M Γ t R X q s →
    Sem.wp M Γ t (fun a q1 s1 => R a q1 s1 ∧ z ≤ Shared.hz s1) (fun e q1 s1 => X e q1 s1 ∧ z ≤ Shared.hz s1) q s := by
  induction t with
  | pure a => exact fun _ _ _ _ hz w => ⟨w, hz⟩
  | raise e => exact fun _ _ _ _ hz w => ⟨w, hz⟩
  | unsupported _ => exact fun _ _ _ _ _ w => w
  | finish _ => exact fun _ _ _ _ _ w => w
  | register _ _ => exact fun _ _ _ _ _ w => w
  | yield _ _ _ _ => exact fun _ _ _ _ _ w => w
  | fork _ _ => exact fun _ _ _ _ _ w => w
  | await _ _ _ _ _ => exact fun _ _ _ _ _ w => w
  | rule _ k ih => exact fun R X q s hz w => ih () R X q s hz w
  | «at» q1 k ih => exact fun R X q s hz w => ih () R X q1 s hz w
  | point _ k ih => exact fun R X q s hz w => ih () R X q s hz w
  | load a _ k ih => exact fun R X q s hz ⟨o, ho, w⟩ => ⟨o, ho, ih o R X q s hz w⟩
  | loadIfAlive a k ih => exact fun R X q s hz w => ih _ R X q s hz w
  | update a _ f k ih => exact fun R X q s hz w => ⟨w.1, ih () R X q _ (by show z ≤ (s.heap.update a f).objs.size; rw [Heap.size_update]; exact hz) w.2⟩
  | alloc o k ih => exact fun R X q s hz w => ih _ R X q _ (by show z ≤ (s.heap.push o).objs.size; rw [Heap.size_push]; exact Nat.le_succ_of_le hz) w
  | fresh k ih => exact fun R X q s hz w => ih _ R X q _ hz w
  | ask k ih => exact fun R X q s hz w => ih _ R X q s hz w
  | choose src m k ih => exact fun R X q s hz w => ⟨w.1, ih _ R X q _ hz w.2⟩
  | os c _ k ih => exact fun R X q s hz w => ih _ R X q _ hz w
  | call c hd _ _ k ih => exact fun R X q s hz ⟨r, s1, hr, w⟩ => ⟨r, s1, hr, ih r R X q s1 (Nat.le_trans hz (returns_hz hr)) w⟩
  | handled own k ih => exact fun R X q s hz w => ih _ R X q s hz w
  | genState g k ih => exact fun R X q s hz ⟨st, hs, w⟩ => ⟨st, hs, ih _ R X q s hz w⟩
  | newGen c k ih => exact fun R X q s hz w => ih _ R X q _ hz w
  | resume g r _ k ih => exact fun R X q s hz ⟨res, s1, hw, w⟩ => ⟨res, s1, hw, ih res R X q s1 (Nat.le_trans hz (wakes_hz hw)) w⟩
  | stack k ih => exact fun R X q s hz w => ih _ R X q s hz w
  | thread k ih => exact fun R X q s hz w => ih _ R X q s hz w
/-- whatever runs, the heap is no smaller behind it -/
theorem wpAny_hz {α : Type} {M : Model} {A : Around} {s : Shared} {t : Sem α} {R : α → Shared → Prop} {X : Value → Shared → Prop} (h : wpAny M A t (fun a s1 => s.heap.objs.size ≤ s1.heap.objs.size → R a s1) (fun e s1 => s.heap.objs.size ≤ s1.heap.objs.size → X e s1) s) : wpAny M A t R X s :=
  have g : wpAny M A t (fun a s1 => (s.heap.objs.size ≤ s1.heap.objs.size → R a s1) ∧ s.heap.objs.size ≤ s1.heap.objs.size) (fun e s1 => (s.heap.objs.size ≤ s1.heap.objs.size → X e s1) ∧ s.heap.objs.size ≤ s1.heap.objs.size) s :=
    fun Γ p hΓ => wp_hz M Γ s.heap.objs.size t _ _ p s (Nat.le_refl _) (h Γ p hΓ)
  wpAny_mono g (fun _ _ w => w.1 w.2) fun _ _ w => w.1 w.2
theorem codeAny_hz {M : Model} {A : Around} {s : Shared} {c : Code} {R : Result → Shared → Prop} (h : codeAny M A c (fun r s1 => s.heap.objs.size ≤ s1.heap.objs.size → R r s1) s) : codeAny M A c R s :=
  fun Γ p hc hΓ => by
    obtain ⟨r, s1, hr, w⟩ := h Γ p hc hΓ
    exact ⟨r, s1, hr, w (returns_hz hr)⟩
end Z

set_option Elab.async false
set_option linter.all false
set_option maxRecDepth 100000
/-! the engine, part B: the context, the invariant, steps -/
namespace Z
open PySem PySem.Spec PyProof.Rows
open L2 (frs)

inductive Slot where
  | un | val (v : D) | box (j : Nat)
  deriving Inhabited
abbrev Sl := List Slot

structure Cx where
  G : Gl
  A : Around
  env : Env
  stk : List Env
  N : List Str
  own : Str → Bool
  calm : Bool
  c0 : List Cel

abbrev Cx.fs (X : Cx) : List Addr := frs X.stk
/-- what a store in this frame may write -/
def Cx.wr (X : Cx) (b : Addr) : Prop := b = X.env.locals ∨ ∃ x c, X.own x = true ∧ X.env.cells.lookup x = some c ∧ b = c

structure Gl.Ok (G : Gl) : Prop where
  kin : G.K.In G.base
  glob : G.base.Ns mainGlobals G.mg
  blt : ∃ mb, G.base.Ns builtinsNs mb ∧ ∀ x : Str, x ≠ "__name__" → mb x = bootBuiltins x
  nolimit : G.base.NoLimit

def CF (env : Env) (x : Str) : Prop := env.kindOf x = some .cell ∨ env.kindOf x = some .free
structure Cx.Ok (X : Cx) : Prop where
  G : X.G.Ok
  kind : X.env.scope.kind = .function
  glob : X.env.globals = mainGlobals
  blt : X.env.builtins = builtinsNs
  inj : ∀ x y c, X.env.cells.lookup x = some c → X.env.cells.lookup y = some c → x = y
  has : ∀ x, CF X.env x → ∃ c, X.env.cells.lookup x = some c
  hd : X.calm = true → X.A.handled = none
  hu : X.A.units + 70 < cLine
  frames : X.A.frames = some X.stk
  lbase : X.G.base.get? X.env.locals = none
  cbase : ∀ x c, X.env.cells.lookup x = some c → X.G.base.get? c = none
  nd : X.N.Nodup

def SlotOk (env : Env) (ρ : Rho) (h : Heap) (mm : Str → Option Value) (x : Str) : Slot → Prop
  | .un => CF env x → ∀ c, env.cells.lookup x = some c → NotIn ρ c
  | .val v => ∃ u, RV ρ h v u ∧ ((env.kindOf x = some .local ∧ mm x = some u) ∨ (CF env x ∧ ∃ c, env.cells.lookup x = some c ∧ h.IsCell c (some u) ∧ NotIn ρ c))
  | .box j => CF env x ∧ ∃ c, env.cells.lookup x = some c ∧ ρ[j]? = some (c, c)

/-- the state but for the running frame: the frames stk run -/
structure SInv (G : Gl) (stk : List Env) (m : Store) (ρ : Rho) (s : Shared) : Prop where
  os : s.os = G.os
  bare : AllBare s.gens
  base : ∀ b o, G.base.get? b = some o → s.heap.get? b = some o
  nbase : ∀ (i : Nat) p c, ρ[i]? = some p → m.cs[i]? = some c → c.wr = true → G.base.get? p.1 = none ∧ G.base.get? p.2 = none
  funs : s.heap.FunFrames G.base stk
  frn : ∀ b ∈ frs stk, NotIn ρ b
  len : ρ.length = m.cs.length
  disj : ∀ (i j : Nat) p q, i ≠ j → ρ[i]? = some p → ρ[j]? = some q → p.1 ≠ q.1 ∧ p.1 ≠ q.2 ∧ p.2 ≠ q.1 ∧ p.2 ≠ q.2
  cel : ∀ (i : Nat) p c, ρ[i]? = some p → m.cs[i]? = some c → CelOk G ρ s.heap p c

structure Inv (X : Cx) (σ : Sl) (m : Store) (ρ : Rho) (s : Shared) : Prop where
  ok : X.Ok
  S : SInv X.G X.stk m ρ s
  cell : ∀ x c, X.env.cells.lookup x = some c → NotIn ρ c → ∃ v, s.heap.IsCell c v
  loc : ∃ mm, s.heap.Ns X.env.locals mm ∧ ∀ (i : Nat) x sl, X.N[i]? = some x → σ[i]? = some sl → SlotOk X.env ρ s.heap mm x sl
  ln : NotIn ρ X.env.locals
  slen : σ.length = X.N.length
  low : ∀ i, i < m.low → m.cs[i]? = X.c0[i]?
  lowle : m.low ≤ m.cs.length

/-- what stays from s to s' -/
structure Kp (fs : List Addr) (ex : Addr → Prop) (ρ ρ' : Rho) (s s' : Shared) : Prop where
  sub : ∃ l, ρ' = ρ ++ l ∧ ∀ p ∈ l, s.heap.objs.size ≤ p.1 ∧ s.heap.objs.size ≤ p.2
  sz : s.heap.objs.size ≤ s'.heap.objs.size
  tups : TupK ρ ρ' s.heap s'.heap
  codes : ∀ cv q, s.heap.CodeRec cv q → s'.heap.CodeRec cv q
  keep : ∀ b o, s.heap.get? b = some o → NotIn ρ b → ¬ ex b → b ∉ fs → s'.heap.get? b = some o
  slot : ∀ b o, s.heap.get? b = some o → NotIn ρ b → ¬ ex b → ∃ sl, s'.heap.get? b = some { o with slots := sl }

def noex : Addr → Prop := fun _ => False

theorem NotIn.app {ρ l : Rho} {b : Addr} : NotIn (ρ ++ l) b ↔ NotIn ρ b ∧ NotIn l b := by
  unfold NotIn
  constructor
  · intro h
    exact ⟨fun p hp => h p (List.mem_append_left _ hp), fun p hp => h p (List.mem_append_right _ hp)⟩
  · rintro ⟨h1, h2⟩ p hp
    rcases List.mem_append.mp hp with q | q
    · exact h1 p q
    · exact h2 p q
theorem NotIn.get {ρ : Rho} {b : Addr} (h : NotIn ρ b) {i : Nat} {p : Addr × Addr} (e : ρ[i]? = some p) : b ≠ p.1 ∧ b ≠ p.2 := h p (List.mem_of_getElem? e)
theorem NotIn.of {ρ : Rho} {b : Addr} (h : ∀ (i : Nat) p, ρ[i]? = some p → b ≠ p.1 ∧ b ≠ p.2) : NotIn ρ b := fun p hp => by
  obtain ⟨i, hi⟩ := List.mem_iff_getElem?.mp hp
  exact h i p hi
/-- old addresses are in no new cell -/
theorem NotIn.fresh {l : Rho} {n : Nat} {b : Addr} (hb : b < n) (h : ∀ p ∈ l, n ≤ p.1 ∧ n ≤ p.2) : NotIn l b := fun p hp =>
  ⟨Nat.ne_of_lt (Nat.lt_of_lt_of_le hb (h p hp).1), Nat.ne_of_lt (Nat.lt_of_lt_of_le hb (h p hp).2)⟩

section
variable {fs : List Addr} {ex : Addr → Prop} {ρ ρ1 ρ2 : Rho} {s s1 s2 : Shared}
theorem Kp.rho (K : Kp fs ex ρ ρ1 s s1) : RhoK ρ ρ1 := by
  obtain ⟨l, rfl, _⟩ := K.sub
  exact RhoK.app ρ l
theorem Kp.stays (K : Kp fs ex ρ ρ1 s s1) {b : Addr} {o : Obj} (e : s.heap.get? b = some o) (n : NotIn ρ b) : NotIn ρ1 b := by
  obtain ⟨l, rfl, f⟩ := K.sub
  exact NotIn.app.mpr ⟨n, NotIn.fresh (Heap.lt_size e) f⟩
theorem Kp.trans (a : Kp fs ex ρ ρ1 s s1) (b : Kp fs ex ρ1 ρ2 s1 s2) : Kp fs ex ρ ρ2 s s2 := by
  have st : ∀ {c o}, s.heap.get? c = some o → NotIn ρ c → NotIn ρ1 c := fun e n => a.stays e n
  obtain ⟨l, e1, f⟩ := id a.sub
  obtain ⟨l2, e2, g⟩ := id b.sub
  refine ⟨⟨l ++ l2, by rw [e2, e1, List.append_assoc], fun p hp => ?_⟩, Nat.le_trans a.sz b.sz, a.tups.trans b.tups, fun cv q x => b.codes _ _ (a.codes _ _ x), fun c o e n nx hf => b.keep c o (a.keep c o e n nx hf) (st e n) nx hf, fun c o e n nx => ?_⟩
  · rcases List.mem_append.mp hp with q | q
    · exact f p q
    · exact ⟨Nat.le_trans a.sz (g p q).1, Nat.le_trans a.sz (g p q).2⟩
  · obtain ⟨sl, e1⟩ := a.slot c o e n nx
    obtain ⟨sl2, e2⟩ := b.slot c _ e1 (st e n) nx
    exact ⟨sl2, e2⟩
theorem Kp.weak {ex' : Addr → Prop} (a : Kp fs ex ρ ρ1 s s1) (h : ∀ b, ex b → ex' b) : Kp fs ex' ρ ρ1 s s1 :=
  ⟨a.sub, a.sz, a.tups, a.codes, fun b o e n nx hf => a.keep b o e n (fun z => nx (h b z)) hf, fun b o e n nx => a.slot b o e n fun z => nx (h b z)⟩
theorem Kp.any (a : Kp fs noex ρ ρ1 s s1) : Kp fs ex ρ ρ1 s s1 := a.weak fun _ z => z.elim
theorem Kp.refl : Kp fs ex ρ ρ s s := ⟨⟨[], by simp, fun _ z => nomatch z⟩, Nat.le_refl _, TupK.refl _ _, fun _ _ x => x, fun _ _ e _ _ _ => e, fun _ o e _ _ => ⟨o.slots, e⟩⟩
/-- all objects stay -/
theorem Kp.all (k : ∀ b o, s.heap.get? b = some o → s1.heap.get? b = some o) (sz : s.heap.objs.size ≤ s1.heap.objs.size) {l : Rho} (hl : ∀ p ∈ l, s.heap.objs.size ≤ p.1 ∧ s.heap.objs.size ≤ p.2) : Kp fs ex ρ (ρ ++ l) s s1 :=
  ⟨⟨l, rfl, hl⟩, sz, TupK.app k hl, fun cv q x => x.keeps k, fun b o e _ _ _ => k b o e, fun b o e _ _ => ⟨o.slots, k b o e⟩⟩
theorem Kp.all0 (k : ∀ b o, s.heap.get? b = some o → s1.heap.get? b = some o) (sz : s.heap.objs.size ≤ s1.heap.objs.size) : Kp fs ex ρ ρ s s1 := by
  have h := Kp.all (fs := fs) (ex := ex) (ρ := ρ) (l := []) k sz (fun _ z => nomatch z)
  rwa [List.append_nil] at h
/-- fewer new cells -/
theorem Kp.less {l l2 : Rho} (K : Kp fs ex ρ (ρ ++ l) s s1) (h : ∀ p ∈ l2, p ∈ l) : Kp fs ex ρ (ρ ++ l2) s s1 := by
  obtain ⟨l', e, f⟩ := K.sub
  have e := List.append_cancel_left e
  subst e
  exact ⟨⟨l2, rfl, fun p hp => f p (h p hp)⟩, K.sz, fun b us t => ⟨(K.tups b us t).1, fun p hp => (K.tups b us t).2 p (by
    rcases List.mem_append.mp hp with q | q
    · exact List.mem_append_left _ q
    · exact List.mem_append_right _ (h p q))⟩, K.codes, K.keep, K.slot⟩
/-- one object changed, neither a tuple nor a record -/
theorem Kp.but {a : Addr} {o : Obj} (hs : Heap.SameBut a s.heap s1.heap) (ha : s.heap.get? a = some o) (h1 : ¬ NotIn ρ a ∨ o.cls ≠ .type "tuple" ∨ ∀ vs n, o.data ≠ .seq vs n) (h2 : ∀ vs, o.data ≠ .fields vs) (he : ex a ∨ ¬ NotIn ρ a) : Kp fs ex ρ ρ s s1 := by
  have k : ∀ b u, b ≠ a → s.heap.get? b = some u → s1.heap.get? b = some u := fun b u hb e => (hs.2 b hb).trans e
  have ne : ∀ b, NotIn ρ b → ¬ ex b → b ≠ a := fun b n nx z => by
    subst z
    rcases he with he | he
    · exact nx he
    · exact he n
  refine ⟨⟨[], by simp, fun _ z => nomatch z⟩, Nat.le_of_eq hs.1.symm, TupK.same fun b us ⟨u, e, c, n, d⟩ nb => ?_, fun cv q ⟨c, u, vs, t, e0, e, d, v⟩ => ?_, fun b u e n nx _ => k b u (ne b n nx) e, fun b u e n nx => ⟨u.slots, k b u (ne b n nx) e⟩⟩
  · refine ⟨u, k b u (fun z => ?_) e, c, n, d⟩
    subst z
    rw [ha] at e; cases e
    rcases h1 with h1 | h1 | h1
    · exact h1 nb
    · exact h1 c
    · exact h1 _ _ d
  · refine ⟨c, u, vs, t, e0, k c u (fun z => ?_) e, d, v⟩
    subst z
    rw [ha] at e; cases e
    exact h2 _ d
end

theorem Heap.FunFrames.kp {G : Gl} {s s' : Shared} {ρ ρ' : Rho} {fs : List Addr} {stk : List Env} (K : Kp fs noex ρ ρ' s s') (fr : ∀ b ∈ frs stk, NotIn ρ b) (h : s.heap.FunFrames G.base stk) : s'.heap.FunFrames G.base stk := by
  induction stk with
  | nil => trivial
  | cons env r ih =>
    obtain ⟨hk, ⟨L, o, hf, hn, ho, hd⟩, hr⟩ := h
    have e1 : frs (env :: r) = L :: frs r := by unfold frs; rw [List.filterMap_cons, hf]
    rw [e1] at fr
    obtain ⟨sl, e⟩ := K.slot L o ho (fr L (.head _)) (fun z => z)
    exact ⟨hk, ⟨L, _, hf, hn, e, hd⟩, ih (fun b hb => fr b (.tail _ hb)) hr⟩
theorem CelOk.lt {G : Gl} {ρ : Rho} {h : Heap} {p : Addr × Addr} {c : Cel} (x : CelOk G ρ h p c) : p.1 < h.objs.size ∧ p.2 < h.objs.size := by
  have two : ∀ {o : Obj}, p.2 = p.1 → h.get? p.1 = some o → p.1 < h.objs.size ∧ p.2 < h.objs.size := fun e g => ⟨Heap.lt_size g, by rw [e]; exact Heap.lt_size g⟩
  cases c with
  | lst vs => obtain ⟨e, z, us, n, y, g⟩ := x; exact two e g
  | frz vs => obtain ⟨e, z, us, n, y, g⟩ := x; exact two e g
  | dct kvs =>
    obtain ⟨e, z, y, g⟩ := x
    rcases g with ⟨ys, ⟨o, es, ep, q, _⟩, _⟩ | ⟨xs, ⟨o, es, ep, q, _⟩, _⟩
    · exact two e q
    · exact two e q
  | box v =>
    obtain ⟨e, y⟩ := x
    cases v with
    | none => obtain ⟨o, g, q⟩ := y; exact two e g
    | some d => obtain ⟨u, ⟨o, g, q⟩, y⟩ := y; exact two e g
  | clo l cs =>
    obtain ⟨e, pm, c', ctv, cl, g, _⟩ := x
    exact two e g
  | exc C ns vs =>
    obtain ⟨o, g, c, f, y⟩ := x
    rcases y with ⟨_, _, e, _⟩ | ⟨_, _, us, _, _, ⟨o', es, ep, g', d', _⟩⟩
    · exact two e g
    · exact ⟨Heap.lt_size g, Heap.lt_size g'⟩
  | tbl l =>
    obtain ⟨e, _, ps, g, _⟩ := x
    exact two e g
  | zb => obtain ⟨e, a1, a2, g⟩ := x; exact two e g
  | zd => exact ⟨x.2, by rw [x.1]; exact x.2⟩
section
variable {G : Gl} {stk : List Env} {m m' : Store} {ρ ρ' : Rho} {s s' : Shared}
theorem SInv.cl (S : SInv G stk m ρ s) {i : Nat} {p : Addr × Addr} (e : ρ[i]? = some p) : ∃ c, m.cs[i]? = some c ∧ CelOk G ρ s.heap p c := by
  have h1 : i < m.cs.length := by rw [← S.len]; exact (List.getElem?_eq_some_iff.mp e).1
  exact ⟨_, List.getElem?_eq_getElem h1, S.cel i p _ e (List.getElem?_eq_getElem h1)⟩
theorem SInv.at (S : SInv G stk m ρ s) {i : Nat} {c : Cel} (h : m.cs[i]? = some c) : ∃ p, ρ[i]? = some p ∧ CelOk G ρ s.heap p c := by
  have h1 := (List.getElem?_eq_some_iff.mp h).1
  have h2 : i < ρ.length := by rw [S.len]; exact h1
  exact ⟨ρ[i], List.getElem?_eq_getElem h2, S.cel i _ c (List.getElem?_eq_getElem h2) h⟩
theorem SInv.lt (S : SInv G stk m ρ s) {i : Nat} {p : Addr × Addr} (e : ρ[i]? = some p) : p.1 < s.heap.objs.size ∧ p.2 < s.heap.objs.size := by
  obtain ⟨c, _, ck⟩ := S.cl e
  exact ck.lt
theorem SInv.fresh (S : SInv G stk m ρ s) {b : Addr} (h : s.heap.objs.size ≤ b) : NotIn ρ b := NotIn.of fun i p e => by
  have := S.lt e
  exact ⟨fun z => absurd (Nat.lt_of_lt_of_le this.1 h) (by rw [z]; exact Nat.lt_irrefl _), fun z => absurd (Nat.lt_of_lt_of_le this.2 h) (by rw [z]; exact Nat.lt_irrefl _)⟩
theorem SInv.bfresh (S : SInv G stk m ρ s) {b : Addr} (h : s.heap.objs.size ≤ b) : G.base.get? b = none := by
  cases e : G.base.get? b with
  | none => rfl
  | some o => exact absurd (Nat.lt_of_lt_of_le (Heap.lt_size (S.base b o e)) h) (Nat.lt_irrefl _)
theorem SInv.nofr (S : SInv G stk m ρ s) {b : Addr} {o : Obj} (e : G.base.get? b = some o) : b ∉ frs stk := fun hb => by
  have := (S.funs.mem hb).1
  rw [e] at this; cases this
/-- new cells, nothing written -/
theorem SInv.more (S : SInv G stk m ρ s) {l : Rho} (K : Kp (frs stk) noex ρ (ρ ++ l) s s') (ka : ∀ b o, ¬ NotIn ρ b → s.heap.get? b = some o → s'.heap.get? b = some o) (os : s'.os = s.os) (bare : AllBare s'.gens) (ls : List Cel) (hl : l.length = ls.length)
    (lf : ∀ p ∈ l, s.heap.objs.size ≤ p.1 ∧ s.heap.objs.size ≤ p.2)
    (dj : ∀ (i j : Nat) p q, i ≠ j → l[i]? = some p → l[j]? = some q → p.1 ≠ q.1 ∧ p.1 ≠ q.2 ∧ p.2 ≠ q.1 ∧ p.2 ≠ q.2)
    (ok : ∀ (i : Nat) p c, l[i]? = some p → ls[i]? = some c → CelOk G (ρ ++ l) s'.heap p c) : SInv G stk ⟨m.cs ++ ls, m.low⟩ (ρ ++ l) s' := by
  have old : ∀ {i : Nat} {p : Addr × Addr}, i < ρ.length → (ρ ++ l)[i]? = some p → ρ[i]? = some p := fun h e => by rwa [List.getElem?_append_left h] at e
  have new : ∀ {i : Nat} {p : Addr × Addr}, ¬ i < ρ.length → (ρ ++ l)[i]? = some p → l[i - ρ.length]? = some p := fun h e => by rwa [List.getElem?_append_right (by omega)] at e
  have lt := fun {i : Nat} {p : Addr × Addr} (e : ρ[i]? = some p) => S.lt e
  have ge := fun {i : Nat} {p : Addr × Addr} (e : l[i]? = some p) => lf p (List.mem_of_getElem? e)
  refine ⟨os.trans S.os, bare, fun b o e => ?_, fun i p c e1 e2 hw => ?_, Heap.FunFrames.kp K S.frn S.funs, fun b hb => ?_, by simp [S.len, hl], fun i j p q ne e1 e2 => ?_, fun i p c e1 e2 => ?_⟩
  · by_cases n : NotIn ρ b
    · exact K.keep b o (S.base b o e) n (fun z => z) (S.nofr e)
    · exact ka b o n (S.base b o e)
  · by_cases h : i < ρ.length
    · rw [List.getElem?_append_left (by rw [← S.len]; exact h)] at e2
      exact S.nbase i p c (old h e1) e2 hw
    · have := ge (new h e1)
      exact ⟨S.bfresh this.1, S.bfresh this.2⟩
  · obtain ⟨_, o, ho, _⟩ := S.funs.mem hb
    exact K.stays ho (S.frn b hb)
  · by_cases h : i < ρ.length
    · by_cases h' : j < ρ.length
      · exact S.disj i j p q ne (old h e1) (old h' e2)
      · have a := lt (old h e1); have b := ge (new h' e2)
        exact ⟨Nat.ne_of_lt (Nat.lt_of_lt_of_le a.1 b.1), Nat.ne_of_lt (Nat.lt_of_lt_of_le a.1 b.2), Nat.ne_of_lt (Nat.lt_of_lt_of_le a.2 b.1), Nat.ne_of_lt (Nat.lt_of_lt_of_le a.2 b.2)⟩
    · by_cases h' : j < ρ.length
      · have a := ge (new h e1); have b := lt (old h' e2)
        exact ⟨Nat.ne_of_gt (Nat.lt_of_lt_of_le b.1 a.1), Nat.ne_of_gt (Nat.lt_of_lt_of_le b.2 a.1), Nat.ne_of_gt (Nat.lt_of_lt_of_le b.1 a.2), Nat.ne_of_gt (Nat.lt_of_lt_of_le b.2 a.2)⟩
      · exact dj _ _ p q (by omega) (new h e1) (new h' e2)
  · by_cases h : i < ρ.length
    · have e1' := old h e1
      rw [List.getElem?_append_left (by rw [← S.len]; exact h)] at e2
      refine (S.cel i p c e1' e2).stay K.rho K.tups (fun b o hb e => ka b o (fun n => ?_) e) K.codes K.sz
      have := n.get e1'
      rcases hb with hb | hb
      · exact this.1 hb
      · exact this.2 hb
    · rw [List.getElem?_append_right (by rw [← S.len]; omega), ← S.len] at e2
      exact ok _ p c (new h e1) e2
end

section
variable {X : Cx} {σ : Sl} {m m' : Store} {ρ ρ' : Rho} {s s' : Shared}
theorem Inv.G (I : Inv X σ m ρ s) : X.G.Ok := I.ok.G
theorem Inv.kIn (I : Inv X σ m ρ s) : X.G.K.In s.heap := I.G.kin.keeps I.S.base
theorem Inv.nolimit (I : Inv X σ m ρ s) : s.heap.NoLimit := I.G.nolimit.keeps I.S.base
theorem Inv.lt (I : Inv X σ m ρ s) : X.env.locals < s.heap.objs.size := let ⟨_, hn, _⟩ := I.loc; hn.lt
theorem SlotOk.mono {env : Env} {h h' : Heap} {mm : Str → Option Value} {x : Str} {sl : Slot} (y : SlotOk env ρ h mm x sl) (r : RhoK ρ ρ') (t : TupK ρ ρ' h h')
    (ni : ∀ c, env.cells.lookup x = some c → NotIn ρ c → NotIn ρ' c) (kc : ∀ c v, env.cells.lookup x = some c → NotIn ρ c → h.IsCell c v → h'.IsCell c v) : SlotOk env ρ' h' mm x sl := by
  cases sl with
  | un => exact fun cf c e => ni c e (y cf c e)
  | val v =>
    obtain ⟨u, rv, q⟩ := y
    refine ⟨u, RV.mono r t _ _ rv, ?_⟩
    rcases q with q | ⟨cf, c, e, ic, n⟩
    · exact .inl q
    · exact .inr ⟨cf, c, e, kc c _ e n ic, ni c e n⟩
  | box j =>
    obtain ⟨cf, c, e, q⟩ := y
    exact ⟨cf, c, e, r _ _ q⟩
/-- the frame's own things are carried on -/
theorem Inv.go (I : Inv X σ m ρ s) (K : Kp X.fs noex ρ ρ' s s') (S' : SInv X.G X.stk m' ρ' s') (low : ∀ i, i < m'.low → m'.cs[i]? = X.c0[i]?) (lowle : m'.low ≤ m'.cs.length) : Inv X σ m' ρ' s' := by
  have cellK : ∀ c v, NotIn ρ c → s.heap.IsCell c v → s'.heap.IsCell c v := fun c v n ⟨o, e, d⟩ => by
    obtain ⟨sl, q⟩ := K.slot c o e n (fun z => z)
    exact ⟨_, q, d⟩
  have ni : ∀ x c, X.env.cells.lookup x = some c → NotIn ρ c → NotIn ρ' c := fun x c e n => by
    obtain ⟨v, o, e', d⟩ := I.cell x c e n
    exact K.stays e' n
  refine ⟨I.ok, S', fun x c e n => ?_, ?_, ?_, I.slen, low, lowle⟩
  · have n0 : NotIn ρ c := by
      obtain ⟨l, e1, _⟩ := K.sub
      rw [e1] at n
      exact (NotIn.app.mp n).1
    obtain ⟨v, q⟩ := I.cell x c e n0
    exact ⟨v, cellK c v n0 q⟩
  · obtain ⟨mm, hn, hl⟩ := I.loc
    refine ⟨mm, ?_, fun i x sl e1 e2 => (hl i x sl e1 e2).mono K.rho K.tups (fun c e n => ni x c e n) fun c v e n => cellK c v n⟩
    obtain ⟨o, es, ep, ho, r⟩ := hn
    obtain ⟨sl, e⟩ := K.slot _ o ho I.ln (fun z => z)
    exact ⟨_, es, ep, e, r⟩
  · obtain ⟨mm, ⟨o, es, ep, ho, r⟩, hl⟩ := I.loc
    exact K.stays ho I.ln
end
end Z

set_option Elab.async false
set_option linter.all false
set_option maxRecDepth 100000
/-! the engine, part C: results, judgements, the plainest expressions -/
namespace Z
open PySem PySem.Spec PyProof.Rows
open L2 (frs)

structure Ex where
  C : Addr
  ns : List Nm
  vs : List D
inductive Res (α : Type) where
  | ok (a : α) (m : Store) | exc (x : Ex) (m : Store) | bad
def Res.bind {α β : Type} (r : Res α) (k : α → Store → Res β) : Res β :=
  match r with
  | .ok a m => k a m
  | .exc x m => .exc x m
  | .bad => .bad
def Res.sat {α : Type} (r : Res α) (Q : α → Store → Prop) (E : Ex → Store → Prop) : Prop :=
  match r with
  | .ok a m => Q a m
  | .exc x m => E x m
  | .bad => False
theorem Res.sat.mono {α : Type} {r : Res α} {Q Q' : α → Store → Prop} {E E' : Ex → Store → Prop} (h : r.sat Q E) (hq : ∀ a m, Q a m → Q' a m) (he : ∀ x m, E x m → E' x m) : r.sat Q' E' := by
  cases r with
  | ok a m => exact hq _ _ h
  | exc x m => exact he _ _ h
  | bad => exact h
abbrev EV := Sl → Store → Res D
abbrev LV := Sl → Store → Res (List D)
abbrev TV := Sl → Store → Res Bool
inductive SR where
  | nxt (σ : Sl) (m : Store) | ret (v : D) (m : Store) | brk (σ : Sl) (m : Store) | cnt (σ : Sl) (m : Store) | exc (x : Ex) (σ : Sl) (m : Store) | bad
abbrev SV := Sl → Store → SR
def Store.push (m : Store) (c : Cel) : Store := ⟨m.cs ++ [c], m.low⟩
def Store.put (m : Store) (i : Nat) (c : Cel) : Store := ⟨m.cs.set i c, min m.low i⟩
abbrev Store.nx (m : Store) : Nat := m.cs.length

/-- the fields of an exception -/
def ExF (n : Nat) (fs : List Addr) (h : Heap) (ρ : Rho) (d : Option Addr) (x : Ex) : Prop :=
  (x.ns = [] ∧ x.vs = [] ∧ d = none) ∨ ∃ dx us, d = some dx ∧ h.Ns1 dx (fun y => ((x.ns.map Nm.s).zip us).lookup y) ∧ RVs ρ h x.vs us ∧ x.ns.length = x.vs.length ∧ NotIn ρ dx ∧ dx ∉ fs ∧ n ≤ dx
theorem ExF.le {n n' : Nat} {fs : List Addr} {h : Heap} {ρ : Rho} {d : Option Addr} {x : Ex} (hn : n ≤ n') (y : ExF n' fs h ρ d x) : ExF n fs h ρ d x := by
  rcases y with y | ⟨dx, us, h1, h2, h3, h4, h5, h6, h7⟩
  · exact .inl y
  · exact .inr ⟨dx, us, h1, h2, h3, h4, h5, h6, Nat.le_trans hn h7⟩
/-- an exception in the air of X -/
def Air (X : Cx) (ex : Addr → Prop) (σ : Sl) (m' : Store) (ρ : Rho) (s : Shared) (x : Ex) (u : Value) (s' : Shared) : Prop :=
  ∃ (a : Addr) (B : Heap) (sI : Shared) (ρ' : Rho) (d : Option Addr), u = .ref a ∧ Inv X σ m' ρ' sI ∧ Kp X.fs ex ρ ρ' s sI ∧ (∀ b o, sI.heap.get? b = some o → b ∉ X.fs → B.get? b = some o) ∧ sI.heap.UpToSlots s'.heap ∧ sI.heap.objs.size ≤ s'.heap.objs.size ∧
    L2.Sky B X.stk a (L2.Zc (.ref x.C) d) X.env.locals s'.heap ∧ s'.os = sI.os ∧ AllBare s'.gens ∧ s.heap.objs.size ≤ a ∧ NotIn ρ' a ∧ ExF s.heap.objs.size X.fs sI.heap ρ' d x
abbrev EP (X : Cx) (ex : Addr → Prop) (σ : Sl) (ρ : Rho) (s : Shared) (E : Value → Shared → Prop) : Ex → Store → Prop := fun x m' => ∀ u s', Air X ex σ m' ρ s x u s' → E u s'
theorem Air.after {X : Cx} {ex : Addr → Prop} {σ : Sl} {m' : Store} {ρ ρ1 : Rho} {s s1 s' : Shared} {x : Ex} {u : Value} (K : Kp X.fs ex ρ ρ1 s s1) (h : Air X ex σ m' ρ1 s1 x u s') : Air X ex σ m' ρ s x u s' := by
  obtain ⟨a, B, sI, ρ', d, e, I, K', r1, r2, r3, r4, r5, r6, la, na, xf⟩ := h
  exact ⟨a, B, sI, ρ', d, e, I, K.trans K', r1, r2, r3, r4, r5, r6, Nat.le_trans K.sz la, na, xf.le K.sz⟩
theorem Air.weak {X : Cx} {ex ex' : Addr → Prop} {σ : Sl} {m' : Store} {ρ : Rho} {s s' : Shared} {x : Ex} {u : Value} (h : Air X ex σ m' ρ s x u s') (w : ∀ b, ex b → ex' b) : Air X ex' σ m' ρ s x u s' := by
  obtain ⟨a, B, sI, ρ', d, e, I, K', r⟩ := h
  exact ⟨a, B, sI, ρ', d, e, I, K'.weak w, r⟩
abbrev QE (X : Cx) (σ : Sl) (ρ : Rho) (s : Shared) (Q : Value → Shared → Prop) : D → Store → Prop := fun v m' => ∀ u s' ρ', Inv X σ m' ρ' s' → Kp X.fs noex ρ ρ' s s' → RV ρ' s'.heap v u → Q u s'
abbrev QL (X : Cx) (σ : Sl) (ρ : Rho) (s : Shared) (Q : List Value → Shared → Prop) : List D → Store → Prop := fun vs m' => ∀ us s' ρ', Inv X σ m' ρ' s' → Kp X.fs noex ρ ρ' s s' → RVs ρ' s'.heap vs us → Q us s'
abbrev QT (X : Cx) (σ : Sl) (ρ : Rho) (s : Shared) (Q : Bool → Shared → Prop) : Bool → Store → Prop := fun b m' => ∀ s' ρ', Inv X σ m' ρ' s' → Kp X.fs noex ρ ρ' s s' → Q b s'

/-- an expression means f -/
structure SE (X : Cx) (e : Expr) (f : EV) : Prop where
  run : ∀ σ m ρ s (Q : Value → Shared → Prop) (E : Value → Shared → Prop), Inv X σ m ρ s → (f σ m).sat (QE X σ ρ s Q) (EP X noex σ ρ s E) → wpAny (model X.G.P X.G.w) X.A (eval e X.env) Q E s
/-- a test means f, whatever its whole is -/
structure ST (X : Cx) (e : Expr) (f : TV) : Prop where
  run : ∀ σ m ρ s (Q : Bool → Shared → Prop) (E : Value → Shared → Prop), Inv X σ m ρ s → (f σ m).sat (QT X σ ρ s Q) (EP X noex σ ρ s E) → wpAny (model X.G.P X.G.w) X.A (isTrue e X.env (eval e X.env)) Q E s
/-- an argument list -/
structure SA (X : Cx) (es : List Expr) (f : LV) : Prop where
  run : ∀ (pos : Pos) σ m ρ s (Q : List Value → Shared → Prop) (E : Value → Shared → Prop), Inv X σ m ρ s → (f σ m).sat (QL X σ ρ s Q) (EP X noex σ ρ s E) → wpAny (model X.G.P X.G.w) X.A (spliced (backTo pos (starEach es X.env))) Q E s
/-- what a statement is to reach -/
def SR.sat (r : SR) (X : Cx) (ρ : Rho) (s : Shared) (Q : Flow → Shared → Prop) (E : Value → Shared → Prop) : Prop :=
  match r with
  | .nxt σ' m' => ∀ s' ρ', Inv X σ' m' ρ' s' → Kp X.fs X.wr ρ ρ' s s' → Q .next s'
  | .ret v m' => ∀ u s' ρ' σ', Inv X σ' m' ρ' s' → Kp X.fs X.wr ρ ρ' s s' → RV ρ' s'.heap v u → Q (.ret u) s'
  | .brk σ' m' => ∀ s' ρ', Inv X σ' m' ρ' s' → Kp X.fs X.wr ρ ρ' s s' → Q .brk s'
  | .cnt σ' m' => ∀ s' ρ', Inv X σ' m' ρ' s' → Kp X.fs X.wr ρ ρ' s s' → Q .cont s'
  | .exc x σ' m' => ∀ u s', Air X X.wr σ' m' ρ s x u s' → E u s'
  | .bad => False
structure SS (X : Cx) (st : Stmt) (f : SV) : Prop where
  run : ∀ σ m ρ s (Q : Flow → Shared → Prop) (E : Value → Shared → Prop), Inv X σ m ρ s → (f σ m).sat X ρ s Q E → wpAny (model X.G.P X.G.w) X.A (exec st X.env) Q E s
structure SB (X : Cx) (st : List Stmt) (f : SV) : Prop where
  run : ∀ σ m ρ s (Q : Flow → Shared → Prop) (E : Value → Shared → Prop), Inv X σ m ρ s → (f σ m).sat X ρ s Q E → wpAny (model X.G.P X.G.w) X.A (execs st X.env) Q E s

section
variable {X : Cx} {σ : Sl} {m m' : Store} {ρ ρ1 ρ' : Rho} {s s1 s' : Shared} {a : Expr} {f : EV} {E : Value → Shared → Prop}
theorem rel {α : Type} {ex : Addr → Prop} {r : Res α} {QP : α → Store → Prop} (K : Kp X.fs ex ρ ρ1 s s1) (h : r.sat QP (EP X ex σ ρ s E)) : r.sat QP (EP X ex σ ρ1 s1 E) :=
  h.mono (fun _ _ q => q) fun _ _ q u s' z => q u s' (z.after K)
theorem SE.bd {β : Type} (ha : SE X a f) (I : Inv X σ m ρ s) {k : D → Store → Res β} {QP : β → Store → Prop} {R : Value → Shared → Prop} (h : ((f σ m).bind k).sat QP (EP X noex σ ρ s E))
    (c : ∀ v m1 u s1 ρ1, Inv X σ m1 ρ1 s1 → Kp X.fs noex ρ ρ1 s s1 → RV ρ1 s1.heap v u → (k v m1).sat QP (EP X noex σ ρ1 s1 E) → R u s1) : wpAny (model X.G.P X.G.w) X.A (eval a X.env) R E s := by
  refine ha.run σ m ρ s R E I ?_
  cases e : f σ m with
  | ok v m1 => rw [e] at h; exact fun u s1 ρ1 I1 K1 r1 => c v m1 u s1 ρ1 I1 K1 r1 (rel K1 h)
  | exc x m1 => rw [e] at h; exact h
  | bad => rw [e] at h; exact h
theorem ST.bd {β : Type} {f : TV} (ha : ST X a f) (I : Inv X σ m ρ s) {k : Bool → Store → Res β} {QP : β → Store → Prop} {R : Bool → Shared → Prop} (h : ((f σ m).bind k).sat QP (EP X noex σ ρ s E))
    (c : ∀ b m1 s1 ρ1, Inv X σ m1 ρ1 s1 → Kp X.fs noex ρ ρ1 s s1 → (k b m1).sat QP (EP X noex σ ρ1 s1 E) → R b s1) : wpAny (model X.G.P X.G.w) X.A (isTrue a X.env (eval a X.env)) R E s := by
  refine ha.run σ m ρ s R E I ?_
  cases e : f σ m with
  | ok v m1 => rw [e] at h; exact fun s1 ρ1 I1 K1 => c v m1 s1 ρ1 I1 K1 (rel K1 h)
  | exc x m1 => rw [e] at h; exact h
  | bad => rw [e] at h; exact h
theorem SA.bd {β : Type} {es : List Expr} {f : LV} (ha : SA X es f) (pos : Pos) (I : Inv X σ m ρ s) {k : List D → Store → Res β} {QP : β → Store → Prop} {R : List Value → Shared → Prop} (h : ((f σ m).bind k).sat QP (EP X noex σ ρ s E))
    (c : ∀ v m1 u s1 ρ1, Inv X σ m1 ρ1 s1 → Kp X.fs noex ρ ρ1 s s1 → RVs ρ1 s1.heap v u → (k v m1).sat QP (EP X noex σ ρ1 s1 E) → R u s1) : wpAny (model X.G.P X.G.w) X.A (spliced (backTo pos (starEach es X.env))) R E s := by
  refine ha.run pos σ m ρ s R E I ?_
  cases e : f σ m with
  | ok v m1 => rw [e] at h; exact fun u s1 ρ1 I1 K1 r1 => c v m1 u s1 ρ1 I1 K1 r1 (rel K1 h)
  | exc x m1 => rw [e] at h; exact h
  | bad => rw [e] at h; exact h

/-! ### steps -/
theorem Inv.tok (I : Inv X σ m ρ s) (t : Nat) : Inv X σ m ρ { s with toks := t } := ⟨I.ok, ⟨I.S.os, I.S.bare, I.S.base, I.S.nbase, I.S.funs, I.S.frn, I.S.len, I.S.disj, I.S.cel⟩, I.cell, I.loc, I.ln, I.slen, I.low, I.lowle⟩
theorem Kp.tok {fs : List Addr} {ex : Addr → Prop} (t : Nat) : Kp fs ex ρ ρ s { s with toks := t } := Kp.all0 (fun _ _ e => e) (Nat.le_refl _)
/-- objects were added, none tracked -/
theorem Inv.kept {h' : Heap} {t : Nat} (I : Inv X σ m ρ s) (k : ∀ b o, s.heap.get? b = some o → h'.get? b = some o) (sz : s.heap.objs.size ≤ h'.objs.size) :
    Inv X σ m ρ { s with heap := h', toks := t } ∧ Kp X.fs noex ρ ρ s { s with heap := h', toks := t } := by
  have K : Kp X.fs noex ρ (ρ ++ []) s { s with heap := h', toks := t } := Kp.all k sz (fun _ z => nomatch z)
  have S := I.S.more (l := []) (ls := []) K (fun b o _ e => k b o e) rfl I.S.bare rfl (fun _ z => nomatch z) (fun _ _ _ _ _ e => by simp at e) (fun _ _ _ e => by simp at e)
  rw [List.append_nil] at K
  have S' : SInv X.G X.stk m ρ { s with heap := h', toks := t } := by
    have e : (⟨m.cs ++ [], m.low⟩ : Store) = m := by cases m; simp
    rw [e, List.append_nil] at S
    exact S
  exact ⟨I.go K S' I.low I.lowle, K⟩
/-- a new cell at the next address -/
theorem Inv.alloc {o : Obj} {c : Cel} {t : Nat} (I : Inv X σ m ρ s) (ho : o.isFreed = false)
    (ok : CelOk X.G (ρ ++ [(s.heap.objs.size, s.heap.objs.size)]) (s.heap.push o) (s.heap.objs.size, s.heap.objs.size) c) :
    Inv X σ (m.push c) (ρ ++ [(s.heap.objs.size, s.heap.objs.size)]) { s with heap := s.heap.push o, toks := t } ∧ Kp X.fs noex ρ (ρ ++ [(s.heap.objs.size, s.heap.objs.size)]) s { s with heap := s.heap.push o, toks := t } := by
  have k : ∀ b u, s.heap.get? b = some u → (s.heap.push o).get? b = some u := fun b u e => Heap.get?_push_of_some _ e
  have lf : ∀ p ∈ [((s.heap.objs.size : Addr), (s.heap.objs.size : Addr))], s.heap.objs.size ≤ p.1 ∧ s.heap.objs.size ≤ p.2 := fun p hp => by
    rw [List.mem_singleton.mp hp]; exact ⟨Nat.le_refl _, Nat.le_refl _⟩
  have K : Kp X.fs noex ρ (ρ ++ [(s.heap.objs.size, s.heap.objs.size)]) s { s with heap := s.heap.push o, toks := t } := Kp.all k (by simp) lf
  have S := I.S.more (ls := [c]) K (fun b o _ e => k b o e) rfl I.S.bare rfl lf (fun i j p q ne e1 e2 => by
    have h1 : i < 1 := (List.getElem?_eq_some_iff.mp e1).1
    have h2 : j < 1 := (List.getElem?_eq_some_iff.mp e2).1
    omega) (fun i p c' e1 e2 => by
    have h1 : i < 1 := (List.getElem?_eq_some_iff.mp e1).1
    obtain rfl : i = 0 := by omega
    simp at e1 e2
    subst e1; subst e2
    exact ok)
  refine ⟨I.go K S (fun i hi => ?_) (by show m.low ≤ (m.cs ++ [c]).length; rw [List.length_append]; exact Nat.le_trans I.lowle (Nat.le_add_right _ _)), K⟩
  have h := I.low i hi
  have hl := Nat.lt_of_lt_of_le hi I.lowle
  show (m.cs ++ [c])[i]? = _
  rw [List.getElem?_append_left hl]; exact h
theorem nx_rho (I : Inv X σ m ρ s) {p : Addr × Addr} : (ρ ++ [p])[m.cs.length]? = some p := by
  rw [← I.S.len, List.getElem?_append_right (Nat.le_refl _)]; simp
/-- a cell is written -/
theorem Inv.put {h' : Heap} {t : Nat} {i : Nat} {p : Addr × Addr} {c c' : Cel} (I : Inv X σ m ρ s) (hi : m.cs[i]? = some c) (hp : ρ[i]? = some p) (hw : c.wr = true) (hw' : c'.wr = true) (hs : Heap.SameBut p.1 s.heap h') (p2 : p.2 = p.1)
    (hc : ∃ o, s.heap.get? p.1 = some o ∧ ∀ vs, o.data ≠ .fields vs)
    (ok : TupK ρ ρ s.heap h' → CelOk X.G ρ h' p c') : Inv X σ (m.put i c') ρ { s with heap := h', toks := t } ∧ Kp X.fs noex ρ ρ s { s with heap := h', toks := t } := by
  obtain ⟨o, ho, hc2⟩ := hc
  have notin : ¬ NotIn ρ p.1 := fun n => (n.get hp).1 rfl
  have K : Kp X.fs noex ρ ρ s { s with heap := h', toks := t } := Kp.but hs ho (.inl notin) hc2 (.inr notin)
  have nb := I.S.nbase i p c hp hi hw
  have S : SInv X.G X.stk (m.put i c') ρ { s with heap := h', toks := t } := by
    refine ⟨I.S.os, I.S.bare, fun b u e => ?_, fun j q d e1 e2 w => ?_, Heap.FunFrames.kp K I.S.frn I.S.funs, I.S.frn, by simp [Store.put, I.S.len], I.S.disj, fun j q d e1 e2 => ?_⟩
    · have : b ≠ p.1 := fun z => by rw [z, nb.1] at e; cases e
      exact (hs.2 b this).trans (I.S.base b u e)
    · by_cases hj : j = i
      · subst hj
        rw [hp] at e1; cases e1
        exact nb
      · simp only [Store.put, List.getElem?_set_ne (Ne.symm hj)] at e2
        exact I.S.nbase j q d e1 e2 w
    · by_cases hj : j = i
      · subst hj
        rw [hp] at e1; cases e1
        have hl := (List.getElem?_eq_some_iff.mp hi).1
        simp only [Store.put, List.getElem?_set_self hl, Option.some.injEq] at e2
        subst e2
        exact ok K.tups
      · simp only [Store.put, List.getElem?_set_ne (Ne.symm hj)] at e2
        have dj := I.S.disj j i q p hj e1 hp
        refine (I.S.cel j q d e1 e2).stay (RhoK.refl ρ) K.tups (fun b u hb e => (hs.2 b ?_).trans e) K.codes K.sz
        rcases hb with hb | hb
        · rw [hb]; exact dj.1
        · rw [hb]; exact dj.2.2.1
  refine ⟨I.go K S (fun j hj => ?_) ?_, K⟩
  · have h1 : j < m.low := Nat.lt_of_lt_of_le hj (Nat.min_le_left _ _)
    have h2 : j < i := Nat.lt_of_lt_of_le hj (Nat.min_le_right _ _)
    show (m.cs.set i c')[j]? = _
    rw [List.getElem?_set_ne (by omega)]
    exact I.low j h1
  · show min m.low i ≤ (m.cs.set i c').length
    rw [List.length_set]
    exact Nat.le_trans (Nat.min_le_left _ _) I.lowle

/-! ### constants and names -/
def eC (v : D) : EV := fun _ m => .ok v m
def eV (i : Nat) : EV := fun σ m => match σ[i]? with
  | some (.val v) => .ok v m
  | some (.box j) => match m.cs[j]? with
    | some (.box (some v)) => .ok v m
    | _ => .bad
  | _ => .bad
theorem se_int {i j pos} : SE X (.Constant (.int i) j pos) (eC (.int i)) := ⟨fun σ m ρ s Q E I h => wpAny_Constant_int (h _ _ ρ (I.tok _) (Kp.tok _) ⟨_, rfl⟩)⟩
theorem se_bl {b j pos} : SE X (.Constant (.bool b) j pos) (eC (.bl b)) := ⟨fun σ m ρ s Q E I h => Constant_bool (h _ _ ρ I Kp.refl rfl)⟩
theorem se_non {j pos} : SE X (.Constant .none j pos) (eC .non) := ⟨fun σ m ρ s Q E I h => Constant_none (h _ _ ρ I Kp.refl rfl)⟩
theorem nm_s (x : Str) : Nm.s x.cps.toList = x := by cases x; simp [Nm.s]
theorem se_str {x : Str} {j pos} : SE X (.Constant (.str x) j pos) (eC (.str x.cps.toList)) := ⟨fun σ m ρ s Q E I h => Calls.Constant_str (h _ _ ρ (I.tok _) (Kp.tok _) ⟨_, by rw [nm_s]⟩)⟩
theorem se_var {i : Nat} {x : Str} {pos : Pos} (hN : X.N[i]? = some x) (hd : (x == ("__debug__" : Str)) = false) (hcd : (x == ("__classdict__" : Str)) = false) : SE X (.Name x pos) (eV i) := by
  refine ⟨fun σ m ρ s Q E I h => ?_⟩
  obtain ⟨mm, hn, hl⟩ := I.loc
  unfold eV at h
  cases e : σ[i]? with
  | none => rw [e] at h; exact h.elim
  | some sl =>
    have so := hl i x sl hN e
    cases sl with
    | un => rw [e] at h; exact h.elim
    | val v =>
      rw [e] at h
      obtain ⟨u, rv, q⟩ := so
      have fin := h u s ρ I Kp.refl rv
      rcases q with ⟨hk, hm⟩ | ⟨hk, c, hc, hcell, _⟩
      · exact wpAny_Name (wpAny_loadName_local I.ok.kind hk hn hm fin) hd
      · rcases hk with hk | hk
        · exact wpAny_Name (wpAny_loadName_cell I.ok.kind hk hc hcell fin) hd
        · exact wpAny_Name (wpAny_loadName_free I.ok.kind hk hc hcell fin hcd) hd
    | box j =>
      rw [e] at h
      obtain ⟨hk, c, hc, hj⟩ := so
      dsimp only at h
      cases e2 : m.cs[j]? with
      | none => rw [e2] at h; exact h.elim
      | some cc =>
        rw [e2] at h
        cases cc with
        | box v =>
          cases v with
          | none => exact h.elim
          | some v =>
            obtain ⟨_, u, hcell, rv⟩ := I.S.cel j _ _ hj e2
            have fin := h u s ρ I Kp.refl rv
            rcases hk with hk | hk
            · exact wpAny_Name (wpAny_loadName_cell I.ok.kind hk hc hcell fin) hd
            · exact wpAny_Name (wpAny_loadName_free I.ok.kind hk hc hcell fin hcd) hd
        | _ => exact h.elim
def Glo (X : Cx) (x : Str) : Prop := X.env.kindOf x = some .globalImplicit
theorem ld_glob {x : Str} {u : Value} {pos : Pos} {Q : Value → Shared → Prop} (I : Inv X σ m ρ s) (hg : Glo X x) (hm : X.G.mg x = some u) (h : Q u s) (hd : (x == ("__debug__" : Str)) = false) : wpAny (model X.G.P X.G.w) X.A (eval (.Name x pos) X.env) Q E s :=
  Calls.Name_function_global I.ok.kind hg (Calls.loadGlobal_global (by rw [I.ok.glob]; exact I.G.glob.keeps I.S.base) hm h) hd
theorem ld_blt {x : Str} {u : Value} {pos : Pos} {Q : Value → Shared → Prop} (I : Inv X σ m ρ s) (hg : Glo X x) (hm : X.G.mg x = none) (hv : bootBuiltins x = some u) (h : Q u s) (hn : x ≠ "__name__") (hd : (x == ("__debug__" : Str)) = false) : wpAny (model X.G.P X.G.w) X.A (eval (.Name x pos) X.env) Q E s := by
  obtain ⟨mb, h1, h2⟩ := I.G.blt
  exact Calls.Name_function_global I.ok.kind hg (Calls.loadGlobal_builtin (by rw [I.ok.glob]; exact I.G.glob.keeps I.S.base) hm (by rw [I.ok.blt]; exact h1.keeps I.S.base) ((h2 x hn).trans hv) h) hd
theorem se_glob {x : Str} {v : D} {u : Value} {pos : Pos} (hg : Glo X x) (hm : X.G.mg x = some u) (r : ∀ ρ h, RV ρ h v u) (hd : (x == ("__debug__" : Str)) = false) : SE X (.Name x pos) (eC v) := ⟨fun σ m ρ s Q E I h => ld_glob I hg hm (h u s ρ I Kp.refl (r _ _)) hd⟩
theorem se_blt {x : Str} {v : D} {u : Value} {pos : Pos} (hg : Glo X x) (hm : X.G.mg x = none) (hv : bootBuiltins x = some u) (r : ∀ ρ h, RV ρ h v u) (hn : x ≠ "__name__") (hd : (x == ("__debug__" : Str)) = false) : SE X (.Name x pos) (eC v) := ⟨fun σ m ρ s Q E I h => ld_blt I hg hm hv (h u s ρ I Kp.refl (r _ _)) hn hd⟩

/-! ### displays -/
def lNil : LV := fun _ m => .ok [] m
def lCons (f : EV) (g : LV) : LV := fun σ m => (f σ m).bind fun v m1 => (g σ m1).bind fun vs m2 => .ok (v :: vs) m2
theorem sa_nil : SA X [] lNil := ⟨fun pos σ m ρ s Q E I h => Calls.spliced_nil (h [] s ρ I Kp.refl RVs.nil)⟩
theorem sa_cons {e : Expr} {es : List Expr} {g : LV} (he : SE X e f) (hr : SA X es g) (hs : starEach (e :: es) X.env = (false, eval e X.env) :: starEach es X.env) : SA X (e :: es) (lCons f g) := by
  refine ⟨fun pos σ m ρ s Q E I h => ?_⟩
  rw [hs]
  show wpAny _ _ (spliced ((false, eval e X.env) :: backTo pos (starEach es X.env))) _ _ s
  refine Calls.spliced_cons (he.bd I h fun v m1 u s1 ρ1 I1 K1 r1 h1 => ?_)
  refine hr.bd pos I1 h1 fun vs m2 us s2 ρ2 I2 K2 r2 h2 => ?_
  exact h2 (u :: us) s2 ρ2 I2 (K1.trans K2) (RVs.cons (RV.mono K2.rho K2.tups _ _ r1) r2)
theorem line63 : (sizeLine : Nat) < 2 ^ 63 := by rw [sizeLine_eq]; decide
def eTup (f : LV) : EV := fun σ m => (f σ m).bind fun vs m1 => if vs.length ≤ 16777216 then .ok (.tup vs) m1 else .bad
def eLst (f : LV) : EV := fun σ m => (f σ m).bind fun vs m1 => if vs.length ≤ 16777216 then .ok (.ref m1.nx) (m1.push (.lst vs)) else .bad
/-- a new tuple -/
theorem mk_tup {vs : List D} {us : List Value} {Q : Value → Shared → Prop} (I : Inv X σ m ρ s) (r : RVs ρ s.heap vs us) (hz : vs.length ≤ 16777216) (h : QE X σ ρ s Q (.tup vs) m) : wpAny (model X.G.P X.G.w) X.A (newTuple us) Q E s := by
  have hz' : us.length ≤ sizeLine := by rw [← r.len, sizeLine_eq]; exact hz
  refine wpAny_newObj_type ?_ (show sizeOk (.seq us.toArray) from by show us.toArray.size ≤ sizeLine; simpa using hz')
  have ⟨I1, K1⟩ := I.kept (h' := s.heap.push { cls := .type "tuple", data := .seq us.toArray }) (t := s.toks) (fun b u e => Heap.get?_push_of_some _ e) (by simp)
  refine h _ _ ρ I1 K1 ?_
  exact ⟨_, us, rfl, ⟨⟨_, Heap.get?_push_size _ rfl, rfl, 0, rfl⟩, I.S.fresh (Nat.le_refl _)⟩, by rw [sizeLine_eq]; exact hz, RVs.mono K1.rho K1.tups _ _ r⟩
/-- a new list -/
theorem mk_lst {vs : List D} {us : List Value} {Q : Value → Shared → Prop} (I : Inv X σ m ρ s) (r : RVs ρ s.heap vs us) (hz : vs.length ≤ 16777216) (h : QE X σ ρ s Q (.ref m.nx) (m.push (.lst vs))) : wpAny (model X.G.P X.G.w) X.A (newList us) Q E s := by
  have hz' : us.length ≤ sizeLine := by rw [← r.len, sizeLine_eq]; exact hz
  refine wpAny_newObj_type ?_ (show sizeOk (.seq us.toArray) from by show us.toArray.size ≤ sizeLine; simpa using hz')
  have ⟨I1, K1⟩ := I.alloc (o := { cls := .type "list", data := .seq us.toArray }) (c := .lst vs) (t := s.toks) rfl
    ⟨rfl, by rw [sizeLine_eq]; exact hz, us, 0, RVs.mono (RhoK.app _ _) (TupK.one fun b u e => Heap.get?_push_of_some _ e) _ _ r, Heap.get?_push_size _ rfl⟩
  exact h _ _ _ I1 K1 ⟨_, _, nx_rho I, rfl⟩
theorem se_tup {es : List Expr} {g : LV} {k : Nat} {pos : Pos} (h : SA X es g) : SE X (.Tuple es k pos) (eTup g) := by
  refine ⟨fun σ m ρ s Q E I hw => ?_⟩
  refine Tuple_ (h.bd pos I hw fun vs m1 us s1 ρ1 I1 K1 r1 h1 => ?_)
  by_cases hz : vs.length ≤ 16777216
  · rw [if_pos hz] at h1
    exact mk_tup I1 r1 hz fun u s' ρ' I' K' r' => h1 u s' ρ' I' (K1.trans K') r'
  · rw [if_neg hz] at h1; exact h1.elim
theorem se_lst {es : List Expr} {g : LV} {pos : Pos} (h : SA X es g) : SE X (.List es pos) (eLst g) := by
  refine ⟨fun σ m ρ s Q E I hw => ?_⟩
  refine List_ (h.bd pos I hw fun vs m1 us s1 ρ1 I1 K1 r1 h1 => ?_)
  by_cases hz : vs.length ≤ 16777216
  · rw [if_pos hz] at h1
    exact mk_lst I1 r1 hz fun u s' ρ' I' K' r' => h1 u s' ρ' I' (K1.trans K') r'
  · rw [if_neg hz] at h1; exact h1.elim
end
end Z

set_option Elab.async false
set_option linter.all false
set_option maxRecDepth 100000
/-! the engine, part D: operators, comparisons, tests -/
namespace Z
open PySem PySem.Spec PyProof.Rows
open L2 (frs)

/-! ### data read off the store -/
def omap {α β : Type} (f : α → Option β) : List α → Option (List β)
  | [] => some []
  | x :: xs => match f x with
    | some y => match omap f xs with
      | some ys => some (y :: ys)
      | none => none
    | none => none
def Cel.seq? : Cel → Option (List D)
  | .lst vs => some vs
  | .frz vs => some vs
  | _ => none
def Store.seq? (m : Store) (i : Nat) : Option (List D) := match m.cs[i]? with
  | some c => c.seq?
  | none => none
def rd (m : Store) : Nat → D → Option PyData
  | 0, .non => some .none
  | 0, .bl b => some (.bool b)
  | 0, .int i => some (.int i)
  | 0, .str x => if x.all (fun c => decide (c < 1114112)) = true then some (.str (Nm.s x)) else none
  | 0, _ => none
  | n + 1, v => match v with
    | .non => some .none
    | .bl b => some (.bool b)
    | .int i => some (.int i)
    | .str x => if x.all (fun c => decide (c < 1114112)) = true then some (.str (Nm.s x)) else none
    | .tup vs => match omap (rd m n) vs with
      | some ds => some (.tuple ds)
      | none => none
    | .ref i => match m.seq? i with
      | some vs => match omap (rd m n) vs with
        | some ds => some (.list ds)
        | none => none
      | none => none
    | _ => none
theorem strOk_of {x : Nm} (h : x.all (fun c => decide (c < 1114112)) = true) : PyData.strOk (Nm.s x) = true := by
  unfold PyData.strOk
  rw [← h]
  simp [Nm.s]
theorem omap_some {α β : Type} {f : α → Option β} : ∀ {l : List α} {r : List β}, omap f l = some r → Paired (fun a b => f a = some b) l r
  | [], r, h => by simp only [omap, Option.some.injEq] at h; subst h; exact .nil
  | x :: xs, r, h => by
    simp only [omap] at h
    cases e : f x with
    | none => rw [e] at h; cases h
    | some y =>
      rw [e] at h
      cases e2 : omap f xs with
      | none => rw [e2] at h; cases h
      | some ys =>
        rw [e2] at h
        cases h
        exact .cons e (omap_some e2)
section
variable {G : Gl} {stk : List Env} {m : Store} {ρ : Rho} {s : Shared}
theorem SInv.seq (S : SInv G stk m ρ s) {i : Nat} {vs : List D} (h : m.seq? i = some vs) : ∃ p us n, ρ[i]? = some p ∧ p.2 = p.1 ∧ vs.length ≤ sizeLine ∧ RVs ρ s.heap vs us ∧ s.heap.get? p.1 = some { cls := .type "list", data := .seq us.toArray n } := by
  unfold Store.seq? at h
  cases e : m.cs[i]? with
  | none => rw [e] at h; cases h
  | some c =>
    rw [e] at h
    obtain ⟨p, hp, ck⟩ := S.at e
    cases c with
    | lst ws => cases h; obtain ⟨a, b, us, n, c, d⟩ := ck; exact ⟨p, us, n, hp, a, b, c, d⟩
    | frz ws => cases h; obtain ⟨a, b, us, n, c, d⟩ := ck; exact ⟨p, us, n, hp, a, b, c, d⟩
    | _ => cases h
theorem RV.ref_of {i : Nat} {p : Addr × Addr} {u : Value} {h : Heap} (e : ρ[i]? = some p) (r : RV ρ h (.ref i) u) : u = .ref p.1 := by
  obtain ⟨a, d, e1, e2⟩ := r
  rw [e] at e1; cases e1
  exact e2
theorem rd_reads (S : SInv G stk m ρ s) : ∀ (n : Nat) (v : D) (u : Value) (d : PyData), RV ρ s.heap v u → rd m n v = some d → ∃ as, Reads s.heap u d as ∧ d.canLay0 = true ∧ d.depth ≤ n := by
  intro n
  induction n with
  | zero =>
    intro v u d r h
    cases v with
    | non => cases h; cases r; exact ⟨_, .none, rfl, Nat.le_refl _⟩
    | bl b => cases h; cases r; exact ⟨_, .bool b, rfl, Nat.le_refl _⟩
    | int i => cases h; obtain ⟨t, rfl⟩ := r; exact ⟨_, .int i t, rfl, Nat.le_refl _⟩
    | str x =>
      obtain ⟨t, rfl⟩ := r
      simp only [rd] at h
      split at h
      · rename_i hx; cases h; exact ⟨_, .str _ t, by simp only [PyData.canLay0]; exact strOk_of hx, Nat.le_refl _⟩
      · cases h
    | _ => cases h
  | succ n ih =>
    have ihs : ∀ (vs : List D) (us : List Value) (ds : List PyData), RVs ρ s.heap vs us → omap (rd m n) vs = some ds → ∃ as, ReadsAll s.heap us ds as ∧ PyData.canLayAll0 ds = true ∧ PyData.depthAll ds ≤ n := by
      intro vs us ds r h
      have p := omap_some h
      clear h
      induction p generalizing us with
      | nil => simp only [RVs] at r; subst r; exact ⟨_, .nil, rfl, Nat.zero_le _⟩
      | cons e _ ih2 =>
        simp only [RVs] at r
        obtain ⟨u, us', rfl, r1, r2⟩ := r
        obtain ⟨as, a1, a2, a3⟩ := ih _ _ _ r1 e
        obtain ⟨bs, b1, b2, b3⟩ := ih2 _ r2
        exact ⟨_, .cons a1 b1, by simp only [PyData.canLayAll0, a2, b2]; rfl, by simp only [PyData.depthAll]; omega⟩
    intro v u d r h
    cases v with
    | non => cases h; cases r; exact ⟨_, .none, rfl, Nat.zero_le _⟩
    | bl b => cases h; cases r; exact ⟨_, .bool b, rfl, Nat.zero_le _⟩
    | int i => cases h; obtain ⟨t, rfl⟩ := r; exact ⟨_, .int i t, rfl, Nat.zero_le _⟩
    | str x =>
      obtain ⟨t, rfl⟩ := r
      simp only [rd] at h
      split at h
      · rename_i hx; cases h; exact ⟨_, .str _ t, by simp only [PyData.canLay0]; exact strOk_of hx, Nat.zero_le _⟩
      · cases h
    | tup vs =>
      simp only [rd] at h
      cases e : omap (rd m n) vs with
      | none => rw [e] at h; cases h
      | some ds =>
        rw [e] at h; cases h
        simp only [RV] at r
        obtain ⟨a, us, rfl, ⟨⟨o, e1, e2, k, e3⟩, _⟩, _, rs⟩ := r
        obtain ⟨as, a1, a2, a3⟩ := ihs _ _ _ rs e
        exact ⟨as, .tuple e1 e2 e3 (by simpa using a1), by simp only [PyData.canLay0]; exact a2, by simp only [PyData.depth]; omega⟩
    | ref i =>
      simp only [rd] at h
      cases e0 : m.seq? i with
      | none => rw [e0] at h; cases h
      | some vs =>
        rw [e0] at h
        dsimp only at h
        cases e : omap (rd m n) vs with
        | none => rw [e] at h; cases h
        | some ds =>
          rw [e] at h; cases h
          obtain ⟨p, us, k, hp, _, _, rs, g⟩ := S.seq e0
          obtain rfl := RV.ref_of hp r
          obtain ⟨as, a1, a2, a3⟩ := ihs _ _ _ rs e
          exact ⟨_, .list g rfl rfl (by simpa using a1), by simp only [PyData.canLay0]; exact a2, by simp only [PyData.depth]; omega⟩
    | _ => cases h
end

/-! ### binary operators by values -/
structure O2 (X : Cx) (f : Value → Value → Sem Value) (r : D → D → Store → Res D) : Prop where
  run : ∀ σ m ρ s (v w : D) (u x : Value) (Q : Value → Shared → Prop) (E : Value → Shared → Prop), Inv X σ m ρ s → RV ρ s.heap v u → RV ρ s.heap w x → (r v w m).sat (QE X σ ρ s Q) (EP X noex σ ρ s E) → wpAny (model X.G.P X.G.w) X.A (f u x) Q E s
/-- a call of the value f by values -/
structure O1s (X : Cx) (f : Value) (r : List D → Store → Res D) : Prop where
  run : ∀ σ m ρ s (vs : List D) (us : List Value) (Q : Value → Shared → Prop) (E : Value → Shared → Prop), Inv X σ m ρ s → RVs ρ s.heap vs us → (r vs m).sat (QE X σ ρ s Q) (EP X noex σ ρ s E) → wpAny (model X.G.P X.G.w) X.A (call f us) Q E s
def e2 (r : D → D → Store → Res D) (f g : EV) : EV := fun σ m => (f σ m).bind fun v m1 => (g σ m1).bind fun w m2 => r v w m2
section
variable {X : Cx} {σ : Sl} {m m' : Store} {ρ ρ1 ρ' : Rho} {s s1 s' : Shared} {a b c : Expr} {f g k : EV} {E : Value → Shared → Prop} {pos : Pos}
/-- two expressions in a row, then f by values -/
theorem bin2 {r : D → D → Store → Res D} {op : Value → Value → Sem Value} (ho : O2 X op r) (ha : SE X a f) (hb : SE X b g) {Q : Value → Shared → Prop} (I : Inv X σ m ρ s) (h : (e2 r f g σ m).sat (QE X σ ρ s Q) (EP X noex σ ρ s E)) :
    wpAny (model X.G.P X.G.w) X.A (eval a X.env) (fun v s₁ => wpAny (model X.G.P X.G.w) X.A (eval b X.env) (fun u s₂ => wpAny (model X.G.P X.G.w) X.A (op v u) Q E s₂) E s₁) E s := by
  refine ha.bd I h fun v m1 u s1 ρ1 I1 K1 r1 h1 => ?_
  refine hb.bd I1 h1 fun w m2 x s2 ρ2 I2 K2 r2 h2 => ?_
  refine ho.run σ m2 ρ2 s2 v w u x Q E I2 (RV.mono K2.rho K2.tups _ _ r1) r2 ?_
  exact h2.mono (fun z m3 q u s3 ρ3 I3 K3 r3 => q u s3 ρ3 I3 ((K1.trans K2).trans K3) r3) fun _ _ q => q
theorem se_bin {op : Operator} {r : D → D → Store → Res D} (ho : O2 X (binaryOp op) r) (ha : SE X a f) (hb : SE X b g) : SE X (.BinOp a op b pos) (e2 r f g) :=
  ⟨fun σ m ρ s Q E I h => wpAny_BinOp (bin2 ho ha hb I h)⟩
theorem se_cmp {op : CmpOp} {r : D → D → Store → Res D} (ho : O2 X (compareOp op) r) (ha : SE X a f) (hb : SE X b g) (hm : behindInMarks op b = false) : SE X (.Compare a [op] [b] pos) (e2 r f g) :=
  ⟨fun σ m ρ s Q E I h => wpAny_Compare1 (bin2 ho ha hb I h) hm⟩

/-- rules over two ints -/
theorem o2_int {op : Value → Value → Sem Value} {C : Int → Int → Prop} {g : Int → Int → Int}
    (rule : ∀ (i j : Int) (t u : Tok) (s : Shared) (Q : Value → Shared → Prop) (E : Value → Shared → Prop), C i j → Q (.int (g i j) s.toks) { s with toks := s.toks + 1 } → wpAny (model X.G.P X.G.w) X.A (op (.int i t) (.int j u)) Q E s)
    {i j : Int} {u x : Value} {Q : Value → Shared → Prop} (I : Inv X σ m ρ s) (ru : RV ρ s.heap (.int i) u) (rx : RV ρ s.heap (.int j) x) (hc : C i j) (h : QE X σ ρ s Q (.int (g i j)) m) : wpAny (model X.G.P X.G.w) X.A (op u x) Q E s := by
  obtain ⟨t, rfl⟩ := ru
  obtain ⟨t', rfl⟩ := rx
  exact rule i j t t' s _ _ hc (h _ _ ρ (I.tok _) (Kp.tok _) ⟨_, rfl⟩)
theorem o2_bl {op : Value → Value → Sem Value} {g : Int → Int → Bool}
    (rule : ∀ (i j : Int) (t u : Tok) (s : Shared) (Q : Value → Shared → Prop) (E : Value → Shared → Prop), Q (.bool (g i j)) s → wpAny (model X.G.P X.G.w) X.A (op (.int i t) (.int j u)) Q E s)
    {i j : Int} {u x : Value} {Q : Value → Shared → Prop} (I : Inv X σ m ρ s) (ru : RV ρ s.heap (.int i) u) (rx : RV ρ s.heap (.int j) x) (h : QE X σ ρ s Q (.bl (g i j)) m) : wpAny (model X.G.P X.G.w) X.A (op u x) Q E s := by
  obtain ⟨t, rfl⟩ := ru
  obtain ⟨t', rfl⟩ := rx
  exact rule i j t t' s _ _ (h _ _ ρ I Kp.refl rfl)
/-- an int below 2^64 -/
def sm64 (i : Int) : Bool := decide (-(2 ^ 64) < i) && decide (i < 2 ^ 64)
theorem sm64_ok {i : Int} (h : sm64 i = true) : -(2 ^ 64) < i ∧ i < 2 ^ 64 := by
  unfold sm64 at h
  simp only [Bool.and_eq_true, decide_eq_true_eq] at h
  exact h
def rSub : D → D → Store → Res D := fun v w m => match v, w with
  | .int i, .int j => .ok (.int (i - j)) m
  | _, _ => .bad
def rMod : D → D → Store → Res D := fun v w m => match v, w with
  | .int i, .int j => if 0 < j then .ok (.int (i % j)) m else .bad
  | _, _ => .bad
def rFdv : D → D → Store → Res D := fun v w m => match v, w with
  | .int i, .int j => if 0 < j ∧ j < 1073741824 then .ok (.int (i / j)) m else .bad
  | _, _ => .bad
def rPow : D → D → Store → Res D := fun v w m => match v, w with
  | .int i, .int j => if 0 ≤ j ∧ j ≤ 1000000 ∧ sm64 i = true then .ok (.int (i ^ j.toNat)) m else .bad
  | _, _ => .bad
def rShl : D → D → Store → Res D := fun v w m => match v, w with
  | .int i, .int j => if 0 ≤ j ∧ j ≤ 1000000 ∧ sm64 i = true then .ok (.int (i * 2 ^ j.toNat)) m else .bad
  | _, _ => .bad
def rShr : D → D → Store → Res D := fun v w m => match v, w with
  | .int i, .int j => if 0 ≤ j then .ok (.int (i / 2 ^ j.toNat)) m else .bad
  | _, _ => .bad
def rAnd : D → D → Store → Res D := fun v w m => match v, w with
  | .int i, .int j => .ok (.int (Builtin.bitAnd i j)) m
  | _, _ => .bad
def rXor : D → D → Store → Res D := fun v w m => match v, w with
  | .int i, .int j => .ok (.int (Builtin.bitXor i j)) m
  | _, _ => .bad
theorem nat64 {i : Int} (h : sm64 i = true) : i.natAbs < 2 ^ 64 := by have := sm64_ok h; omega
theorem o_sub : O2 X (binaryOp .Sub) rSub := ⟨fun σ m ρ s v w u x Q E I ru rx h => by
  unfold rSub at h
  split at h
  · exact o2_int (C := fun _ _ => True) (g := fun i j => i - j) (fun _ _ _ _ _ _ _ _ q => sub_int q) I ru rx trivial h
  · exact h.elim⟩
theorem o_mod : O2 X (binaryOp .Mod) rMod := ⟨fun σ m ρ s v w u x Q E I ru rx h => by
  unfold rMod at h
  split at h
  · split at h
    · rename_i hj
      exact o2_int (C := fun _ j => 0 < j) (g := fun i j => i % j) (fun i j _ _ _ _ _ hc q => mod_int' (by omega) (by rw [Int.fmod_eq_emod_of_nonneg i (by omega)]; exact q)) I ru rx hj h
    · exact h.elim
  · exact h.elim⟩
theorem o_fdv : O2 X (binaryOp .FloorDiv) rFdv := ⟨fun σ m ρ s v w u x Q E I ru rx h => by
  unfold rFdv at h
  split at h
  · split at h
    · rename_i hj
      exact o2_int (C := fun _ j => 0 < j ∧ j < 1073741824) (g := fun i j => i / j) (fun i j _ _ _ _ _ hc q => floordiv_int (by omega) (by rw [Int.fdiv_eq_ediv_of_nonneg i (by omega)]; exact q) (.inl (PyProof.noPylong_small (by omega)))) I ru rx hj h
    · exact h.elim
  · exact h.elim⟩
theorem o_pow : O2 X (binaryOp .Pow) rPow := ⟨fun σ m ρ s v w u x Q E I ru rx h => by
  unfold rPow at h
  split at h
  · split at h
    · rename_i hj
      exact o2_int (C := fun i j => 0 ≤ j ∧ j ≤ 1000000 ∧ sm64 i = true) (g := fun i j => i ^ j.toNat) (fun i j _ _ _ _ _ hc q => pow_int_small hc.1 hc.2.1 (nat64 hc.2.2) q) I ru rx hj h
    · exact h.elim
  · exact h.elim⟩
theorem o_shl : O2 X (binaryOp .LShift) rShl := ⟨fun σ m ρ s v w u x Q E I ru rx h => by
  unfold rShl at h
  split at h
  · split at h
    · rename_i hj
      exact o2_int (C := fun i j => 0 ≤ j ∧ j ≤ 1000000 ∧ sm64 i = true) (g := fun i j => i * 2 ^ j.toNat) (fun i j _ _ _ _ _ hc q => lshift_int_small hc.1 hc.2.1 (nat64 hc.2.2) q) I ru rx hj h
    · exact h.elim
  · exact h.elim⟩
theorem o_shr : O2 X (binaryOp .RShift) rShr := ⟨fun σ m ρ s v w u x Q E I ru rx h => by
  unfold rShr at h
  split at h
  · split at h
    · rename_i hj
      exact o2_int (C := fun _ j => 0 ≤ j) (g := fun i j => i / 2 ^ j.toNat) (fun i j _ _ _ _ _ hc q => rshift_int hc (by rw [Int.fdiv_eq_ediv_of_nonneg i (L2.two_pow_nn _)]; exact q)) I ru rx hj h
    · exact h.elim
  · exact h.elim⟩
theorem o_and : O2 X (binaryOp .BitAnd) rAnd := ⟨fun σ m ρ s v w u x Q E I ru rx h => by
  unfold rAnd at h
  split at h
  · exact o2_int (C := fun _ _ => True) (g := fun i j => Builtin.bitAnd i j) (fun _ _ _ _ _ _ _ _ q => and_int q) I ru rx trivial h
  · exact h.elim⟩
theorem o_xor : O2 X (binaryOp .BitXor) rXor := ⟨fun σ m ρ s v w u x Q E I ru rx h => by
  unfold rXor at h
  split at h
  · exact o2_int (C := fun _ _ => True) (g := fun i j => Builtin.bitXor i j) (fun _ _ _ _ _ _ _ _ q => xor_int q) I ru rx trivial h
  · exact h.elim⟩
/-- + -/
def rAdd : D → D → Store → Res D := fun v w m => match v, w with
  | .int i, .int j => .ok (.int (i + j)) m
  | .str x, .str y => if x.length + y.length ≤ 16777216 then .ok (.str (x ++ y)) m else .bad
  | .tup xs, .tup ys => if xs.length + ys.length ≤ 16777216 then .ok (.tup (xs ++ ys)) m else .bad
  | .ref i, .ref j => match m.seq? i, m.seq? j with
    | some xs, some ys => if xs.length + ys.length ≤ 16777216 then .ok (.ref m.nx) (m.push (.lst (xs ++ ys))) else .bad
    | _, _ => .bad
  | _, _ => .bad
theorem nm_app (x y : Nm) : Nm.s x ++ Nm.s y = Nm.s (x ++ y) := by
  show (⟨x.toArray ++ y.toArray⟩ : Str) = _
  simp [Nm.s]
theorem nm_len (x : Nm) : (Nm.s x).length = x.length := by simp [Nm.s, Str.length]
theorem o_add : O2 X (binaryOp .Add) rAdd := ⟨fun σ m ρ s v w u x Q E I ru rx h => by
  unfold rAdd at h
  split at h
  · exact o2_int (C := fun _ _ => True) (g := fun i j => i + j) (fun _ _ _ _ _ _ _ _ q => add_int q) I ru rx trivial h
  · split at h
    · rename_i a b hz
      obtain ⟨t, rfl⟩ := ru
      obtain ⟨t', rfl⟩ := rx
      exact add_str (fun t' tk => h _ _ ρ (I.tok _) (Kp.tok _) ⟨_, by rw [nm_app]⟩) (by rw [nm_len, nm_len, sizeLine_eq]; exact hz)
    · exact h.elim
  · split at h
    · rename_i xs ys hz
      simp only [RV] at ru rx
      obtain ⟨a, us, rfl, t1, z1, r1⟩ := ru
      obtain ⟨b, ws, rfl, t2, z2, r2⟩ := rx
      have n1 := r1.len
      have n2 := r2.len
      by_cases hx : us = []
      · subst hx
        have : xs = [] := by simpa using n1
        subst this
        refine L2.cat_tup0 (show IsTup s.heap a #[] from t1.1) t2.1 (h _ s ρ I Kp.refl ?_)
        simp only [RV]
        exact ⟨b, ws, rfl, t2, by simpa using z2, by simpa using r2⟩
      · refine HT.cat_tup t1.1 t2.1 hx (fun z => h _ s ρ I Kp.refl ?_) (fun z => ?_) (by rw [← n1, ← n2, sizeLine_eq]; exact hz)
        · subst z
          have : ys = [] := by simpa using n2
          subst this
          simp only [RV]
          exact ⟨a, us, rfl, t1, by simpa using z1, by simpa using r1⟩
        · have ⟨I1, K1⟩ := I.kept (h' := s.heap.push { cls := .type "tuple", data := .seq (us ++ ws).toArray }) (t := s.toks) (fun b u e => Heap.get?_push_of_some _ e) (by simp)
          refine h _ _ ρ I1 K1 ?_
          simp only [RV]
          exact ⟨_, us ++ ws, rfl, ⟨⟨_, Heap.get?_push_size _ rfl, rfl, 0, rfl⟩, I.S.fresh (Nat.le_refl _)⟩, by rw [List.length_append, sizeLine_eq]; exact hz, RVs.mono K1.rho K1.tups _ _ (r1.app r2)⟩
    · exact h.elim
  · split at h
    · rename_i i j xs ys e1 e2
      split at h
      · rename_i hz
        obtain ⟨p, us, n, hp, _, _, r1, g1⟩ := I.S.seq e1
        obtain ⟨q, ws, n', hq, _, _, r2, g2⟩ := I.S.seq e2
        obtain rfl := RV.ref_of hp ru
        obtain rfl := RV.ref_of hq rx
        have n1 := r1.len
        have n2 := r2.len
        refine PySem.P.add_list g1 g2 ?_ (by rw [List.size_toArray, List.size_toArray, ← n1, ← n2, sizeLine_eq]; exact hz)
        have ea : us.toArray ++ ws.toArray = (us ++ ws).toArray := by simp
        rw [ea]
        have ⟨I1, K1⟩ := I.alloc (o := { cls := .type "list", data := .seq (us ++ ws).toArray }) (c := .lst (xs ++ ys)) (t := s.toks) rfl
          ⟨rfl, by rw [List.length_append, sizeLine_eq]; exact hz, us ++ ws, 0, RVs.mono (RhoK.app _ _) (TupK.one fun b u e => Heap.get?_push_of_some _ e) _ _ (r1.app r2), Heap.get?_push_size _ rfl⟩
        exact h _ _ _ I1 K1 ⟨_, _, nx_rho I, rfl⟩
      · exact h.elim
    · exact h.elim
  · exact h.elim⟩
end
end Z

set_option Elab.async false
set_option linter.all false
set_option maxRecDepth 100000
/-! the engine, part E: comparisons, truth, tests -/
namespace Z
open PySem PySem.Spec PyProof.Rows
open L2 (frs)

/-- == of two values -/
def peq (m : Store) (v w : D) : Option Bool :=
  match v, w with
  | .int i, .int j => some (decide (i = j))
  | .str x, .str y => some (decide (x = y))
  | v, w => match rd m 40 v, rd m 40 w with
    | some a, some b => some (PyData.eqv a b)
    | _, _ => none
/-- x in xs by data -/
def pin (m : Store) (v : D) (ws : List D) : Option Bool :=
  match rd m 40 v, omap (rd m 40) ws with
  | some d, some ds => some (ds.any fun y => PyData.eqv y d)
  | _, _ => none
def D.isNon : D → Bool
  | .non => true
  | _ => false
def rEq : D → D → Store → Res D := fun v w m => match peq m v w with | some b => .ok (.bl b) m | none => .bad
def rNe : D → D → Store → Res D := fun v w m => match peq m v w with | some b => .ok (.bl (!b)) m | none => .bad
def rIs : D → D → Store → Res D := fun v w m => match w with | .non => .ok (.bl v.isNon) m | _ => .bad
def rIsNot : D → D → Store → Res D := fun v w m => match w with | .non => .ok (.bl (!v.isNon)) m | _ => .bad
def rLtI (p : Int → Int → Bool) : D → D → Store → Res D := fun v w m => match v, w with
  | .int i, .int j => .ok (.bl (p i j)) m
  | _, _ => .bad
section
variable {X : Cx} {σ : Sl} {m m' : Store} {ρ ρ1 ρ' : Rho} {s s1 s' : Shared} {a b c : Expr} {f g k : EV} {E : Value → Shared → Prop} {pos : Pos}
theorem nm_inj {x y : Nm} (h : Nm.s x = Nm.s y) : x = y := by
  have := congrArg (fun z : Str => z.cps.toList) h
  simpa [Nm.s] using this
theorem nm_beq (x y : Nm) : (Nm.s x == Nm.s y) = decide (x = y) := by
  by_cases h : x = y
  · subst h; simp
  · rw [decide_eq_false h]
    exact beq_eq_false_iff_ne.mpr fun e => h (nm_inj e)
theorem peq_ok {v w : D} {u x : Value} {b : Bool} {Q : Value → Shared → Prop} (I : Inv X σ m ρ s) (ru : RV ρ s.heap v u) (rx : RV ρ s.heap w x) (h : peq m v w = some b) (hq : Q (.bool b) s) : wpAny (model X.G.P X.G.w) X.A (compareOp .Eq u x) Q E s := by
  have gen : (match rd m 40 v, rd m 40 w with | some a, some b => some (PyData.eqv a b) | _, _ => none) = some b → wpAny (model X.G.P X.G.w) X.A (compareOp .Eq u x) Q E s := fun h => by
    cases e1 : rd m 40 v with
    | none => rw [e1] at h; cases h
    | some d1 =>
      cases e2 : rd m 40 w with
      | none => rw [e1, e2] at h; cases h
      | some d2 =>
        rw [e1, e2] at h; cases h
        obtain ⟨as, r1, c1, p1⟩ := rd_reads I.S 40 v u d1 ru e1
        obtain ⟨bs, r2, c2, p2⟩ := rd_reads I.S 40 w x d2 rx e2
        have hu := I.ok.hu
        exact SeqAt.compareEq_reads r1 r2 c1 c2 (by have : min d1.depth d2.depth ≤ d1.depth := Nat.min_le_left _ _; omega) hq
  unfold peq at h
  split at h
  · cases h
    obtain ⟨t, rfl⟩ := ru
    obtain ⟨t', rfl⟩ := rx
    exact eq_int (by rw [Bool.beq_eq_decide_eq]; exact hq)
  · cases h
    obtain ⟨t, rfl⟩ := ru
    obtain ⟨t', rfl⟩ := rx
    exact eq_str (by rw [nm_beq]; exact hq)
  · exact gen h
theorem peq_no {v w : D} {u x : Value} {b : Bool} {Q : Value → Shared → Prop} (I : Inv X σ m ρ s) (ru : RV ρ s.heap v u) (rx : RV ρ s.heap w x) (h : peq m v w = some b) (hq : Q (.bool (!b)) s) : wpAny (model X.G.P X.G.w) X.A (compareOp .NotEq u x) Q E s := by
  have gen : (match rd m 40 v, rd m 40 w with | some a, some b => some (PyData.eqv a b) | _, _ => none) = some b → wpAny (model X.G.P X.G.w) X.A (compareOp .NotEq u x) Q E s := fun h => by
    cases e1 : rd m 40 v with
    | none => rw [e1] at h; cases h
    | some d1 =>
      cases e2 : rd m 40 w with
      | none => rw [e1, e2] at h; cases h
      | some d2 =>
        rw [e1, e2] at h; cases h
        obtain ⟨as, r1, c1, p1⟩ := rd_reads I.S 40 v u d1 ru e1
        obtain ⟨bs, r2, c2, p2⟩ := rd_reads I.S 40 w x d2 rx e2
        have hu := I.ok.hu
        exact SeqAt.compareNe_reads r1 r2 c1 c2 (by have : min d1.depth d2.depth ≤ d1.depth := Nat.min_le_left _ _; omega) hq
  unfold peq at h
  split at h
  · cases h
    obtain ⟨t, rfl⟩ := ru
    obtain ⟨t', rfl⟩ := rx
    exact ne_int (by rw [bne, Bool.beq_eq_decide_eq]; exact hq)
  · cases h
    obtain ⟨t, rfl⟩ := ru
    obtain ⟨t', rfl⟩ := rx
    exact ne_str (by rw [bne, nm_beq]; exact hq)
  · exact gen h
theorem o_eq : O2 X (compareOp .Eq) rEq := ⟨fun σ m ρ s v w u x Q E I ru rx h => by
  unfold rEq at h
  cases e : peq m v w with
  | none => rw [e] at h; exact h.elim
  | some b => rw [e] at h; exact peq_ok I ru rx e (h _ s ρ I Kp.refl rfl)⟩
theorem o_ne : O2 X (compareOp .NotEq) rNe := ⟨fun σ m ρ s v w u x Q E I ru rx h => by
  unfold rNe at h
  cases e : peq m v w with
  | none => rw [e] at h; exact h.elim
  | some b => rw [e] at h; exact peq_no I ru rx e (h _ s ρ I Kp.refl rfl)⟩
theorem RV.isNon {v : D} {u : Value} {h : Heap} (r : RV ρ h v u) : (u == Value.none) = v.isNon := by
  cases v with
  | non => cases r; rfl
  | bl _ => cases r; rfl
  | int _ => obtain ⟨t, rfl⟩ := r; rfl
  | str _ => obtain ⟨t, rfl⟩ := r; rfl
  | tup _ => simp only [RV] at r; obtain ⟨_, _, rfl, _⟩ := r; rfl
  | ref _ => obtain ⟨_, _, _, rfl⟩ := r; rfl
  | glo _ => cases r; rfl
  | ty _ => cases r; rfl
theorem o_is : O2 X (compareOp .Is) rIs := ⟨fun σ m ρ s v w u x Q E I ru rx h => by
  unfold rIs at h
  split at h
  · cases rx; exact is_none_gen (h _ s ρ I Kp.refl (by rw [ru.isNon]; rfl))
  · exact h.elim⟩
theorem o_isnot : O2 X (compareOp .IsNot) rIsNot := ⟨fun σ m ρ s v w u x Q E I ru rx h => by
  unfold rIsNot at h
  split at h
  · cases rx; exact isnot_none_gen (h _ s ρ I Kp.refl (by rw [ru.isNon]; rfl))
  · exact h.elim⟩
theorem o_cmpI {op : CmpOp} {p : Int → Int → Bool} (rule : ∀ (i j : Int) (t u : Tok) (s : Shared) (Q : Value → Shared → Prop) (E : Value → Shared → Prop), Q (.bool (p i j)) s → wpAny (model X.G.P X.G.w) X.A (compareOp op (.int i t) (.int j u)) Q E s) : O2 X (compareOp op) (rLtI p) := ⟨fun σ m ρ s v w u x Q E I ru rx h => by
  unfold rLtI at h
  split at h
  · exact o2_bl rule I ru rx h
  · exact h.elim⟩
abbrev pLt : Int → Int → Bool := fun i j => decide (i < j)
abbrev pLe : Int → Int → Bool := fun i j => decide (i ≤ j)
abbrev pGt : Int → Int → Bool := fun i j => decide (j < i)
abbrev pGe : Int → Int → Bool := fun i j => decide (j ≤ i)
theorem o_ltI : O2 X (compareOp .Lt) (rLtI pLt) := o_cmpI fun _ _ _ _ _ _ _ q => lt_int q
theorem o_leI : O2 X (compareOp .LtE) (rLtI pLe) := o_cmpI fun _ _ _ _ _ _ _ q => le_int q
theorem o_gtI : O2 X (compareOp .Gt) (rLtI pGt) := o_cmpI fun _ _ _ _ _ _ _ q => gt_int q
theorem o_geI : O2 X (compareOp .GtE) (rLtI pGe) := o_cmpI fun _ _ _ _ _ _ _ q => ge_int q

/-! ### in -/
theorem rds_reads (S : SInv X.G X.stk m ρ s) (n : Nat) : ∀ (vs : List D) (us : List Value) (ds : List PyData), RVs ρ s.heap vs us → omap (rd m n) vs = some ds → ∃ as, ReadsAll s.heap us ds as ∧ PyData.canLayAll0 ds = true ∧ PyData.depthAll ds ≤ n := by
  intro vs us ds r h
  have p := omap_some h
  clear h
  induction p generalizing us with
  | nil => simp only [RVs] at r; subst r; exact ⟨_, .nil, rfl, Nat.zero_le _⟩
  | cons e _ ih2 =>
    simp only [RVs] at r
    obtain ⟨u, us', rfl, r1, r2⟩ := r
    obtain ⟨as, a1, a2, a3⟩ := rd_reads S n _ _ _ r1 e
    obtain ⟨bs, b1, b2, b3⟩ := ih2 _ r2
    exact ⟨_, .cons a1 b1, by simp only [PyData.canLayAll0, a2, b2]; rfl, by simp only [PyData.depthAll]; omega⟩
end
end Z

set_option Elab.async false
set_option linter.all false
set_option maxRecDepth 100000
/-! the engine, part F: dicts -/
namespace Z
open PySem PySem.Spec PyProof.Rows
open L2 (frs)

mutual
/-- keys that are equal -/
def kq : D → D → Bool
  | .non, .non => true
  | .bl a, .bl b => a == b
  | .bl a, .int j => decide ((if a = true then 1 else 0) = j)
  | .int i, .bl b => decide (i = (if b = true then 1 else 0))
  | .int i, .int j => decide (i = j)
  | .str x, .str y => decide (x = y)
  | .tup xs, .tup ys => kqs xs ys
  | _, _ => false
def kqs : List D → List D → Bool
  | [], [] => true
  | x :: xs, y :: ys => kq x y && kqs xs ys
  | _, _ => false
end
mutual
theorem kq_nk : ∀ (a b : D) (x y : NestedKey), nk a = some x → nk b = some y → kq a b = decide (x = y)
  | .non, .non, x, y, h1, h2 => by simp only [nk, Option.some.injEq] at h1 h2; subst h1 h2; simp [kq]
  | .non, .bl b, x, y, h1, h2 => by simp only [nk, Option.some.injEq] at h1 h2; subst h1 h2; simp [kq]
  | .non, .int j, x, y, h1, h2 => by simp only [nk, Option.some.injEq] at h1 h2; subst h1 h2; simp [kq]
  | .non, .str j, x, y, h1, h2 => by simp only [nk, Option.some.injEq] at h1 h2; subst h1 h2; simp [kq]
  | .non, .tup j, x, y, h1, h2 => by simp only [nk, Option.map_eq_some_iff, Option.some.injEq] at h1 h2; obtain ⟨z, _, rfl⟩ := h2; subst h1; simp [kq]
  | .bl a, .non, x, y, h1, h2 => by simp only [nk, Option.some.injEq] at h1 h2; subst h1 h2; simp [kq]
  | .bl a, .bl b, x, y, h1, h2 => by simp only [nk, Option.some.injEq] at h1 h2; subst h1 h2; cases a <;> cases b <;> simp [kq]
  | .bl a, .int j, x, y, h1, h2 => by simp only [nk, Option.some.injEq] at h1 h2; subst h1 h2; simp [kq]
  | .bl a, .str j, x, y, h1, h2 => by simp only [nk, Option.some.injEq] at h1 h2; subst h1 h2; simp [kq]
  | .bl a, .tup j, x, y, h1, h2 => by simp only [nk, Option.map_eq_some_iff, Option.some.injEq] at h1 h2; obtain ⟨z, _, rfl⟩ := h2; subst h1; simp [kq]
  | .int a, .non, x, y, h1, h2 => by simp only [nk, Option.some.injEq] at h1 h2; subst h1 h2; simp [kq]
  | .int a, .bl b, x, y, h1, h2 => by simp only [nk, Option.some.injEq] at h1 h2; subst h1 h2; simp [kq]
  | .int a, .int j, x, y, h1, h2 => by simp only [nk, Option.some.injEq] at h1 h2; subst h1 h2; simp [kq]
  | .int a, .str j, x, y, h1, h2 => by simp only [nk, Option.some.injEq] at h1 h2; subst h1 h2; simp [kq]
  | .int a, .tup j, x, y, h1, h2 => by simp only [nk, Option.map_eq_some_iff, Option.some.injEq] at h1 h2; obtain ⟨z, _, rfl⟩ := h2; subst h1; simp [kq]
  | .str a, .non, x, y, h1, h2 => by simp only [nk, Option.some.injEq] at h1 h2; subst h1 h2; simp [kq]
  | .str a, .bl b, x, y, h1, h2 => by simp only [nk, Option.some.injEq] at h1 h2; subst h1 h2; simp [kq]
  | .str a, .int j, x, y, h1, h2 => by simp only [nk, Option.some.injEq] at h1 h2; subst h1 h2; simp [kq]
  | .str a, .str j, x, y, h1, h2 => by
    simp only [nk, Option.some.injEq] at h1 h2; subst h1 h2
    by_cases e : a = j
    · subst e; simp [kq]
    · have : ¬ (NestedKey.text (Nm.s a) = NestedKey.text (Nm.s j)) := fun z => e (nm_inj (by injection z))
      simp [kq, e, this]
  | .str a, .tup j, x, y, h1, h2 => by simp only [nk, Option.map_eq_some_iff, Option.some.injEq] at h1 h2; obtain ⟨z, _, rfl⟩ := h2; subst h1; simp [kq]
  | .tup a, .non, x, y, h1, h2 => by simp only [nk, Option.map_eq_some_iff, Option.some.injEq] at h1 h2; obtain ⟨z, _, rfl⟩ := h1; subst h2; simp [kq]
  | .tup a, .bl b, x, y, h1, h2 => by simp only [nk, Option.map_eq_some_iff, Option.some.injEq] at h1 h2; obtain ⟨z, _, rfl⟩ := h1; subst h2; simp [kq]
  | .tup a, .int j, x, y, h1, h2 => by simp only [nk, Option.map_eq_some_iff, Option.some.injEq] at h1 h2; obtain ⟨z, _, rfl⟩ := h1; subst h2; simp [kq]
  | .tup a, .str j, x, y, h1, h2 => by simp only [nk, Option.map_eq_some_iff, Option.some.injEq] at h1 h2; obtain ⟨z, _, rfl⟩ := h1; subst h2; simp [kq]
  | .tup a, .tup j, x, y, h1, h2 => by
    simp only [nk, Option.map_eq_some_iff] at h1 h2
    obtain ⟨z, e1, rfl⟩ := h1
    obtain ⟨w, e2, rfl⟩ := h2
    have := kqs_nk a j z w e1 e2
    simp only [kq, this, NestedKey.tup.injEq]
  | .ref _, _, x, y, h1, h2 => by simp [nk] at h1
  | .glo _, _, x, y, h1, h2 => by simp [nk] at h1
  | .ty _, _, x, y, h1, h2 => by simp [nk] at h1
  | _, .ref _, x, y, h1, h2 => by simp [nk] at h2
  | _, .glo _, x, y, h1, h2 => by simp [nk] at h2
  | _, .ty _, x, y, h1, h2 => by simp [nk] at h2
theorem kqs_nk : ∀ (a b : List D) (x y : List NestedKey), nks a = some x → nks b = some y → kqs a b = decide (x = y)
  | [], [], x, y, h1, h2 => by simp only [nks, Option.some.injEq] at h1 h2; subst h1 h2; simp [kqs]
  | [], v :: vs, x, y, h1, h2 => by
    simp only [nks, Option.some.injEq] at h1 h2; subst h1
    split at h2
    · cases h2; simp [kqs]
    · cases h2
  | v :: vs, [], x, y, h1, h2 => by
    simp only [nks, Option.some.injEq] at h1 h2; subst h2
    split at h1
    · cases h1; simp [kqs]
    · cases h1
  | v :: vs, w :: ws, x, y, h1, h2 => by
    simp only [nks] at h1 h2
    split at h1
    · rename_i k ks e1 e2
      split at h2
      · rename_i k' ks' e3 e4
        cases h1; cases h2
        simp only [kqs, kq_nk v w k k' e1 e3, kqs_nk vs ws ks ks' e2 e4, List.cons.injEq]
        simp [Bool.decide_and]
      · cases h2
    · cases h1
end
theorem kq_lk {a b : D} {x y : L2.Key} (h1 : lk a = some x) (h2 : lk b = some y) : kq a b = decide (x = y) := by
  cases a with
  | int i =>
    cases b with
    | int j => cases h1; cases h2; simp [kq]
    | str y => cases h1; cases h2; simp [kq]
    | _ => cases h2
  | str x =>
    cases b with
    | int j => cases h1; cases h2; simp [kq]
    | str y =>
      cases h1; cases h2
      by_cases e : x = y
      · subst e; simp [kq]
      · have : ¬ (Sum.inr (Nm.s x) : L2.Key) = Sum.inr (Nm.s y) := fun z => e (nm_inj (Sum.inr.inj z))
        simp [kq, e, this]
    | _ => cases h2
  | _ => cases h1
def dget (kvs : List (D × D)) (k : D) : Option D := (kvs.find? fun p => kq p.1 k).map (·.2)
def dput (kvs : List (D × D)) (k v : D) : List (D × D) := if (kvs.any fun p => kq p.1 k) = true then kvs.map fun p => if kq p.1 k = true then (p.1, v) else p else kvs ++ [(k, v)]
def D.isTup : D → Bool
  | .tup _ => true
  | _ => false
def lkAll (kvs : List (D × D)) : Bool := kvs.all fun p => (lk p.1).isSome
def nkAll (kvs : List (D × D)) : Bool := kvs.all fun p => p.1.isTup
/-- the key k goes with the keys kvs -/
def keyed (kvs : List (D × D)) (k : D) : Bool := match k with
  | .int _ => lkAll kvs
  | .str _ => lkAll kvs
  | .tup vs => nkAll kvs && (match nk (.tup vs) with | some z => decide (z.depth ≤ 8) | none => false)
  | _ => false
theorem Paired.find {α β : Type} {R : α → β → Prop} {pa : α → Bool} {pb : β → Bool} {l : List α} {l' : List β} (h : Paired R l l') (e : ∀ a b, R a b → pa a = pb b) :
    (∃ a b, l.find? pa = some a ∧ l'.find? pb = some b ∧ R a b) ∨ (l.find? pa = none ∧ l'.find? pb = none) := by
  induction h with
  | nil => exact .inr ⟨rfl, rfl⟩
  | @cons a b l l' r _ ih =>
    have q := e a b r
    cases hp : pa a with
    | true => exact .inl ⟨a, b, by rw [List.find?_cons, hp], by rw [List.find?_cons, ← q, hp], r⟩
    | false =>
      rw [List.find?_cons, List.find?_cons, ← q, hp]
      exact ih
theorem Paired.anyEq {α β : Type} {R : α → β → Prop} {pa : α → Bool} {pb : β → Bool} {l : List α} {l' : List β} (h : Paired R l l') (e : ∀ a b, R a b → pa a = pb b) : l.any pa = l'.any pb := by
  induction h with
  | nil => rfl
  | cons r _ ih => rw [List.any_cons, List.any_cons, ih, e _ _ r]
theorem Paired.mapB {α β γ δ : Type} {R : α → β → Prop} {S : γ → δ → Prop} {f : α → γ} {g : β → δ} {l : List α} {l' : List β} (h : Paired R l l') (e : ∀ a b, R a b → S (f a) (g b)) : Paired S (l.map f) (l'.map g) := by
  induction h with
  | nil => exact .nil
  | cons r _ ih => exact .cons (e _ _ r) ih
theorem Paired.len {α β : Type} {R : α → β → Prop} {l : List α} {l' : List β} (h : Paired R l l') : l.length = l'.length := by
  induction h with
  | nil => rfl
  | cons _ _ ih => simp [ih]
theorem any_find {α : Type} (p : α → Bool) : ∀ l : List α, l.any p = (l.find? p).isSome
  | [] => rfl
  | a :: l => by
    rw [List.any_cons, List.find?_cons]
    cases p a with
    | true => rfl
    | false => exact any_find p l
theorem dictOf_nil {P : Program} {w : World} {h : Heap} {a : Addr} : h.DictOf (keyS P w) a [] ↔ h.DictOfH (nestedKind P w) a [] := by
  constructor
  · rintro ⟨o, es, ep, e, x, d, k, p, n⟩
    have : es.toList = [] := by
      cases q : es.toList with
      | nil => rfl
      | cons b r => rw [q] at p; cases p
    exact ⟨o, es, ep, e, x, d, by simpa using this, (fun _ z => nomatch z), List.nodup_nil⟩
  · rintro ⟨o, es, ep, e, x, d, l, k, n⟩
    have e2 : es.toList = [] := by simpa using l
    have e3 : es = #[] := by simpa using e2
    subst e3
    exact ⟨o, #[], ep, e, x, d, fun y hy => by simp at hy, .nil, List.nodup_nil⟩
section
variable {P : Program} {w : World} {ρ : Rho} {h : Heap} {a : Addr} {kvs : List (D × D)}
abbrev LfR (ρ : Rho) (h : Heap) (p : D × D) (y : L2.Key × Value) : Prop := lk p.1 = some y.1 ∧ RV ρ h p.2 y.2
abbrev TpR (ρ : Rho) (h : Heap) (p : D × D) (x : NestedKey × Addr × Value) : Prop := nk p.1 = some x.1 ∧ RV ρ h p.1 (.ref x.2.1) ∧ RV ρ h p.2 x.2.2
theorem DctOk.leaf (x : DctOk P w ρ h a kvs) (hk : lkAll kvs = true) : ∃ ys : List (L2.Key × Value), h.DictOf (keyS P w) a ys ∧ Paired (LfR ρ h) kvs ys := by
  obtain ⟨_, _, x⟩ := x
  rcases x with x | ⟨xs, d, f⟩
  · exact x
  · cases f with
    | nil => exact ⟨[], dictOf_nil.mpr d, .nil⟩
    | @cons p q l l' r _ =>
      have hk' : (lk p.1).isSome = true := (List.all_eq_true.mp hk) p (.head _)
      obtain ⟨_, r2, _⟩ := r
      cases e : p.1 with
      | int i => rw [e] at r2; obtain ⟨t, z⟩ := r2; cases z
      | str i => rw [e] at r2; obtain ⟨t, z⟩ := r2; cases z
      | _ => rw [e] at hk'; cases hk'
theorem DctOk.tupd (x : DctOk P w ρ h a kvs) (hk : nkAll kvs = true) : ∃ xs : List (NestedKey × Addr × Value), h.DictOfH (nestedKind P w) a xs ∧ Paired (TpR ρ h) kvs xs := by
  obtain ⟨_, _, x⟩ := x
  rcases x with ⟨ys, d, f⟩ | x
  · cases f with
    | nil => exact ⟨[], dictOf_nil.mp d, .nil⟩
    | @cons p q l l' r _ =>
      have hk' : p.1.isTup = true := (List.all_eq_true.mp hk) p (.head _)
      obtain ⟨r1, _⟩ := r
      cases e : p.1 with
      | tup i => rw [e] at r1; cases r1
      | _ => rw [e] at hk'; cases hk'
  · exact x
theorem LfR.get {ys : List (L2.Key × Value)} (f : Paired (LfR ρ h) kvs ys) {k : D} {k' : L2.Key} (hk : lk k = some k') : (∃ d u, dget kvs k = some d ∧ valueAt ys k' = some u ∧ RV ρ h d u) ∨ (dget kvs k = none ∧ valueAt ys k' = none) := by
  rcases Paired.find (pa := fun p => kq p.1 k) (pb := fun y => decide (y.1 = k')) f fun p y r => kq_lk r.1 hk with ⟨p, y, e1, e2, r⟩ | ⟨e1, e2⟩
  · exact .inl ⟨p.2, y.2, by unfold dget; rw [e1]; rfl, by unfold valueAt; rw [e2]; rfl, r.2⟩
  · exact .inr ⟨by unfold dget; rw [e1]; rfl, by unfold valueAt; rw [e2]; rfl⟩
theorem TpR.get {xs : List (NestedKey × Addr × Value)} (f : Paired (TpR ρ h) kvs xs) {k : D} {k' : NestedKey} (hk : nk k = some k') : (∃ d p, dget kvs k = some d ∧ atKey xs k' = some p ∧ RV ρ h d p.2) ∨ (dget kvs k = none ∧ atKey xs k' = none) := by
  rcases Paired.find (pa := fun p => kq p.1 k) (pb := fun y => decide (y.1 = k')) f fun p y r => kq_nk _ _ _ _ r.1 hk with ⟨p, y, e1, e2, r⟩ | ⟨e1, e2⟩
  · exact .inl ⟨p.2, y.2, by unfold dget; rw [e1]; rfl, by unfold atKey; rw [e2]; rfl, r.2.2⟩
  · exact .inr ⟨by unfold dget; rw [e1]; rfl, by unfold atKey; rw [e2]; rfl⟩
theorem LfR.put {ys : List (L2.Key × Value)} (f : Paired (LfR ρ h) kvs ys) {k v : D} {k' : L2.Key} {u : Value} (hk : lk k = some k') (rv : RV ρ h v u) : Paired (LfR ρ h) (dput kvs k v) (stored ys k' u) := by
  unfold dput stored
  rw [Paired.anyEq (pa := fun p => kq p.1 k) (pb := fun y => decide (y.1 = k')) f fun p y r => kq_lk r.1 hk]
  split
  · refine Paired.mapB f fun p y r => ?_
    have e := kq_lk r.1 hk
    by_cases q : y.1 = k'
    · rw [if_pos (by rw [e]; exact decide_eq_true q), if_pos q]; exact ⟨r.1, rv⟩
    · rw [if_neg (by rw [e, decide_eq_false q]; exact Bool.false_ne_true), if_neg q]; exact r
  · exact Paired.snoc f ⟨hk, rv⟩
theorem TpR.put {xs : List (NestedKey × Addr × Value)} (f : Paired (TpR ρ h) kvs xs) {k v : D} {k' : NestedKey} {b : Addr} {u : Value} (hk : nk k = some k') (rk : RV ρ h k (.ref b)) (rv : RV ρ h v u) : Paired (TpR ρ h) (dput kvs k v) (storedH xs k' b u) := by
  unfold dput storedH
  have hany : (kvs.any fun p => kq p.1 k) = (atKey xs k').isSome := by
    rw [Paired.anyEq (pa := fun p => kq p.1 k) (pb := fun y => decide (y.1 = k')) f fun p y r => kq_nk _ _ _ _ r.1 hk]
    unfold atKey
    rw [Option.isSome_map]
    exact any_find _ xs
  rw [hany]
  split
  · refine Paired.mapB f fun p y r => ?_
    have e := kq_nk _ _ _ _ r.1 hk
    unfold putAt
    by_cases q : y.1 = k'
    · rw [if_pos (by rw [e]; exact decide_eq_true q), if_pos q]; exact ⟨r.1, r.2.1, rv⟩
    · rw [if_neg (by rw [e, decide_eq_false q]; exact Bool.false_ne_true), if_neg q]; exact r
  · exact Paired.snoc f ⟨hk, rk, rv⟩
end
end Z

set_option Elab.async false
set_option linter.all false
set_option maxRecDepth 100000
/-! the engine, part G: truth, tests, in, items -/
namespace Z
open PySem PySem.Spec PyProof.Rows
open L2 (frs)

section
variable {prog : Program} {w : World} {A : Around} {E : Value → Shared → Prop} {s : Shared}
theorem len_body_raw {d : Addr} {kvs : List (NestedKey × Value)} {Q : Value → Shared → Prop} (hd : (d == sysModules) = false) (hm : s.heap.DictKeyed (nestedKind prog w) d kvs) (hfit : (kvs.length : Int) < 2 ^ 63)
    (h : Q (.int kvs.length (s.toks + 1)) { s with toks := s.toks + 1 + 1 }) : wpAny (model prog w) A (Builtin.«len» ⟨[.ref d], []⟩) (fun fin s' => ∃ r, fin = .done (.ret r) ∧ Q r s') E s := by
  unfold Builtin.«len»
  refine wpAny_bind (m := oneArg "len" _) (wpAny_pure ?_)
  refine wpAny_bind (m := callSpecial? (.ref d) (Str.ofString "__len__")) (wpAny_callSpecial?_slot (name := Str.ofString "__len__") hm.typeIs F.slot_dict_len (len_keyed hd hm ?_))
  refine wpAny_bind (wpAny_holding (wpAny_pure ?_))
  refine wpAny_bind (wpAny_letGo ?_)
  show wpAny _ _ (if (kvs.length : Int) < 0 then _ else _) _ _ _
  rw [if_neg (by omega)]
  show wpAny _ _ (if (kvs.length : Int) ≥ 2 ^ 63 then _ else _) _ _ _
  rw [if_neg (by omega)]
  exact wpAny_bind (wpAny_mkInt (wpAny_pure ⟨_, rfl, h⟩))
theorem truthy_raw {d : Addr} {kvs : List (NestedKey × Value)} {Q : Bool → Shared → Prop} (hd : (d == sysModules) = false) (hm : s.heap.DictKeyed (nestedKind prog w) d kvs) (hfit : (kvs.length : Int) < 2 ^ 63)
    (h : Q (!kvs.isEmpty) { s with toks := s.toks + 1 + 1 }) : wpAny (model prog w) A (truthy (.ref d)) Q E s := by
  have hne : ((kvs.length : Int) != 0) = !kvs.isEmpty := by cases kvs <;> simp <;> omega
  have key : wpAny (model prog w) A (runValue (.builtin "len" ⟨[.ref d], []⟩)) (fun r s' => r = .int kvs.length (s.toks + 1) ∧ Q (!kvs.isEmpty) s') E s := by
    refine wpAny_runValue (codeAny_builtin entry_len ?_)
    rw [Around.under_plainId plain_len _]
    exact wpAny_mono (len_body_raw (Q := fun r s' => r = .int kvs.length (s.toks + 1) ∧ Q (!kvs.isEmpty) s') hd hm hfit ⟨rfl, h⟩)
      (fun fin s' h' => by obtain ⟨r, rfl, hq⟩ := h'; exact hq) fun _ _ e => e
  unfold truthy
  first
    | refine wpAny_bind (wpAny_callSpecial?_none (name := Str.ofString "__bool__") hm.typeIs noBool_dict ?_)
    | refine wpAny_bind (wpAny_pure (wpAny_bind (wpAny_callSpecial?_none (name := Str.ofString "__bool__") hm.typeIs noBool_dict ?_)))
  first
    | refine wpAny_bind (wpAny_specialOf (name := Str.ofString "__len__") hm.typeIs F.slot_dict_len.lookup ?_)
    | refine wpAny_bind (wpAny_pure (wpAny_bind (wpAny_specialOf (name := Str.ofString "__len__") hm.typeIs F.slot_dict_len.lookup ?_)))
  first
    | exact wpAny_bind (wpAny_mono key (fun r s' h' => by obtain ⟨rfl, hq⟩ := h'; exact wpAny_pure (hne ▸ hq)) fun _ _ e => e)
    | exact wpAny_bind (wpAny_pure (wpAny_bind (wpAny_mono key (fun r s' h' => by obtain ⟨rfl, hq⟩ := h'; exact wpAny_pure (hne ▸ hq)) fun _ _ e => e)))
end

/-- truth of a value -/
def truth (m : Store) : D → Option Bool
  | .non => some false
  | .bl b => some b
  | .int i => some (!decide (i = 0))
  | .str x => if x.length ≤ 16777216 then some (!x.isEmpty) else none
  | .tup vs => some (!vs.isEmpty)
  | .ref i => match m.cs[i]? with
    | some (.lst vs) => some (!vs.isEmpty)
    | some (.frz vs) => some (!vs.isEmpty)
    | some (.dct kvs) => some (!kvs.isEmpty)
    | _ => none
  | _ => none
def plen (m : Store) : D → Option Nat
  | .str x => if x.length ≤ 16777216 then some x.length else none
  | .tup vs => some vs.length
  | .ref i => match m.cs[i]? with
    | some (.lst vs) => some vs.length
    | some (.frz vs) => some vs.length
    | some (.dct kvs) => some kvs.length
    | _ => none
  | _ => none
section
variable {X : Cx} {σ : Sl} {m m' : Store} {ρ ρ1 ρ' : Rho} {s s1 s' : Shared} {a b c : Expr} {f g k : EV} {E : Value → Shared → Prop} {pos : Pos}
theorem RVs.isEmpty {vs : List D} {us : List Value} {h : Heap} (r : RVs ρ h vs us) : (!us.toArray.isEmpty) = !vs.isEmpty := by
  cases vs with
  | nil => simp only [RVs] at r; subst r; rfl
  | cons v vs => simp only [RVs] at r; obtain ⟨u, q, rfl, _⟩ := r; simp
theorem truth_lst {p : Addr × Addr} {vs : List D} {us : List Value} {n : Nat} {Q : Bool → Shared → Prop} (I : Inv X σ m ρ s) (z : vs.length ≤ sizeLine) (r : RVs ρ s.heap vs us) (g : s.heap.get? p.1 = some { cls := .type "list", data := .seq us.toArray n })
    (h : QT X σ ρ s Q (!vs.isEmpty) m) : wpAny (model X.G.P X.G.w) X.A (truthy (.ref p.1)) Q E s := by
  have hl := line63
  have := r.len
  exact wpAny_truthy_list (items := us.toArray) ⟨_, g, rfl, n, rfl⟩ (by simp only [List.size_toArray]; omega) (by rw [RVs.isEmpty r]; exact h _ ρ (I.tok _) (Kp.tok _))
theorem truth_ok {v : D} {u : Value} {b : Bool} {Q : Bool → Shared → Prop} (I : Inv X σ m ρ s) (ru : RV ρ s.heap v u) (h : truth m v = some b) (hq : QT X σ ρ s Q b m) : wpAny (model X.G.P X.G.w) X.A (truthy u) Q E s := by
  have hl := line63
  have hz := sizeLine_eq
  cases v with
  | non => cases h; cases ru; exact truthy_none (hq s ρ I Kp.refl)
  | bl b => cases h; cases ru; exact wpAny_truthy_bool (hq s ρ I Kp.refl)
  | int i =>
    cases h
    obtain ⟨t, rfl⟩ := ru
    refine PySem.P.truthy_int ?_
    have : (i != 0) = !decide (i = 0) := by rw [bne, Bool.beq_eq_decide_eq]
    rw [this]; exact hq s ρ I Kp.refl
  | str x =>
    simp only [truth] at h
    split at h
    · rename_i hx
      cases h
      obtain ⟨t, rfl⟩ := ru
      refine PySem.P.truthy_str (by rw [nm_len]; omega) ?_
      have : (((Nm.s x).length : Int) != 0) = !x.isEmpty := by rw [nm_len]; cases x <;> simp <;> omega
      rw [this]; exact hq _ ρ (I.tok _) (Kp.tok _)
    · cases h
  | tup vs =>
    cases h
    simp only [RV] at ru
    obtain ⟨a, us, rfl, t, z, r⟩ := ru
    have := r.len
    exact truthy_tuple (items := us.toArray) t.1 (by simp only [List.size_toArray]; omega) (by rw [RVs.isEmpty r]; exact hq _ ρ (I.tok _) (Kp.tok _))
  | ref i =>
    simp only [truth] at h
    cases e : m.cs[i]? with
    | none => rw [e] at h; cases h
    | some c =>
      rw [e] at h
      obtain ⟨p, hp, ck⟩ := I.S.at e
      obtain rfl := RV.ref_of hp ru
      cases c with
      | lst vs => cases h; obtain ⟨_, z, us, n, r, g⟩ := ck; exact truth_lst I z r g hq
      | frz vs => cases h; obtain ⟨_, z, us, n, r, g⟩ := ck; exact truth_lst I z r g hq
      | dct kvs =>
        cases h
        obtain ⟨_, z, y, q⟩ := ck
        rcases q with ⟨ys, d, f⟩ | ⟨xs, d, f⟩
        · have l := Paired.len f
          refine wpAny_truthy_dict y d (by omega) ?_
          have : (!ys.isEmpty) = !kvs.isEmpty := by cases f <;> rfl
          rw [this]; exact hq _ ρ (I.tok _) (Kp.tok _)
        · have l := Paired.len f
          refine truthy_raw (kvs := pairsH xs) y ⟨xs, d, rfl⟩ (by rw [pairsH_length]; omega) ?_
          have : (!(pairsH xs).isEmpty) = !kvs.isEmpty := by cases f <;> rfl
          rw [this]; exact hq _ ρ (I.tok _) (Kp.tok _)
      | _ => cases h
  | _ => cases h

/-! ### tests -/
def ts (f : EV) : TV := fun σ m => (f σ m).bind fun v m1 => match truth m1 v with
  | some b => .ok b m1
  | none => .bad
/-- a test whatever its whole is -/
structure STw (X : Cx) (e : Expr) (f : TV) : Prop where
  run : ∀ (whole : Sem Value) σ m ρ s (Q : Bool → Shared → Prop) (E : Value → Shared → Prop), Inv X σ m ρ s → (f σ m).sat (QT X σ ρ s Q) (EP X noex σ ρ s E) → wpAny (model X.G.P X.G.w) X.A (isTrue e X.env whole) Q E s
theorem STw.st {f : TV} (h : STw X a f) : ST X a f := ⟨h.run _⟩
theorem truth_sat {v : D} {u : Value} {Q : Bool → Shared → Prop} (I : Inv X σ m ρ s) (ru : RV ρ s.heap v u) (h : ((match truth m v with | some b => Res.ok b m | none => .bad) : Res Bool).sat (QT X σ ρ s Q) (EP X noex σ ρ s E)) : wpAny (model X.G.P X.G.w) X.A (truthy u) Q E s := by
  cases e : truth m v with
  | none => rw [e] at h; exact h.elim
  | some b => rw [e] at h; exact truth_ok I ru e h
/-- posts relative to a later state -/
theorem QT.rel {Q : Bool → Shared → Prop} (K : Kp X.fs noex ρ ρ1 s s1) {b : Bool} (h : QT X σ ρ s Q b m) : QT X σ ρ1 s1 Q b m := fun s2 ρ2 I2 K2 => h s2 ρ2 I2 (K.trans K2)
theorem QE.rel {Q : Value → Shared → Prop} (K : Kp X.fs noex ρ ρ1 s s1) {v : D} (h : QE X σ ρ s Q v m) : QE X σ ρ1 s1 Q v m := fun u s2 ρ2 I2 K2 r => h u s2 ρ2 I2 (K.trans K2) r
theorem satT {Q : Bool → Shared → Prop} {r : Res Bool} {EE : Ex → Store → Prop} (K : Kp X.fs noex ρ ρ1 s s1) (h : r.sat (QT X σ ρ s Q) EE) : r.sat (QT X σ ρ1 s1 Q) EE := h.mono (fun _ _ q => QT.rel K q) fun _ _ q => q
theorem satE {Q : Value → Shared → Prop} {r : Res D} {EE : Ex → Store → Prop} (K : Kp X.fs noex ρ ρ1 s s1) (h : r.sat (QE X σ ρ s Q) EE) : r.sat (QE X σ ρ1 s1 Q) EE := h.mono (fun _ _ q => QE.rel K q) fun _ _ q => q
theorem st_plain (ha : SE X a f) (he : ∀ whole, isTrue a X.env whole = (do let v ← whole; standAt a.pos; holding [v] (truthy v))) : ST X a (ts f) := by
  refine ⟨fun σ m ρ s Q E I h => ?_⟩
  exact isTrue_plain (ha.bd I h fun v m1 u s1 ρ1 I1 K1 r1 h1 => truth_sat I1 r1 (satT K1 h1)) (he _)
theorem st_cmp {op : CmpOp} {r : D → D → Store → Res D} (ho : O2 X (compareOp op) r) (ha : SE X a f) (hb : SE X b g) (hm : behindInMarks op b = false) : ST X (.Compare a [op] [b] pos) (ts (e2 r f g)) := by
  refine ⟨fun σ m ρ s Q E I h => ?_⟩
  refine wpAny_isTrue_Compare1 ?_ hm
  have h' : (e2 r f g σ m).sat (QE X σ ρ s fun u s1 => wpAny (model X.G.P X.G.w) X.A (truthy u) Q E s1) (EP X noex σ ρ s E) := by
    unfold ts at h
    cases e : e2 r f g σ m with
    | ok v m1 =>
      rw [e] at h
      exact fun u s1 ρ1 I1 K1 r1 => truth_sat I1 r1 (satT K1 (rel K1 h))
    | exc x m1 => rw [e] at h; exact h
    | bad => rw [e] at h; exact h
  exact bin2 ho ha hb I h'
def tAnd (f g : TV) : TV := fun σ m => (f σ m).bind fun b m1 => if b = true then g σ m1 else .ok false m1
def tOr (f g : TV) : TV := fun σ m => (f σ m).bind fun b m1 => if b = true then .ok true m1 else g σ m1
def tNot (f : TV) : TV := fun σ m => (f σ m).bind fun b m1 => .ok (!b) m1
theorem st_and1 {f : TV} (ha : ST X a f) : STw X (.BoolOp .And [a] pos) f := by
  refine ⟨fun wh σ m ρ s Q E I h => ?_⟩
  refine isTrue_and (ha.run σ m ρ s _ E I (h.mono (fun b m' q s' ρ' I' K' => ?_) fun _ _ q => q))
  have := q s' ρ' I' K'
  cases b with
  | true => exact isTrue_and_nil this
  | false => exact this
theorem st_or1 {f : TV} (ha : ST X a f) : STw X (.BoolOp .Or [a] pos) f := by
  refine ⟨fun wh σ m ρ s Q E I h => ?_⟩
  refine isTrue_or (ha.run σ m ρ s _ E I (h.mono (fun b m' q s' ρ' I' K' => ?_) fun _ _ q => q))
  have := q s' ρ' I' K'
  cases b with
  | false => exact isTrue_or_nil this
  | true => exact this
theorem st_and {f g : TV} {rest : List Expr} (ha : ST X a f) (hb : STw X (.BoolOp .And (b :: rest) pos) g) : STw X (.BoolOp .And (a :: b :: rest) pos) (tAnd f g) := by
  refine ⟨fun wh σ m ρ s Q E I h => ?_⟩
  refine isTrue_and (ha.bd I h fun b m1 s1 ρ1 I1 K1 h1 => ?_)
  cases b with
  | true => exact hb.run wh σ m1 ρ1 s1 Q E I1 (satT K1 h1)
  | false => exact h1 s1 ρ1 I1 K1
theorem st_or {f g : TV} {rest : List Expr} (ha : ST X a f) (hb : STw X (.BoolOp .Or (b :: rest) pos) g) : STw X (.BoolOp .Or (a :: b :: rest) pos) (tOr f g) := by
  refine ⟨fun wh σ m ρ s Q E I h => ?_⟩
  refine isTrue_or (ha.bd I h fun b m1 s1 ρ1 I1 K1 h1 => ?_)
  cases b with
  | true => exact h1 s1 ρ1 I1 K1
  | false => exact hb.run wh σ m1 ρ1 s1 Q E I1 (satT K1 h1)
theorem st_not {f : TV} (ha : ST X a f) : STw X (.UnaryOp .Not a pos) (tNot f) := by
  refine ⟨fun wh σ m ρ s Q E I h => ?_⟩
  exact isTrue_not (ha.bd I h fun b m1 s1 ρ1 I1 K1 h1 => h1 s1 ρ1 I1 K1)
/-- as values -/
def eAnd (f g : EV) : EV := fun σ m => (f σ m).bind fun v m1 => match truth m1 v with
  | some true => g σ m1
  | some false => .ok v m1
  | none => .bad
def eOr (f g : EV) : EV := fun σ m => (f σ m).bind fun v m1 => match truth m1 v with
  | some true => .ok v m1
  | some false => g σ m1
  | none => .bad
def eNot (f : EV) : EV := fun σ m => (f σ m).bind fun v m1 => match truth m1 v with
  | some b => .ok (.bl (!b)) m1
  | none => .bad
theorem se_bool1 {op} (h : SE X a f) : SE X (.BoolOp op [a] pos) f := ⟨fun σ m ρ s Q E I hw => BoolOp_one (h.run σ m ρ s Q E I hw)⟩
theorem se_and {rest : List Expr} (ha : SE X a f) (hb : SE X (.BoolOp .And (b :: rest) pos) g) : SE X (.BoolOp .And (a :: b :: rest) pos) (eAnd f g) := by
  refine ⟨fun σ m ρ s Q E I h => ?_⟩
  refine BoolOp_and (ha.bd I h fun v m1 u s1 ρ1 I1 K1 r1 h1 => ?_)
  cases e : truth m1 v with
  | none => rw [e] at h1; exact h1.elim
  | some t =>
    rw [e] at h1
    refine truth_ok I1 r1 e fun s2 ρ2 I2 K2 => ?_
    cases t with
    | true => exact hb.run σ m1 ρ2 s2 Q E I2 (satE (K1.trans K2) (rel K2 h1))
    | false => exact h1 u s2 ρ2 I2 (K1.trans K2) (RV.mono K2.rho K2.tups _ _ r1)
theorem se_or {rest : List Expr} (ha : SE X a f) (hb : SE X (.BoolOp .Or (b :: rest) pos) g) : SE X (.BoolOp .Or (a :: b :: rest) pos) (eOr f g) := by
  refine ⟨fun σ m ρ s Q E I h => ?_⟩
  refine BoolOp_or (ha.bd I h fun v m1 u s1 ρ1 I1 K1 r1 h1 => ?_)
  cases e : truth m1 v with
  | none => rw [e] at h1; exact h1.elim
  | some t =>
    rw [e] at h1
    refine truth_ok I1 r1 e fun s2 ρ2 I2 K2 => ?_
    cases t with
    | true => exact h1 u s2 ρ2 I2 (K1.trans K2) (RV.mono K2.rho K2.tups _ _ r1)
    | false => exact hb.run σ m1 ρ2 s2 Q E I2 (satE (K1.trans K2) (rel K2 h1))
theorem se_not (ha : SE X a f) : SE X (.UnaryOp .Not a pos) (eNot f) := by
  refine ⟨fun σ m ρ s Q E I h => ?_⟩
  refine UnaryOp_ (ha.bd I h fun v m1 u s1 ρ1 I1 K1 r1 h1 => not_of ?_)
  cases e : truth m1 v with
  | none => rw [e] at h1; exact h1.elim
  | some t => rw [e] at h1; exact truth_ok I1 r1 e fun s2 ρ2 I2 K2 => h1 _ s2 ρ2 I2 (K1.trans K2) rfl
def eIf (t : TV) (f g : EV) : EV := fun σ m => (t σ m).bind fun b m1 => if b = true then f σ m1 else g σ m1
theorem se_if {t : TV} (hc : ST X c t) (ha : SE X a f) (hb : SE X b g) : SE X (.IfExp c a b pos) (eIf t f g) := by
  refine ⟨fun σ m ρ s Q E I h => ?_⟩
  refine wpAny_IfExp (hc.bd I h fun d m1 s1 ρ1 I1 K1 h1 => ?_)
  cases d with
  | true => exact ha.run σ m1 ρ1 s1 Q E I1 (satE K1 h1)
  | false => exact hb.run σ m1 ρ1 s1 Q E I1 (satE K1 h1)
def eNeg (f : EV) : EV := fun σ m => (f σ m).bind fun v m1 => match v with
  | .int i => .ok (.int (-i)) m1
  | _ => .bad
theorem se_neg (ha : SE X a f) : SE X (.UnaryOp .USub a pos) (eNeg f) := by
  refine ⟨fun σ m ρ s Q E I h => ?_⟩
  refine UnaryOp_ (ha.bd I h fun v m1 u s1 ρ1 I1 K1 r1 h1 => ?_)
  split at h1
  · obtain ⟨t, rfl⟩ := r1
    exact neg_int (h1 _ _ ρ1 (I1.tok _) (K1.trans (Kp.tok _)) ⟨_, rfl⟩)
  · exact h1.elim
/-- a < b < c and its like -/
def eChain (r r' : D → D → Store → Res D) (f g k : EV) : EV := fun σ m => (f σ m).bind fun v m1 => (g σ m1).bind fun w m2 => (r v w m2).bind fun z m3 => match z with
  | .bl true => (k σ m3).bind fun y m4 => r' w y m4
  | .bl false => .ok (.bl false) m3
  | _ => .bad
theorem o_bd {β : Type} {op : Value → Value → Sem Value} {r : D → D → Store → Res D} (ho : O2 X op r) (I : Inv X σ m ρ s) {v w : D} {u x : Value} (ru : RV ρ s.heap v u) (rx : RV ρ s.heap w x) {kk : D → Store → Res β} {QP : β → Store → Prop} {R : Value → Shared → Prop} (h : ((r v w m).bind kk).sat QP (EP X noex σ ρ s E))
    (c : ∀ z m1 y s1 ρ1, Inv X σ m1 ρ1 s1 → Kp X.fs noex ρ ρ1 s s1 → RV ρ1 s1.heap z y → (kk z m1).sat QP (EP X noex σ ρ1 s1 E) → R y s1) : wpAny (model X.G.P X.G.w) X.A (op u x) R E s := by
  refine ho.run σ m ρ s v w u x R E I ru rx ?_
  cases e : r v w m with
  | ok z m1 => rw [e] at h; exact fun y s1 ρ1 I1 K1 r1 => c z m1 y s1 ρ1 I1 K1 r1 (rel K1 h)
  | exc x m1 => rw [e] at h; exact h
  | bad => rw [e] at h; exact h
theorem se_chain {op op' : CmpOp} {r r' : D → D → Store → Res D} (ho : O2 X (compareOp op) r) (ho' : O2 X (compareOp op') r') (ha : SE X a f) (hb : SE X b g) (hc : SE X c k) (hm : lastMarks [op, op'] [b, c] = false) : SE X (.Compare a [op, op'] [b, c] pos) (eChain r r' f g k) := by
  refine ⟨fun σ m ρ s Q E I h => ?_⟩
  refine Compare_chain (ha.bd I h fun v m1 u s1 ρ1 I1 K1 r1 h1 => chain_link (hb.bd I1 h1 fun w m2 x s2 ρ2 I2 K2 r2 h2 =>
    o_bd ho I2 (RV.mono K2.rho K2.tups _ _ r1) r2 h2 fun z m3 y s3 ρ3 I3 K3 r3 h3 => ?_)) hm
  cases z with
  | bl t =>
    cases r3
    refine wpAny_truthy_bool ?_
    cases t with
    | true =>
      refine ite_tt (chain_last (hc.bd I3 h3 fun y m4 x4 s4 ρ4 I4 K4 r4 h4 => ?_))
      have K14 := (K2.trans K3).trans K4
      exact ho'.run σ m4 ρ4 s4 w y x x4 Q E I4 (RV.mono (K3.trans K4).rho (K3.trans K4).tups _ _ r2) r4 (satE (K1.trans K14) h4)
    | false => exact ite_ff (h3 _ s3 ρ3 I3 ((K1.trans K2).trans K3) rfl)
  | _ => exact h3.elim
def tChain (r r' : D → D → Store → Res D) (f g k : EV) : TV := fun σ m => (f σ m).bind fun v m1 => (g σ m1).bind fun w m2 => (r v w m2).bind fun z m3 => match z with
  | .bl true => (k σ m3).bind fun y m4 => (r' w y m4).bind fun q m5 => match truth m5 q with
    | some b => .ok b m5
    | none => .bad
  | .bl false => .ok false m3
  | _ => .bad
theorem st_chain {op op' : CmpOp} {r r' : D → D → Store → Res D} (ho : O2 X (compareOp op) r) (ho' : O2 X (compareOp op') r') (ha : SE X a f) (hb : SE X b g) (hc : SE X c k) (hm : lastMarks [op, op'] [b, c] = false) : ST X (.Compare a [op, op'] [b, c] pos) (tChain r r' f g k) := by
  refine ⟨fun σ m ρ s Q E I h => ?_⟩
  refine isTrue_chain (ha.bd I h fun v m1 u s1 ρ1 I1 K1 r1 h1 => test_link (hb.bd I1 h1 fun w m2 x s2 ρ2 I2 K2 r2 h2 =>
    o_bd ho I2 (RV.mono K2.rho K2.tups _ _ r1) r2 h2 fun z m3 y s3 ρ3 I3 K3 r3 h3 => ?_)) hm
  cases z with
  | bl t =>
    cases r3
    refine wpAny_truthy_bool ?_
    cases t with
    | true =>
      refine ite_tt (test_last (hc.bd I3 h3 fun y m4 x4 s4 ρ4 I4 K4 r4 h4 => ?_))
      have K14 := (K2.trans K3).trans K4
      refine o_bd ho' I4 (RV.mono (K3.trans K4).rho (K3.trans K4).tups _ _ r2) r4 h4 fun q m5 y5 s5 ρ5 I5 K5 r5 h5 => ?_
      exact truth_sat I5 r5 (satT ((K1.trans K14).trans K5) h5)
    | false => exact ite_ff (h3 s3 ρ3 I3 ((K1.trans K2).trans K3))
  | _ => exact h3.elim
end
end Z

set_option Elab.async false
set_option linter.all false
set_option maxRecDepth 100000
/-! the engine, part H: in, subscripts, slices, len -/
namespace Z
open PySem PySem.Spec PyProof.Rows
open L2 (frs)

theorem lk_is {ρ : Rho} {h : Heap} {P : Program} {w : World} {v : D} {u : Value} {k : L2.Key} (r : RV ρ h v u) (e : lk v = some k) : (keyS P w).is k u = true := by
  cases v with
  | int i => cases e; obtain ⟨t, rfl⟩ := r; exact L2.keyIs_int _ t
  | str x => cases e; obtain ⟨t, rfl⟩ := r; exact L2.keyIs_str _ t
  | _ => cases e

section
variable {X : Cx} {σ : Sl} {m m' : Store} {ρ ρ1 ρ' : Rho} {s s1 s' : Shared} {a b c : Expr} {f g k : EV} {E : Value → Shared → Prop} {pos : Pos}
theorem keyed_cases {kvs : List (D × D)} {v : D} (h : keyed kvs v = true) : (lkAll kvs = true ∧ ∃ k, lk v = some k) ∨ (nkAll kvs = true ∧ ∃ vs k, v = .tup vs ∧ nk v = some k ∧ k.depth ≤ 8) := by
  cases v with
  | int i => exact .inl ⟨h, _, rfl⟩
  | str i => exact .inl ⟨h, _, rfl⟩
  | tup vs =>
    simp only [keyed, Bool.and_eq_true] at h
    refine .inr ⟨h.1, vs, ?_⟩
    cases e : nk (.tup vs) with
    | none => rw [e] at h; exact absurd h.2 Bool.false_ne_true
    | some k => rw [e] at h; exact ⟨k, rfl, rfl, by simpa using h.2⟩
  | _ => cases h
theorem Inv.dct (I : Inv X σ m ρ s) {i : Nat} {kvs : List (D × D)} (e : m.cs[i]? = some (.dct kvs)) {u : Value} (r : RV ρ s.heap (.ref i) u) : ∃ p, u = .ref p ∧ ρ[i]? = some (p, p) ∧ DctOk X.G.P X.G.w ρ s.heap p kvs := by
  obtain ⟨p, hp, ck⟩ := I.S.at e
  obtain rfl := RV.ref_of hp r
  obtain ⟨e2, d⟩ := ck
  refine ⟨p.1, rfl, ?_, d⟩
  obtain ⟨p1, p2⟩ := p
  dsimp only at e2 ⊢
  rw [e2] at hp; exact hp
theorem room8 (I : Inv X σ m ρ s) : (nestedKind X.G.P X.G.w).room X.A.in1 := by
  show X.A.in1.units + 8 < cLine
  have h : X.A.in1.units = X.A.units + 1 := rfl
  have := I.ok.hu
  rw [h]; omega
/-! ### in -/
def inB (m : Store) (v w : D) : Option Bool := match w with
  | .tup ws => pin m v ws
  | .ref i => match m.cs[i]? with
    | some (.lst ws) => pin m v ws
    | some (.frz ws) => pin m v ws
    | some (.dct kvs) => if keyed kvs v = true then some (dget kvs v).isSome else none
    | _ => none
  | _ => none
def rIn : D → D → Store → Res D := fun v w m => match inB m v w with | some b => .ok (.bl b) m | none => .bad
def rNi : D → D → Store → Res D := fun v w m => match inB m v w with | some b => .ok (.bl (!b)) m | none => .bad
theorem pin_ok (I : Inv X σ m ρ s) {v : D} {ws : List D} {u : Value} {xs : List Value} {t : Bool} (ru : RV ρ s.heap v u) (rs : RVs ρ s.heap ws xs) (h : pin m v ws = some t) :
    ∃ d ds as bs, Reads s.heap u d as ∧ ReadsAll s.heap xs ds bs ∧ PyData.canLayAll0 ds = true ∧ d.canLay0 = true ∧ X.A.units + 1 + min (PyData.depthAll ds) d.depth < cLine ∧ t = ds.any fun y => PyData.eqv y d := by
  unfold pin at h
  cases e1 : rd m 40 v with
  | none => rw [e1] at h; cases h
  | some d =>
    cases e2 : omap (rd m 40) ws with
    | none => rw [e1, e2] at h; cases h
    | some ds =>
      rw [e1, e2] at h; cases h
      obtain ⟨as, a1, a2, a3⟩ := rd_reads I.S 40 _ _ _ ru e1
      obtain ⟨bs, b1, b2, b3⟩ := rds_reads I.S 40 _ _ _ rs e2
      refine ⟨d, ds, as, bs, a1, b1, b2, a2, ?_, rfl⟩
      have := I.ok.hu
      have : min (PyData.depthAll ds) d.depth ≤ d.depth := Nat.min_le_right _ _
      omega
theorem in_any (I : Inv X σ m ρ s) {v w : D} {u x : Value} {t : Bool} {Q : Bool → Shared → Prop} (ru : RV ρ s.heap v u) (rx : RV ρ s.heap w x) (h : inB m v w = some t) (hq : QT X σ ρ s Q t m) :
    wpAny (model X.G.P X.G.w) X.A (compareOp .In u x) (fun y s' => ∃ t', y = .bool t' ∧ Q t' s') E s ∧ wpAny (model X.G.P X.G.w) X.A (compareOp .NotIn u x) (fun y s' => ∃ t', y = .bool (!t') ∧ Q t' s') E s := by
  have h0 := hq s ρ I Kp.refl
  have lst : ∀ {i : Nat} {ws : List D}, m.seq? i = some ws → pin m v ws = some t → RV ρ s.heap (.ref i) x →
      wpAny (model X.G.P X.G.w) X.A (compareOp .In u x) (fun y s' => ∃ t', y = .bool t' ∧ Q t' s') E s ∧ wpAny (model X.G.P X.G.w) X.A (compareOp .NotIn u x) (fun y s' => ∃ t', y = .bool (!t') ∧ Q t' s') E s := fun e hp rx => by
    obtain ⟨p, us, n, hp', _, _, rs, g⟩ := I.S.seq e
    obtain rfl := RV.ref_of hp' rx
    obtain ⟨d, ds, as, bs, a1, b1, b2, a2, hu, rfl⟩ := pin_ok I ru rs hp
    have rc : Reads s.heap (.ref p.1) (.list ds) (p.1 :: bs) := .list g rfl rfl (by simpa using b1)
    exact ⟨SeqAt.in_list_reads rc a1 b2 a2 hu ⟨_, rfl, h0⟩, SeqAt.notIn_list_reads rc a1 b2 a2 hu ⟨_, rfl, h0⟩⟩
  cases w with
  | tup ws =>
    simp only [inB] at h
    simp only [RV] at rx
    obtain ⟨a, us, rfl, ⟨⟨o, e1, e2, n, e3⟩, _⟩, _, rs⟩ := rx
    obtain ⟨d, ds, as, bs, a1, b1, b2, a2, hu, rfl⟩ := pin_ok I ru rs h
    have rc : Reads s.heap (.ref a) (.tuple ds) bs := .tuple e1 e2 e3 (by simpa using b1)
    exact ⟨SeqAt.in_tuple_reads rc a1 b2 a2 hu ⟨_, rfl, h0⟩, SeqAt.notIn_tuple_reads rc a1 b2 a2 hu ⟨_, rfl, h0⟩⟩
  | ref i =>
    simp only [inB] at h
    cases e : m.cs[i]? with
    | none => rw [e] at h; cases h
    | some c =>
      rw [e] at h
      cases c with
      | lst ws => exact lst (by unfold Store.seq?; rw [e]; rfl) h rx
      | frz ws => exact lst (by unfold Store.seq?; rw [e]; rfl) h rx
      | dct kvs =>
        dsimp only at h
        split at h
        · rename_i hk
          cases h
          obtain ⟨p, rfl, hp, d⟩ := I.dct e rx
          have hd := d.2.1
          rcases keyed_cases hk with ⟨h1, k, h2⟩ | ⟨h1, vs, k, rfl, h2, h3⟩
          · obtain ⟨ys, dd, fr⟩ := d.leaf h1
            have e1 : (valueAt ys k).isSome = (dget kvs v).isSome := by
              rcases LfR.get fr h2 with ⟨_, _, q1, q2, _⟩ | ⟨q1, q2⟩ <;> rw [q1, q2] <;> rfl
            have ks := lk_is (P := X.G.P) (w := X.G.w) ru h2
            refine ⟨wpAny_in_of ks hd dd.mapOf ⟨_, rfl, ?_⟩, wpAny_notIn_of ks hd dd.mapOf ⟨_, rfl, ?_⟩⟩ <;> (rw [e1]; exact hq _ ρ (I.tok _) (Kp.tok _))
          · obtain ⟨xs, dd, fr⟩ := d.tupd h1
            have e1 : (atKey xs k).isSome = (dget kvs (.tup vs)).isSome := by
              rcases TpR.get fr h2 with ⟨_, _, q1, q2, _⟩ | ⟨q1, q2⟩ <;> rw [q1, q2] <;> rfl
            have ru' := ru
            simp only [RV] at ru'
            obtain ⟨b, us, rfl, _⟩ := ru'
            have ks : (nestedKind X.G.P X.G.w).is s.heap k b := ⟨nk_is _ _ _ ru h2, h3⟩
            refine ⟨wpAny_in_heap (room8 I) ks hd dd ⟨_, rfl, ?_⟩, wpAny_notIn_heap (room8 I) ks hd dd ⟨_, rfl, ?_⟩⟩ <;> (rw [e1]; exact hq _ ρ (I.tok _) (Kp.tok _))
        · cases h
      | _ => cases h
  | _ => cases h
theorem o_in : O2 X (compareOp .In) rIn := ⟨fun σ m ρ s v w u x Q E I ru rx h => by
  unfold rIn at h
  cases e : inB m v w with
  | none => rw [e] at h; exact h.elim
  | some t =>
    rw [e] at h
    refine wpAny_mono (in_any (Q := fun t' s' => Q (.bool t') s') I ru rx e fun s' ρ' I' K' => h _ s' ρ' I' K' rfl).1 (fun y s' ⟨t', e', q⟩ => by subst e'; exact q) fun _ _ q => q⟩
theorem o_ni : O2 X (compareOp .NotIn) rNi := ⟨fun σ m ρ s v w u x Q E I ru rx h => by
  unfold rNi at h
  cases e : inB m v w with
  | none => rw [e] at h; exact h.elim
  | some t =>
    rw [e] at h
    refine wpAny_mono (in_any (Q := fun t' s' => Q (.bool (!t')) s') I ru rx e fun s' ρ' I' K' => h _ s' ρ' I' K' rfl).2 (fun y s' ⟨t', e', q⟩ => by subst e'; exact q) fun _ _ q => q⟩

/-! ### subscripts -/
def rIx : D → D → Store → Res D := fun v w m => match v, w with
  | .tup xs, .int i => match L2.atI xs i with | some z => .ok z m | none => .bad
  | .str x, .int i => if x.length ≤ 16777216 then (match L2.atI x i with | some c => .ok (.str [c]) m | none => .bad) else .bad
  | .ref j, w => match m.cs[j]?, w with
    | some (.lst xs), .int i => (match L2.atI xs i with | some z => .ok z m | none => .bad)
    | some (.frz xs), .int i => (match L2.atI xs i with | some z => .ok z m | none => .bad)
    | some (.dct kvs), w => if keyed kvs w = true then (match dget kvs w with | some z => .ok z m | none => .bad) else .bad
    | _, _ => .bad
  | _, _ => .bad
theorem ix_lst (I : Inv X σ m ρ s) {value slice : Expr} {xs : List D} {i : Int} {t : Tok} {z : D} {p : Addr × Addr} {us : List Value} {n : Nat} {Q : Value → Shared → Prop} (hz : xs.length ≤ sizeLine) (r : RVs ρ s.heap xs us) (g : s.heap.get? p.1 = some { cls := .type "list", data := .seq us.toArray n })
    (e : L2.atI xs i = some z) (hs : subscripted slice false (.ref p.1) (.int i t) = operate [.ref p.1, .int i t] (getItem (.ref p.1) (.int i t))) (h : QE X σ ρ s Q z m) : wpAny (model X.G.P X.G.w) X.A (subscriptTail value slice (.ref p.1) (.int i t)) Q E s := by
  obtain ⟨j, h1, h2, h3, h4, h5⟩ := L2.atI_get e
  obtain ⟨w, ew, rw'⟩ := r.get h2
  have hl := r.len
  have hn := line63
  have il : s.heap.IsList p.1 us.toArray := ⟨_, g, rfl, n, rfl⟩
  have fin : Q w s := h w s ρ I Kp.refl rw'
  by_cases h0 : 0 ≤ i
  · have hj : i.toNat = j := by
      rw [seqIndex_of h0 h5] at h1
      exact Option.some.inj h1
    exact item_listR il h0 (by omega) (by rw [hj]; simpa using ew) fin hs
  · have hj : (i + (us.toArray.size : Int)).toNat = j := by
      rw [seqIndex_neg (by omega) h4] at h1
      rw [List.size_toArray, ← hl]
      exact Option.some.inj h1
    exact subscriptTail_builtinR (x := w) il.typeIs slot_list_getitem.lookup
      (wpAny_getItem_list_neg (Q := fun r s' => r = w ∧ Q r s') il (by omega) (by rw [List.size_toArray] <;> omega) (by omega) (by rw [hj]; simpa using ew) ⟨rfl, fin⟩) hs
structure OI (X : Cx) (value slice : Expr) : Prop where
  run : ∀ σ m ρ s (v w : D) (u x : Value) (Q : Value → Shared → Prop) (E : Value → Shared → Prop), Inv X σ m ρ s → RV ρ s.heap v u → RV ρ s.heap w x → (rIx v w m).sat (QE X σ ρ s Q) (EP X noex σ ρ s E) → wpAny (model X.G.P X.G.w) X.A (subscriptTail value slice u x) Q E s
theorem o_ix {value slice : Expr} (hs : ∀ o i, subscripted slice false o i = operate [o, i] (getItem o i)) : OI X value slice := ⟨fun σ m ρ s v w u x Q E I ru rx h => by
  have hn := line63
  unfold rIx at h
  split at h
  · rename_i xs i
    cases e : L2.atI xs i with
    | none => rw [e] at h; exact h.elim
    | some z =>
      rw [e] at h
      simp only [RV] at ru
      obtain ⟨a, us, rfl, ⟨it, _⟩, hz, r⟩ := ru
      obtain ⟨t, rfl⟩ := rx
      obtain ⟨j, h1, h2, h3, h4, h5⟩ := L2.atI_get e
      obtain ⟨w, ew, rw'⟩ := r.get h2
      have hl := r.len
      exact subscriptTail_builtinR (x := w) (IsTup.typeIs it) slot_tuple_getitem.lookup
        (getItem_tuple (j := j) (Q := fun r s' => r = w ∧ Q r s') it (by omega) (by omega) (by rw [List.size_toArray, ← hl]; exact h1) (by simpa using ew) ⟨rfl, h w s ρ I Kp.refl rw'⟩) (hs _ _)
  · rename_i xs i
    split at h
    · rename_i hz
      cases e : L2.atI xs i with
      | none => rw [e] at h; exact h.elim
      | some c =>
        rw [e] at h
        obtain ⟨t, rfl⟩ := ru
        obtain ⟨t', rfl⟩ := rx
        obtain ⟨j, h1, h2, h3, h4, h5⟩ := L2.atI_get e
        exact tail_any (typeIs_str s (Nm.s xs) t) slot_str_getitem.lookup (getItem_str (c := c) (by
          have e1 : decide (i < -(2 ^ 63 : Int)) = false := decide_eq_false (by omega)
          have e2 : decide (i ≥ 2 ^ 63) = false := decide_eq_false (by omega)
          rw [e1, e2, Bool.or_false]) (by rw [nm_len, h1]; simpa [Nm.s] using h2) (h _ _ ρ (I.tok _) (Kp.tok _) ⟨s.toks, rfl⟩)) (hs _ _)
    · exact h.elim
  · rename_i w j
    split at h
    · rename_i _ xs i ec
      cases e : L2.atI xs i with
      | none => rw [e] at h; exact h.elim
      | some z =>
        rw [e] at h
        obtain ⟨t, rfl⟩ := rx
        obtain ⟨p, us, n, hp, _, hz, r, g⟩ := I.S.seq (i := j) (vs := xs) (by unfold Store.seq?; rw [ec]; rfl)
        obtain rfl := RV.ref_of hp ru
        exact ix_lst I hz r g e (hs _ _) h
    · rename_i _ xs i ec
      cases e : L2.atI xs i with
      | none => rw [e] at h; exact h.elim
      | some z =>
        rw [e] at h
        obtain ⟨t, rfl⟩ := rx
        obtain ⟨p, us, n, hp, _, hz, r, g⟩ := I.S.seq (i := j) (vs := xs) (by unfold Store.seq?; rw [ec]; rfl)
        obtain rfl := RV.ref_of hp ru
        exact ix_lst I hz r g e (hs _ _) h
    · rename_i w _ _ kvs ec
      split at h
      · rename_i hk
        cases e : dget kvs w with
        | none => rw [e] at h; exact h.elim
        | some z =>
          rw [e] at h
          obtain ⟨p, rfl, hp, d⟩ := I.dct ec ru
          rcases keyed_cases hk with ⟨h1, k, h2⟩ | ⟨h1, vs, k, rfl, h2, h3⟩
          · obtain ⟨ys, dd, fr⟩ := d.leaf h1
            have ks := lk_is (P := X.G.P) (w := X.G.w) rx h2
            rcases LfR.get fr h2 with ⟨z', uz, q1, q2, q3⟩ | ⟨q1, q2⟩
            · rw [e] at q1; cases q1
              exact tail_any dd.typeIs slot_dict_getitem.lookup (wpAny_getItem_of ks dd.mapOf q2 (h _ _ ρ (I.tok _) (Kp.tok _) q3)) (hs _ _)
            · rw [e] at q1; cases q1
          · obtain ⟨xs, dd, fr⟩ := d.tupd h1
            have ru' := rx
            simp only [RV] at ru'
            obtain ⟨b, us, rfl, _⟩ := ru'
            have ks : (nestedKind X.G.P X.G.w).is s.heap k b := ⟨nk_is _ _ _ rx h2, h3⟩
            rcases TpR.get fr h2 with ⟨z', pz, q1, q2, q3⟩ | ⟨q1, q2⟩
            · rw [e] at q1; cases q1
              exact tail_any dd.typeIs slot_dict_getitem.lookup (wpAny_getItem_heap (room8 I) ks dd q2 (h _ _ ρ (I.tok _) (Kp.tok _) q3)) (hs _ _)
            · rw [e] at q1; cases q1
      · exact h.elim
    · exact h.elim
  · exact h.elim⟩
theorem se_ix (ha : SE X a f) (hb : SE X b g) (hs : ∀ o i, subscripted b false o i = operate [o, i] (getItem o i)) : SE X (.Subscript a b pos) (e2 rIx f g) := by
  refine ⟨fun σ m ρ s Q E I h => Subscript_ ?_⟩
  refine ha.bd I h fun v m1 u s1 ρ1 I1 K1 r1 h1 => ?_
  refine hb.bd I1 h1 fun w m2 x s2 ρ2 I2 K2 r2 h2 => ?_
  exact (o_ix hs).run σ m2 ρ2 s2 v w u x Q E I2 (RV.mono K2.rho K2.tups _ _ r1) r2 (satE (K1.trans K2) h2)

/-! ### slices -/
abbrev OV := Sl → Store → Res (Option Int)
structure SP (X : Cx) (e : Option Expr) (f : OV) : Prop where
  run : ∀ σ m ρ s (Q : Value → Shared → Prop) (E : Value → Shared → Prop), Inv X σ m ρ s → (f σ m).sat (fun o m' => ∀ u s' ρ', Inv X σ m' ρ' s' → Kp X.fs noex ρ ρ' s s' → IsPart u o → Q u s') (EP X noex σ ρ s E) → wpAny (model X.G.P X.G.w) X.A (evalPart e X.env) Q E s
def oNone : OV := fun _ m => .ok none m
def oSome (f : EV) : OV := fun σ m => (f σ m).bind fun v m1 => match v with
  | .int i => .ok (some i) m1
  | _ => .bad
theorem sp_none : SP X none oNone := ⟨fun σ m ρ s Q E I h => by rw [evalPart_none]; exact wpAny_pure (h _ s ρ I Kp.refl .none)⟩
theorem sp_some (ha : SE X a f) : SP X (some a) (oSome f) := by
  refine ⟨fun σ m ρ s Q E I h => ?_⟩
  rw [evalPart_some]
  refine ha.bd I h fun v m1 u s1 ρ1 I1 K1 r1 h1 => ?_
  cases v with
  | int i => obtain ⟨t, rfl⟩ := r1; exact h1 _ s1 ρ1 I1 K1 (.int i t)
  | _ => exact h1.elim
theorem SP.bd {β : Type} {e : Option Expr} {f : OV} (ha : SP X e f) (I : Inv X σ m ρ s) {k : Option Int → Store → Res β} {QP : β → Store → Prop} {R : Value → Shared → Prop} (h : ((f σ m).bind k).sat QP (EP X noex σ ρ s E))
    (c : ∀ o m1 u s1 ρ1, Inv X σ m1 ρ1 s1 → Kp X.fs noex ρ ρ1 s s1 → IsPart u o → (k o m1).sat QP (EP X noex σ ρ1 s1 E) → R u s1) : wpAny (model X.G.P X.G.w) X.A (evalPart e X.env) R E s := by
  refine ha.run σ m ρ s R E I ?_
  cases e : f σ m with
  | ok v m1 => rw [e] at h; exact fun u s1 ρ1 I1 K1 r1 => c v m1 u s1 ρ1 I1 K1 r1 (rel K1 h)
  | exc x m1 => rw [e] at h; exact h
  | bad => rw [e] at h; exact h
/-- the items from lo to hi -/
def cut (xs : List D) (lo hi : Option Int) : List D := (xs.drop (HT.sIx xs.length 0 lo)).take (HT.sIx xs.length xs.length hi - HT.sIx xs.length 0 lo)
theorem cut_le (xs : List D) (lo hi : Option Int) : (cut xs lo hi).length ≤ xs.length := by
  unfold cut
  rw [List.length_take, List.length_drop]
  omega
def rSl (v : D) (lo hi : Option Int) (m : Store) : Res D := match v with
  | .tup xs => .ok (.tup (cut xs lo hi)) m
  | .ref i => match m.seq? i with
    | some xs => .ok (.ref m.nx) (m.push (.lst (cut xs lo hi)))
    | none => .bad
  | _ => .bad
def eSl (f : EV) (lo hi : OV) : EV := fun σ m => (f σ m).bind fun v m1 => (lo σ m1).bind fun l m2 => (hi σ m2).bind fun u m3 => rSl v l u m3
theorem se_sl {lo hi : Option Expr} {fl fh : OV} {p2 : Pos} (ha : SE X a f) (hl : SP X lo fl) (hh : SP X hi fh) : SE X (.Subscript a (.Slice lo hi none p2) pos) (eSl f fl fh) := by
  refine ⟨fun σ m ρ s Q E I h => Subscript_ ?_⟩
  refine ha.bd I h fun v m1 u s1 ρ1 I1 K1 r1 h1 => ?_
  refine wpAny_Slice (hl.bd I1 h1 fun l m2 vl s2 ρ2 I2 K2 p1 h2 => hh.bd I2 h2 fun q m3 vu s3 ρ3 I3 K3 p3 h3 => ?_)
  rw [evalPart_none]
  refine wpAny_pure ?_
  obtain ⟨I4, K4⟩ := I3.kept (h' := s3.heap.push { cls := .type "slice", data := .fields #[vl, vu, .none] }) (t := s3.toks) (fun b u e => Heap.get?_push_of_some _ e) (by simp)
  have K := ((K1.trans K2).trans K3).trans K4
  have K24 := (K2.trans K3).trans K4
  have r4 := RV.mono K24.rho K24.tups _ _ r1
  have hs := Heap.IsSliceOf.new s3.heap vl vu .none
  have h4 := satE K (rel K4 h3)
  clear h3 h2 h1 h
  show wpAny (model X.G.P X.G.w) X.A (subscriptTail a (.Slice lo hi none p2) u (.ref s3.heap.objs.size)) Q E { s3 with heap := s3.heap.push { cls := .type "slice", data := .fields #[vl, vu, .none] } }
  unfold rSl at h4
  split at h4
  · rename_i xs
    simp only [RV] at r4
    obtain ⟨b, us, rfl, ⟨it, itn⟩, hz, r⟩ := r4
    have hlen : us.toArray.size = xs.length := by rw [List.size_toArray]; exact r.len.symm
    refine tail_any (ops := [.ref s3.heap.objs.size, .ref b]) (IsTup.typeIs it) slot_tuple_getitem.lookup ?_ (by with_unfolding_all rfl)
    by_cases hw : HT.sIx us.toArray.size 0 l = 0 ∧ HT.sIx us.toArray.size us.toArray.size q = us.toArray.size
    · refine L2.getItem_tuple_whole it hs p1 p3 hw (h4 _ _ ρ3 I4 Kp.refl ?_)
      have : cut xs l q = xs := by
        unfold cut
        rw [← hlen, hw.1, hw.2, hlen]; simp
      rw [this]
      simp only [RV]
      exact ⟨b, us, rfl, ⟨it, itn⟩, hz, r⟩
    · refine HT.getItem_tuple_cut it hs p1 p3 hw ?_ (by rw [hlen]; exact hz)
      rw [hlen]
      obtain ⟨I5, K5⟩ := I4.kept (h' := (s3.heap.push { cls := .type "slice", data := .fields #[vl, vu, .none] }).push { cls := .type "tuple", data := .seq ((us.toArray.toList.drop (HT.sIx xs.length 0 l)).take (HT.sIx xs.length xs.length q - HT.sIx xs.length 0 l)).toArray }) (t := s3.toks) (fun b u e => Heap.get?_push_of_some _ e) (by simp)
      refine h4 _ _ ρ3 I5 K5 ?_
      simp only [RV]
      refine ⟨_, _, rfl, ⟨IsTup.new _ _, I4.S.fresh (Nat.le_refl _)⟩, Nat.le_trans (cut_le xs l q) hz, ?_⟩
      exact ((RVs.mono K5.rho K5.tups _ _ r).drop _).take _
  · rename_i i
    split at h4
    · rename_i xs ec
      obtain ⟨p, us, n, hp, _, hz, r, g⟩ := I4.S.seq ec
      obtain rfl := RV.ref_of hp r4
      have hlen := r.len
      refine tail_any (ops := [.ref s3.heap.objs.size, .ref p.1]) (T := "list") ⟨_, g, rfl⟩ slot_list_getitem.lookup ?_ (by with_unfolding_all rfl)
      refine wpAny_getItem_list_slice ⟨_, g, rfl, n, rfl⟩ hs p1 p3 .none (by simp) ?_ (by rw [List.size_toArray] <;> omega)
      rw [L2.slicePick_cut, ← hlen]
      obtain ⟨I5, K5⟩ := I4.alloc (o := { cls := .type "list", data := .seq ((us.drop (HT.sIx xs.length 0 l)).take (HT.sIx xs.length xs.length q - HT.sIx xs.length 0 l)).toArray }) (c := .lst (cut xs l q)) (t := s3.toks) rfl
        ⟨rfl, Nat.le_trans (cut_le xs l q) hz, _, 0, ((RVs.mono (RhoK.app _ _) (TupK.one fun b u e => Heap.get?_push_of_some _ e) _ _ r).drop _).take _, Heap.get?_push_size _ rfl⟩
      exact h4 _ _ _ I5 K5 ⟨_, _, nx_rho I4, rfl⟩
    · exact h4.elim
  · exact h4.elim
end
end Z

set_option Elab.async false
set_option linter.all false
set_option maxRecDepth 100000
/-! the engine, part I: calls, arguments -/
namespace Z
open PySem PySem.Spec PyProof.Rows
open L2 (frs)

def notStar : Expr → Bool
  | .Starred _ _ => false
  | _ => true
def plainEs (es : List Expr) : Bool := es.all notStar
theorem star_cons {e : Expr} {es : List Expr} {env : Env} (h : notStar e = true) : starEach (e :: es) env = (false, eval e env) :: starEach es env := by
  cases e <;> first | rfl | cases h
theorem star_plain {env : Env} {pos : Pos} : ∀ {es : List Expr}, plainEs es = true → (backTo pos (starEach es env)).any (·.1) = false
  | [], _ => rfl
  | e :: es, h => by
    simp only [plainEs, List.all_cons, Bool.and_eq_true] at h
    rw [star_cons h.1]
    show (false || (backTo pos (starEach es env)).any (·.1)) = false
    rw [star_plain (es := es) h.2]; rfl
def kwNames (kws : List Keyword) : List Str := kws.filterMap fun k => match k with | ⟨n, _, _⟩ => n
def kwAll (kws : List Keyword) : Bool := kws.all fun k => match k with | ⟨n, _, _⟩ => n.isSome
theorem kw_each {env : Env} {pos : Pos} : ∀ {kws : List Keyword}, kwAll kws = true → (backToKw pos (keywordEach kws env)).all (·.1.isSome) = true ∧ (backToKw pos (keywordEach kws env)).any (·.1.isNone) = false ∧ (backToKw pos (keywordEach kws env)).filterMap (·.1) = kwNames kws
  | [], _ => ⟨rfl, rfl, rfl⟩
  | ⟨n, e, p⟩ :: kws, h => by
    simp only [kwAll, List.all_cons, Bool.and_eq_true] at h
    obtain ⟨a, b, c⟩ := kw_each (env := env) (pos := pos) (kws := kws) h.2
    cases n with
    | none => exact absurd h.1 Bool.false_ne_true
    | some n =>
      refine ⟨?_, ?_, ?_⟩
      · show (true && (backToKw pos (keywordEach kws env)).all (·.1.isSome)) = true
        rw [a]; rfl
      · show (false || (backToKw pos (keywordEach kws env)).any (·.1.isNone)) = false
        rw [b]; rfl
      · show n :: (backToKw pos (keywordEach kws env)).filterMap (·.1) = n :: kwNames kws
        rw [c]
/-- the keeper of a call of u can be told -/
def Kpr (X : Cx) (u : Value) (h : Heap) : Prop := ∃ k, (k = Keeper.frame ∨ k = Keeper.machine ∨ k = Keeper.boundFrame) ∧ PySem.W.Looks (model X.G.P X.G.w) h (keeperOf u) k
theorem kpr_ty {X : Cx} {n : String} {h : Heap} : Kpr X (.type n) h := ⟨.machine, .inr (.inl rfl), PySem.W.Looks.now⟩
theorem kpr_blt {X : Cx} {n : String} {h : Heap} : Kpr X (.builtin n) h := ⟨.machine, .inr (.inl rfl), PySem.W.Looks.now⟩
theorem kpr_fn {X : Cx} {a : Addr} {h : Heap} {o : Obj} {fd : FuncData} (e : h.get? a = some o) (d : o.data = .func fd) : Kpr X (.ref a) h := by
  obtain ⟨oc, od, dd, sl⟩ := o
  dsimp only at d
  subst d
  exact ⟨.frame, .inl rfl, (PySem.W.Looks.ld (part := none) e).andThen .now⟩
theorem kpr_K {X : Cx} {u : Value} {h : Heap} (hk : PySem.W.keepIn X.G.K u = true) (x : X.G.K.In h) : Kpr X u h := by
  obtain ⟨k, a, b⟩ := PySem.W.looks_keep (M := model X.G.P X.G.w) hk x
  exact ⟨k, a.elim .inl (fun e => .inr (.inl e)), b⟩

section
variable {X : Cx} {σ : Sl} {m m' : Store} {ρ ρ1 ρ' : Rho} {s s1 s' : Shared} {a b c : Expr} {f g k : EV} {E : Value → Shared → Prop} {pos : Pos}
/-- keywords' values -/
structure SK (X : Cx) (kws : List Keyword) (f : LV) : Prop where
  run : ∀ (pos : Pos) σ m ρ s (Q : List Value → Shared → Prop) (E : Value → Shared → Prop), Inv X σ m ρ s → (f σ m).sat (QL X σ ρ s Q) (EP X noex σ ρ s E) → wpAny (model X.G.P X.G.w) X.A (evalAll ((backToKw pos (keywordEach kws X.env)).map (·.2))) Q E s
theorem sk_nil : SK X [] lNil := ⟨fun pos σ m ρ s Q E I h => wpAny_evalAll_nil (h [] s ρ I Kp.refl RVs.nil)⟩
theorem sk_cons {kws : List Keyword} {g : LV} {nm : Option Str} {kpos : Pos} (ha : SE X a f) (hr : SK X kws g) : SK X (⟨nm, a, kpos⟩ :: kws) (lCons f g) := by
  refine ⟨fun pos σ m ρ s Q E I h => ?_⟩
  show wpAny _ _ (evalAll ((do let v ← eval a X.env; standAt pos; pure v) :: (backToKw pos (keywordEach kws X.env)).map (·.2))) _ _ s
  refine wpAny_evalAll_cons (wpAny_bind (ha.bd I h fun v m1 u s1 ρ1 I1 K1 r1 h1 => wpAny_bind (wpAny_standAt (wpAny_pure ?_))))
  refine hr.run pos σ m1 ρ1 s1 _ E I1 ?_
  cases e : g σ m1 with
  | ok vs m2 =>
    rw [e] at h1
    exact fun us s2 ρ2 I2 K2 r2 => h1 (u :: us) s2 ρ2 I2 (K1.trans K2) (RVs.cons (RV.mono K2.rho K2.tups _ _ r1) r2)
  | exc x m2 => rw [e] at h1; exact h1
  | bad => rw [e] at h1; exact h1
theorem SK.bd {β : Type} {kws : List Keyword} {f : LV} (ha : SK X kws f) (pos : Pos) (I : Inv X σ m ρ s) {k : List D → Store → Res β} {QP : β → Store → Prop} {R : List Value → Shared → Prop} (h : ((f σ m).bind k).sat QP (EP X noex σ ρ s E))
    (c : ∀ v m1 u s1 ρ1, Inv X σ m1 ρ1 s1 → Kp X.fs noex ρ ρ1 s s1 → RVs ρ1 s1.heap v u → (k v m1).sat QP (EP X noex σ ρ1 s1 E) → R u s1) : wpAny (model X.G.P X.G.w) X.A (evalAll ((backToKw pos (keywordEach kws X.env)).map (·.2))) R E s := by
  refine ha.run pos σ m ρ s R E I ?_
  cases e : f σ m with
  | ok v m1 => rw [e] at h; exact fun u s1 ρ1 I1 K1 r1 => c v m1 u s1 ρ1 I1 K1 r1 (rel K1 h)
  | exc x m1 => rw [e] at h; exact h
  | bad => rw [e] at h; exact h
/-- a call of a value with keywords alone: the keeper is told and the call runs -/
theorem call_go0 {u : Value} {first : List Value} {kws : List Keyword} {fk : LV} {β : Type} {kk : List D → Store → Res β} {QP : β → Store → Prop} {Q : Value → Shared → Prop} (hk : kwAll kws = true)
    (hw : SK X kws fk) (I : Inv X σ m ρ s) (h : ((fk σ m).bind kk).sat QP (EP X noex σ ρ s E))
    (c : ∀ zs m2 ws s2 ρ2, Inv X σ m2 ρ2 s2 → Kp X.fs noex ρ ρ2 s s2 → RVs ρ2 s2.heap zs ws → (kk zs m2).sat QP (EP X noex σ ρ2 s2 E) → Kpr X u s2.heap ∧ wpAny (model X.G.P X.G.w) X.A (call u (first ++ []) ((kwNames kws).zip ws)) Q E s2) :
    wpAny (model X.G.P X.G.w) X.A (callWith pos u first (backTo pos (starEach [] X.env)) (backToKw pos (keywordEach kws X.env))) Q E s := by
  obtain ⟨k1, k2, k3⟩ := kw_each (env := X.env) (pos := pos) hk
  refine PySem.W.callWith_of (P := fun h => Kpr X u h) (by rw [k2]; rfl) (fun _ q => by unfold Kpr at q; exact q) ?_
  refine evalArgs_kw2_nil k1 ?_
  rw [k3]
  exact hw.bd pos I h fun zs m2 ws s2 ρ2 I2 K2 r2 h2 => c zs m2 ws s2 ρ2 I2 K2 r2 h2
/-- a call of a value with its arguments: the keeper is told and the call runs -/
theorem call_go {u : Value} {first : List Value} {e : Expr} {es : List Expr} {kws : List Keyword} {fa fk : LV} {β : Type} {kk : List D → List D → Store → Res β} {QP : β → Store → Prop} {Q : Value → Shared → Prop} (hp : plainEs (e :: es) = true) (hk : kwAll kws = true)
    (ha : SA X (e :: es) fa) (hw : SK X kws fk) (I : Inv X σ m ρ s) (h : ((fa σ m).bind fun vs m1 => (fk σ m1).bind fun zs m2 => kk vs zs m2).sat QP (EP X noex σ ρ s E))
    (c : ∀ vs zs m2 us ws s2 ρ2, Inv X σ m2 ρ2 s2 → Kp X.fs noex ρ ρ2 s s2 → RVs ρ2 s2.heap vs us → RVs ρ2 s2.heap zs ws → (kk vs zs m2).sat QP (EP X noex σ ρ2 s2 E) → Kpr X u s2.heap ∧ wpAny (model X.G.P X.G.w) X.A (call u (first ++ us) ((kwNames kws).zip ws)) Q E s2) :
    wpAny (model X.G.P X.G.w) X.A (callWith pos u first (backTo pos (starEach (e :: es) X.env)) (backToKw pos (keywordEach kws X.env))) Q E s := by
  obtain ⟨k1, k2, k3⟩ := kw_each (env := X.env) (pos := pos) hk
  refine PySem.W.callWith_of (P := fun h => Kpr X u h) (by rw [star_plain hp, k2]; rfl) (fun _ q => by unfold Kpr at q; exact q) ?_
  refine evalArgs_kw2 k1 ?_ (star_cons (by simp only [plainEs, List.all_cons, Bool.and_eq_true] at hp; exact hp.1))
  rw [k3]
  refine ha.bd pos I h fun vs m1 us s1 ρ1 I1 K1 r1 h1 => ?_
  refine hw.bd pos I1 h1 fun zs m2 ws s2 ρ2 I2 K2 r2 h2 => ?_
  exact c vs zs m2 us ws s2 ρ2 I2 (K1.trans K2) (RVs.mono K2.rho K2.tups _ _ r1) r2 h2

/-- a call by values of the callee u with keywords ks -/
structure OC (X : Cx) (u : Value) (ks : List Str) (r : List D → List D → Store → Res D) : Prop where
  keep : ∀ h, X.G.K.In h → Kpr X u h
  run : ∀ σ m ρ s (vs zs : List D) (us ws : List Value) (Q : Value → Shared → Prop) (E : Value → Shared → Prop), Inv X σ m ρ s → RVs ρ s.heap vs us → RVs ρ s.heap zs ws → (r vs zs m).sat (QE X σ ρ s Q) (EP X noex σ ρ s E) → wpAny (model X.G.P X.G.w) X.A (call u us (ks.zip ws)) Q E s
/-- positional arguments alone -/
theorem OC.of {u : Value} {r : List D → Store → Res D} (h : O1s X u r) (hk : ∀ h, X.G.K.In h → Kpr X u h) : OC X u [] fun vs _ m => r vs m :=
  ⟨hk, fun σ m ρ s vs zs us ws Q E I r1 r2 hh => by
    have : ([] : List Str).zip ws = [] := rfl
    rw [this]
    exact h.run σ m ρ s vs us Q E I r1 hh⟩
def eCall (fa fk : LV) (r : List D → List D → Store → Res D) : EV := fun σ m => (fa σ m).bind fun vs m1 => (fk σ m1).bind fun zs m2 => r vs zs m2
/-- the name x means u -/
structure Nam (X : Cx) (x : Str) (u : Value) : Prop where
  ld : ∀ σ m ρ s (pos : Pos) (Q : Value → Shared → Prop) (E : Value → Shared → Prop), Inv X σ m ρ s → Q u s → wpAny (model X.G.P X.G.w) X.A (eval (.Name x pos) X.env) Q E s
theorem nam_glob {x : Str} {u : Value} (hg : Glo X x) (hm : X.G.mg x = some u) (hd : (x == ("__debug__" : Str)) = false) : Nam X x u := ⟨fun σ m ρ s pos Q E I h => ld_glob I hg hm h hd⟩
theorem nam_blt {x : Str} {u : Value} (hg : Glo X x) (hm : X.G.mg x = none) (hv : bootBuiltins x = some u) (hn : x ≠ "__name__") (hd : (x == ("__debug__" : Str)) = false) : Nam X x u := ⟨fun σ m ρ s pos Q E I h => ld_blt I hg hm hv h hn hd⟩
theorem se_call0 {x : Str} {u : Value} {kws : List Keyword} {fk : LV} {r : List D → List D → Store → Res D} {np : Pos} (hx : Nam X x u) (hk : kwAll kws = true) (hw : SK X kws fk) (ho : OC X u (kwNames kws) r) : SE X (.Call (.Name x np) [] kws pos) (eCall lNil fk r) := by
  refine ⟨fun σ m ρ s Q E I h => ?_⟩
  refine wpAny_Call_Name_kw (hx.ld σ m ρ s np _ E I ?_)
  refine call_go0 (kk := fun zs m2 => r [] zs m2) hk hw I h fun zs m2 ws s2 ρ2 I2 K2 r2 h2 => ⟨ho.keep _ I2.kIn, ?_⟩
  exact ho.run σ m2 ρ2 s2 [] zs [] ws Q E I2 RVs.nil r2 (satE K2 h2)
theorem se_call {x : Str} {u : Value} {e : Expr} {es : List Expr} {kws : List Keyword} {fa fk : LV} {r : List D → List D → Store → Res D} {np : Pos} (hx : Nam X x u) (hp : plainEs (e :: es) = true) (hk : kwAll kws = true) (ha : SA X (e :: es) fa) (hw : SK X kws fk) (ho : OC X u (kwNames kws) r) :
    SE X (.Call (.Name x np) (e :: es) kws pos) (eCall fa fk r) := by
  refine ⟨fun σ m ρ s Q E I h => ?_⟩
  refine wpAny_Call_Name_kw (hx.ld σ m ρ s np _ E I ?_)
  refine call_go hp hk ha hw I h fun vs zs m2 us ws s2 ρ2 I2 K2 r1 r2 h2 => ⟨ho.keep _ I2.kIn, ?_⟩
  exact ho.run σ m2 ρ2 s2 vs zs us ws Q E I2 r1 r2 (satE K2 h2)
/-- a call by values of what is no constant -/
structure OV1 (X : Cx) (ks : List Str) (r : D → List D → List D → Store → Res D) : Prop where
  run : ∀ σ m ρ s (v : D) (vs zs : List D) (u : Value) (us ws : List Value) (Q : Value → Shared → Prop) (E : Value → Shared → Prop), Inv X σ m ρ s → RV ρ s.heap v u → RVs ρ s.heap vs us → RVs ρ s.heap zs ws → (r v vs zs m).sat (QE X σ ρ s Q) (EP X noex σ ρ s E) →
    Kpr X u s.heap ∧ wpAny (model X.G.P X.G.w) X.A (call u us (ks.zip ws)) Q E s
def eCallV (f : EV) (fa fk : LV) (r : D → List D → List D → Store → Res D) : EV := fun σ m => (f σ m).bind fun v m0 => (fa σ m0).bind fun vs m1 => (fk σ m1).bind fun zs m2 => r v vs zs m2
theorem se_callV0 {x : Str} {kws : List Keyword} {fk : LV} {r : D → List D → List D → Store → Res D} {np : Pos} (hx : SE X (.Name x np) f) (hk : kwAll kws = true) (hw : SK X kws fk) (ho : OV1 X (kwNames kws) r) : SE X (.Call (.Name x np) [] kws pos) (eCallV f lNil fk r) := by
  refine ⟨fun σ m ρ s Q E I h => ?_⟩
  refine wpAny_Call_Name_kw (hx.bd I h fun v m0 u s0 ρ0 I0 K0 r0 h0 => ?_)
  refine call_go0 (kk := fun zs m2 => r v [] zs m2) hk hw I0 h0 fun zs m2 ws s2 ρ2 I2 K2 r2 h2 => ?_
  exact ho.run σ m2 ρ2 s2 v [] zs u [] ws Q E I2 (RV.mono K2.rho K2.tups _ _ r0) RVs.nil r2 (satE (K0.trans K2) h2)
theorem se_callV {x : Str} {e : Expr} {es : List Expr} {kws : List Keyword} {fa fk : LV} {r : D → List D → List D → Store → Res D} {np : Pos} (hx : SE X (.Name x np) f) (hp : plainEs (e :: es) = true) (hk : kwAll kws = true) (ha : SA X (e :: es) fa) (hw : SK X kws fk) (ho : OV1 X (kwNames kws) r) :
    SE X (.Call (.Name x np) (e :: es) kws pos) (eCallV f fa fk r) := by
  refine ⟨fun σ m ρ s Q E I h => ?_⟩
  refine wpAny_Call_Name_kw (hx.bd I h fun v m0 u s0 ρ0 I0 K0 r0 h0 => ?_)
  refine call_go hp hk ha hw I0 h0 fun vs zs m2 us ws s2 ρ2 I2 K2 r1 r2 h2 => ?_
  exact ho.run σ m2 ρ2 s2 v vs zs u us ws Q E I2 (RV.mono K2.rho K2.tups _ _ r0) r1 r2 (satE (K0.trans K2) h2)
end
end Z

set_option Elab.async false
set_option linter.all false
set_option maxRecDepth 100000
/-! the engine, part J: cells that nothing reaches are forgotten -/
namespace Z
open PySem PySem.Spec PyProof.Rows
open L2 (frs)

mutual
/-- new numbers -/
def renD (t : Nat → Nat) : D → D
  | .tup vs => .tup (renDs t vs)
  | .ref i => .ref (t i)
  | .non => .non
  | .bl b => .bl b
  | .int i => .int i
  | .str x => .str x
  | .glo a => .glo a
  | .ty n => .ty n
def renDs (t : Nat → Nat) : List D → List D
  | [] => []
  | v :: vs => renD t v :: renDs t vs
end
mutual
/-- all numbers in it are such -/
def okD (p : Nat → Bool) : D → Bool
  | .tup vs => okDs p vs
  | .ref i => p i
  | _ => true
def okDs (p : Nat → Bool) : List D → Bool
  | [] => true
  | v :: vs => okD p v && okDs p vs
end
mutual
theorem okD_imp {p q : Nat → Bool} (h : ∀ i, p i = true → q i = true) : ∀ v : D, okD p v = true → okD q v = true
  | .non, _ => rfl
  | .bl _, _ => rfl
  | .int _, _ => rfl
  | .str _, _ => rfl
  | .glo _, _ => rfl
  | .ty _, _ => rfl
  | .ref i, o => h i o
  | .tup vs, o => by
    simp only [okD] at o ⊢
    exact okDs_imp h vs o
theorem okDs_imp {p q : Nat → Bool} (h : ∀ i, p i = true → q i = true) : ∀ vs : List D, okDs p vs = true → okDs q vs = true
  | [], _ => rfl
  | v :: vs, o => by
    simp only [okDs, Bool.and_eq_true] at o ⊢
    exact ⟨okD_imp h v o.1, okDs_imp h vs o.2⟩
end
theorem renDs_map (t : Nat → Nat) : ∀ vs, renDs t vs = vs.map (renD t)
  | [] => rfl
  | v :: vs => by simp only [renDs, List.map_cons, renDs_map t vs]
theorem renDs_len (t : Nat → Nat) (vs : List D) : (renDs t vs).length = vs.length := by rw [renDs_map, List.length_map]
section
variable {ρ ρ2 : Rho} {h : Heap} {p : Nat → Bool} {t : Nat → Nat}
def Mv (ρ ρ2 : Rho) (p : Nat → Bool) (t : Nat → Nat) : Prop := (∀ (i : Nat) q, p i = true → ρ[i]? = some q → ρ2[t i]? = some q) ∧ ∀ x ∈ ρ2, x ∈ ρ
mutual
theorem ren_rv (hm : Mv ρ ρ2 p t) : ∀ (v : D) (u : Value), okD p v = true → RV ρ h v u → RV ρ2 h (renD t v) u
  | .non, _, _, x => x
  | .bl _, _, _, x => x
  | .int _, _, _, x => x
  | .str _, _, _, x => x
  | .glo _, _, _, x => x
  | .ty _, _, _, x => x
  | .ref i, u, o, x => by
    simp only [RV, renD] at x ⊢
    obtain ⟨a, d, e, q⟩ := x
    exact ⟨a, d, hm.1 _ _ o e, q⟩
  | .tup vs, u, o, x => by
    simp only [RV, renD] at x ⊢
    obtain ⟨a, us, e, it, z, y⟩ := x
    exact ⟨a, us, e, ⟨it.1, fun p hp => it.2 p (hm.2 p hp)⟩, by rw [renDs_len]; exact z, ren_rvs hm vs us o y⟩
theorem ren_rvs (hm : Mv ρ ρ2 p t) : ∀ (vs : List D) (us : List Value), okDs p vs = true → RVs ρ h vs us → RVs ρ2 h (renDs t vs) us
  | [], _, _, x => x
  | v :: vs, us, o, x => by
    simp only [RVs, renDs, okDs, Bool.and_eq_true] at o x ⊢
    obtain ⟨u, q, e, y, z⟩ := x
    exact ⟨u, q, e, ren_rv hm v u o.1 y, ren_rvs hm vs q o.2 z⟩
end
mutual
theorem rv_ok {n : Nat} (hn : ρ.length = n) : ∀ (v : D) (u : Value), RV ρ h v u → okD (fun i => decide (i < n)) v = true
  | .non, _, _ => rfl
  | .bl _, _, _ => rfl
  | .int _, _, _ => rfl
  | .str _, _, _ => rfl
  | .glo _, _, _ => rfl
  | .ty _, _, _ => rfl
  | .ref i, u, x => by
    simp only [RV] at x
    obtain ⟨a, d, e, q⟩ := x
    have := (List.getElem?_eq_some_iff.mp e).1
    simp only [okD, decide_eq_true_eq]; omega
  | .tup vs, u, x => by
    simp only [RV] at x
    obtain ⟨a, us, e, it, z, y⟩ := x
    simp only [okD]
    exact rvs_ok hn vs us y
theorem rvs_ok {n : Nat} (hn : ρ.length = n) : ∀ (vs : List D) (us : List Value), RVs ρ h vs us → okDs (fun i => decide (i < n)) vs = true
  | [], _, _ => rfl
  | v :: vs, us, x => by
    simp only [RVs] at x
    obtain ⟨u, q, e, y, z⟩ := x
    simp only [okDs, rv_ok hn v u y, rvs_ok hn vs q z]; rfl
end
mutual
theorem ren_id {n : Nat} (ht : ∀ i, i < n → t i = i) : ∀ (v : D), okD (fun i => decide (i < n)) v = true → renD t v = v
  | .non, _ => rfl
  | .bl _, _ => rfl
  | .int _, _ => rfl
  | .str _, _ => rfl
  | .glo _, _ => rfl
  | .ty _, _ => rfl
  | .ref i, o => by
    simp only [okD, decide_eq_true_eq] at o
    simp only [renD, ht i o]
  | .tup vs, o => by
    simp only [okD] at o
    simp only [renD, rens_id ht vs o]
theorem rens_id {n : Nat} (ht : ∀ i, i < n → t i = i) : ∀ (vs : List D), okDs (fun i => decide (i < n)) vs = true → renDs t vs = vs
  | [], _ => rfl
  | v :: vs, o => by
    simp only [okDs, Bool.and_eq_true] at o
    simp only [renDs, ren_id ht v o.1, rens_id ht vs o.2]
end
mutual
theorem nk_ren : ∀ v : D, nk (renD t v) = nk v
  | .non => rfl
  | .bl _ => rfl
  | .int _ => rfl
  | .str _ => rfl
  | .glo _ => rfl
  | .ty _ => rfl
  | .ref i => rfl
  | .tup vs => by simp only [renD, nk, nks_ren vs]
theorem nks_ren : ∀ vs : List D, nks (renDs t vs) = nks vs
  | [] => rfl
  | v :: vs => by simp only [renDs, nks, nk_ren v, nks_ren vs]
end
theorem lk_ren (v : D) : lk (renD t v) = lk v := by cases v <;> rfl
end
def renP (t : Nat → Nat) (p : D × D) : D × D := (renD t p.1, renD t p.2)
def renC (t : Nat → Nat) : Cel → Cel
  | .lst vs => .lst (renDs t vs)
  | .frz vs => .frz (renDs t vs)
  | .dct kvs => .dct (kvs.map (renP t))
  | .box v => .box (v.map (renD t))
  | .clo l cs => .clo l (cs.map t)
  | .exc C ns vs => .exc C ns (renDs t vs)
  | .tbl l => .tbl l
  | .zb => .zb
  | .zd => .zd
def okC (p : Nat → Bool) : Cel → Bool
  | .lst vs => okDs p vs
  | .frz vs => okDs p vs
  | .dct kvs => kvs.all fun x => okD p x.1 && okD p x.2
  | .box none => true
  | .box (some v) => okD p v
  | .clo _ cs => cs.all p
  | .exc _ _ vs => okDs p vs
  | .tbl _ => true
  | .zb => true
  | .zd => true
theorem renC_wr (t : Nat → Nat) (c : Cel) : (renC t c).wr = c.wr := by cases c <;> rfl
theorem Paired.mapL {α β γ : Type} {R : α → β → Prop} {S : γ → β → Prop} {f : α → γ} {l : List α} {l' : List β} (h : Paired R l l') (e : ∀ a b, a ∈ l → R a b → S (f a) b) : Paired S (l.map f) l' := by
  induction h with
  | nil => exact .nil
  | cons r _ ih => exact .cons (e _ _ (.head _) r) (ih fun a b hm => e a b (.tail _ hm))
theorem Paired.mapR {α β γ : Type} {R : α → β → Prop} {S : α → γ → Prop} {f : β → γ} {l : List α} {l' : List β} (h : Paired R l l') (e : ∀ a b, b ∈ l' → R a b → S a (f b)) : Paired S l (l'.map f) := by
  induction h with
  | nil => exact .nil
  | cons r _ ih => exact .cons (e _ _ (.head _) r) (ih fun a b hm => e a b (.tail _ hm))
section
variable {G : Gl} {ρ ρ2 : Rho} {h : Heap} {p : Nat → Bool} {t : Nat → Nat} {q : Addr × Addr}
theorem ren_cel (hm : Mv ρ ρ2 p t) {c : Cel} (o : okC p c = true) (x : CelOk G ρ h q c) : CelOk G ρ2 h q (renC t c) := by
  cases c with
  | lst vs => obtain ⟨e, z, us, n, y, g⟩ := x; exact ⟨e, by rw [renDs_len]; exact z, us, n, ren_rvs hm _ _ o y, g⟩
  | frz vs => obtain ⟨e, z, us, n, y, g⟩ := x; exact ⟨e, by rw [renDs_len]; exact z, us, n, ren_rvs hm _ _ o y, g⟩
  | dct kvs =>
    obtain ⟨e, z, y, g⟩ := x
    have o' : ∀ x ∈ kvs, okD p x.1 = true ∧ okD p x.2 = true := fun x hx => by
      have := List.all_eq_true.mp o x hx
      rwa [Bool.and_eq_true] at this
    refine ⟨e, by rw [List.length_map]; exact z, y, ?_⟩
    rcases g with ⟨ys, d, f⟩ | ⟨xs, d, f⟩
    · exact .inl ⟨ys, d, Paired.mapL f fun a b ha r => ⟨(lk_ren _).trans r.1, ren_rv hm _ _ (o' a ha).2 r.2⟩⟩
    · exact .inr ⟨xs, d, Paired.mapL f fun a b ha r => ⟨(nk_ren _).trans r.1, ren_rv hm _ _ (o' a ha).1 r.2.1, ren_rv hm _ _ (o' a ha).2 r.2.2⟩⟩
  | box v =>
    obtain ⟨e, y⟩ := x
    cases v with
    | none => exact ⟨e, y⟩
    | some d => obtain ⟨u, g, r⟩ := y; exact ⟨e, u, g, ren_rv hm _ _ o r⟩
  | clo l cs =>
    obtain ⟨e, pm, c', ctv, cl, g, k, m, y⟩ := x
    exact ⟨e, pm, c', ctv, cl, g, k, m, Paired.mapR y fun a b hb ⟨d, z, zz⟩ => ⟨d, hm.1 _ _ (List.all_eq_true.mp o b hb) z, zz⟩⟩
  | exc C ns vs =>
    obtain ⟨ob, g, c, f, y⟩ := x
    refine ⟨ob, g, c, f, ?_⟩
    rcases y with ⟨y1, y2, y3, y4⟩ | ⟨y1, y2, us, y3, y4, y5⟩
    · subst y2; exact .inl ⟨y1, rfl, y3, y4⟩
    · exact .inr ⟨y1, y2, us, ren_rvs hm _ _ o y3, by rw [renDs_len]; exact y4, y5⟩
  | tbl l => exact x
  | zb => exact x
  | zd => exact x
theorem cel_ok {n : Nat} (hn : ρ.length = n) {c : Cel} (x : CelOk G ρ h q c) : okC (fun i => decide (i < n)) c = true := by
  cases c with
  | lst vs => obtain ⟨e, z, us, m, y, g⟩ := x; exact rvs_ok hn _ _ y
  | frz vs => obtain ⟨e, z, us, m, y, g⟩ := x; exact rvs_ok hn _ _ y
  | dct kvs =>
    obtain ⟨e, z, y, g⟩ := x
    refine List.all_eq_true.mpr fun x hx => ?_
    rw [Bool.and_eq_true]
    rcases g with ⟨ys, d, f⟩ | ⟨xs, d, f⟩
    · have : ∀ x ∈ kvs, okD (fun i => decide (i < n)) x.1 = true ∧ okD (fun i => decide (i < n)) x.2 = true := by
        clear hx
        clear d z
        induction f with
        | nil => intro x hx; cases hx
        | @cons a b l l' r _ ih =>
          intro x hx
          rcases List.mem_cons.mp hx with rfl | hx
          · refine ⟨?_, rv_ok hn _ _ r.2⟩
            have r1 := r.1
            cases e : x.1 with
            | tup _ => rw [e] at r1; cases r1
            | ref _ => rw [e] at r1; cases r1
            | _ => rfl
          · exact ih x hx
      exact this x hx
    · have : ∀ x ∈ kvs, okD (fun i => decide (i < n)) x.1 = true ∧ okD (fun i => decide (i < n)) x.2 = true := by
        clear hx
        clear d z
        induction f with
        | nil => intro x hx; cases hx
        | @cons a b l l' r _ ih =>
          intro x hx
          rcases List.mem_cons.mp hx with rfl | hx
          · exact ⟨rv_ok hn _ _ r.2.1, rv_ok hn _ _ r.2.2⟩
          · exact ih x hx
      exact this x hx
  | box v =>
    obtain ⟨e, y⟩ := x
    cases v with
    | none => rfl
    | some d => obtain ⟨u, g, r⟩ := y; exact rv_ok hn _ _ r
  | clo l cs =>
    obtain ⟨e, pm, c', ctv, cl, g, k, m, y⟩ := x
    refine List.all_eq_true.mpr fun i hi => ?_
    clear m g
    induction y with
    | nil => cases hi
    | cons r _ ih =>
      rcases List.mem_cons.mp hi with rfl | hi
      · obtain ⟨d, z, _⟩ := r
        have := (List.getElem?_eq_some_iff.mp z).1
        simp only [decide_eq_true_eq]; omega
      · exact ih hi
  | exc C ns vs =>
    obtain ⟨ob, g, c, f, y⟩ := x
    rcases y with ⟨y1, y2, y3, y4⟩ | ⟨y1, y2, us, y3, y4, y5⟩
    · subst y2; rfl
    · exact rvs_ok hn _ _ y3
  | tbl l => rfl
  | zb => rfl
  | zd => rfl
theorem renC_id {n : Nat} (ht : ∀ i, i < n → t i = i) (c : Cel) (o : okC (fun i => decide (i < n)) c = true) : renC t c = c := by
  cases c with
  | lst vs => simp only [renC, rens_id ht vs o]
  | frz vs => simp only [renC, rens_id ht vs o]
  | dct kvs =>
    have o' : ∀ x ∈ kvs, renP t x = x := fun x hx => by
      have := List.all_eq_true.mp o x hx
      rw [Bool.and_eq_true] at this
      unfold renP
      rw [ren_id ht _ this.1, ren_id ht _ this.2]
    simp only [renC]
    congr 1
    exact (List.map_congr_left o').trans (List.map_id _)
  | box v =>
    cases v with
    | none => rfl
    | some d => simp only [renC, Option.map_some, ren_id ht d o]
  | clo l cs =>
    have : cs.map t = cs := by
      refine (List.map_congr_left fun i hi => ?_).trans (List.map_id _)
      have := List.all_eq_true.mp o i hi
      simp only [decide_eq_true_eq] at this
      exact ht i this
    simp only [renC, this]
  | exc C ns vs => simp only [renC, rens_id ht vs o]
  | tbl l => rfl
  | zb => rfl
  | zd => rfl
end

/-! ### what is reached -/
def Cel.refs : Cel → List D
  | .lst vs => vs
  | .frz vs => vs
  | .dct kvs => kvs.map (·.1) ++ kvs.map (·.2)
  | .box none => []
  | .box (some v) => [v]
  | .clo _ cs => cs.map .ref
  | .exc _ _ vs => vs
  | .tbl _ => []
  | .zb => []
  | .zd => []
def reach (cs : List Cel) (n : Nat) : Nat → List D → List Nat → List Nat
  | 0, _, acc => acc
  | _ + 1, [], acc => acc
  | f + 1, v :: w, acc => match v with
    | .ref i => if (decide (i < n) || acc.contains i) = true then reach cs n f w acc else reach cs n f ((match cs[i]? with | some c => c.refs | none => []) ++ w) (acc ++ [i])
    | .tup vs => reach cs n f (vs ++ w) acc
    | _ => reach cs n f w acc
def idx (i : Nat) : List Nat → Nat
  | [] => 0
  | j :: r => if i = j then 0 else idx i r + 1
theorem idx_get {i : Nat} : ∀ {l : List Nat}, i ∈ l → l[idx i l]? = some i
  | [], h => by cases h
  | j :: r, h => by
    unfold idx
    by_cases e : i = j
    · subst e; simp
    · rw [if_neg e]
      rcases List.mem_cons.mp h with h | h
      · exact absurd h e
      · simpa using idx_get h
def nds : List Nat → Bool
  | [] => true
  | i :: r => !r.contains i && nds r
theorem nds_ok : ∀ {l : List Nat}, nds l = true → l.Nodup
  | [], _ => List.nodup_nil
  | i :: r, h => by
    simp only [nds, Bool.and_eq_true, Bool.not_eq_true', List.contains_eq_mem, decide_eq_false_iff_not] at h
    exact List.nodup_cons.mpr ⟨h.1, nds_ok h.2⟩
/-- numbers kept: the old ones and those of sel -/
def kept (n : Nat) (sel : List Nat) (i : Nat) : Bool := decide (i < n) || sel.contains i
def tau (n : Nat) (sel : List Nat) (i : Nat) : Nat := if i < n then i else n + idx i sel
def gcOk (n : Nat) (cs mid : List Cel) (sel : List Nat) (vs : List D) : Bool :=
  nds sel && (sel.all fun i => decide (n ≤ i) && (match cs[i]? with | some c => okC (kept n sel) c | none => false)) && (mid.all (okC (kept n sel))) && okDs (kept n sel) vs
/-- behind a call: n the cells at the entry, lo what was not written ahead of it -/
def gcS (n lo : Nat) (vs : List D) (m1 : Store) : List D × Store :=
  let mid := (m1.cs.take n).drop m1.low
  let sel := reach m1.cs n 100000 (vs ++ (mid.map Cel.refs).flatten) []
  if gcOk n m1.cs mid sel vs = true then
    (renDs (tau n sel) vs, ⟨(m1.cs.take n).take m1.low ++ mid.map (renC (tau n sel)) ++ sel.map (fun i => renC (tau n sel) ((m1.cs[i]?).getD (.tbl 0))), min lo m1.low⟩)
  else (vs, ⟨m1.cs, min lo m1.low⟩)
structure LowK (m m' : Store) : Prop where
  le : m'.low ≤ m.low
  lt : m'.low ≤ m'.cs.length
  eq : ∀ i, i < m'.low → m'.cs[i]? = m.cs[i]?
section
variable {G : Gl} {stk : List Env} {m m1 : Store} {ρ : Rho} {s s1 : Shared}
theorem gc_ok {l : Rho} {vs : List D} {us : List Value} (S : SInv G stk m ρ s) (S1 : SInv G stk m1 (ρ ++ l) s1) (low : ∀ i, i < m1.low → m1.cs[i]? = m.cs[i]?) (lt : m1.low ≤ m1.cs.length) (mlow : m.low ≤ m.cs.length) (r : RVs (ρ ++ l) s1.heap vs us) :
    ∃ l2 : Rho, (∀ p ∈ l2, p ∈ l) ∧ SInv G stk (gcS m.cs.length m.low vs m1).2 (ρ ++ l2) s1 ∧ RVs (ρ ++ l2) s1.heap (gcS m.cs.length m.low vs m1).1 us ∧ LowK m (gcS m.cs.length m.low vs m1).2 := by
  have hlen : m.cs.length ≤ m1.cs.length := by rw [← S.len, ← S1.len, List.length_append]; omega
  unfold gcS
  dsimp only
  generalize hn : m.cs.length = n
  rw [hn] at hlen
  have hρ : ρ.length = n := by rw [S.len, hn]
  generalize reach m1.cs n 100000 (vs ++ ((List.map Cel.refs (List.drop m1.low (List.take n m1.cs))).flatten)) [] = sel
  split
  · rename_i hg
    simp only [gcOk, Bool.and_eq_true] at hg
    obtain ⟨⟨⟨g1, g2⟩, g3⟩, g4⟩ := hg
    have nd := nds_ok g1
    have gs : ∀ i ∈ sel, n ≤ i ∧ ∃ c, m1.cs[i]? = some c ∧ okC (kept n sel) c = true := fun i hi => by
      have h := List.all_eq_true.mp g2 i hi
      rw [Bool.and_eq_true, decide_eq_true_eq] at h
      refine ⟨h.1, ?_⟩
      have h2 := h.2
      split at h2
      · rename_i c e; exact ⟨c, e, h2⟩
      · cases h2
    obtain ⟨l2, hl2⟩ : ∃ l2 : Rho, l2 = sel.map fun i => ((ρ ++ l)[i]?).getD (0, 0) := ⟨_, rfl⟩
    have l2len : l2.length = sel.length := by rw [hl2, List.length_map]
    have at2 : ∀ {k : Nat} {p : Addr × Addr}, l2[k]? = some p → ∃ i, sel[k]? = some i ∧ (ρ ++ l)[i]? = some p := fun {k p} e => by
      rw [hl2, List.getElem?_map] at e
      cases q : sel[k]? with
      | none => rw [q] at e; cases e
      | some i =>
        rw [q] at e
        refine ⟨i, rfl, ?_⟩
        obtain ⟨_, c, hc, _⟩ := gs i (List.mem_of_getElem? q)
        obtain ⟨p', hp', _⟩ := S1.at hc
        simp only [Option.map_some, hp', Option.getD_some, Option.some.injEq] at e
        rw [hp', e]
    have inl : ∀ p ∈ l2, p ∈ l := fun p hp => by
      obtain ⟨k, hk⟩ := List.mem_iff_getElem?.mp hp
      obtain ⟨i, hi, e⟩ := at2 hk
      have := (gs i (List.mem_of_getElem? hi)).1
      rw [List.getElem?_append_right (by omega)] at e
      exact List.mem_of_getElem? e
    have mv : Mv (ρ ++ l) (ρ ++ l2) (kept n sel) (tau n sel) := ⟨fun i q hk e => by
      unfold tau
      by_cases h : i < n
      · rw [if_pos h]
        rw [List.getElem?_append_left (by omega)] at e ⊢
        exact e
      · rw [if_neg h, List.getElem?_append_right (by omega)]
        simp only [kept, h, decide_false, Bool.false_or, List.contains_eq_mem, decide_eq_true_eq] at hk
        have e1 : n + idx i sel - ρ.length = idx i sel := by omega
        rw [e1, hl2, List.getElem?_map, idx_get hk]
        simp only [Option.map_some, e, Option.getD_some], fun p hp => by
      rcases List.mem_append.mp hp with h | h
      · exact List.mem_append_left _ h
      · exact List.mem_append_right _ (inl p h)⟩
    have t0 : ∀ i, i < n → tau n sel i = i := fun i h => by unfold tau; rw [if_pos h]
    have k0 : ∀ i, decide (i < n) = true → kept n sel i = true := fun i h => by unfold kept; rw [h]; rfl
    obtain ⟨cs2, hcs⟩ : ∃ cs2, cs2 = (m1.cs.take n).take m1.low ++ ((m1.cs.take n).drop m1.low).map (renC (tau n sel)) ++ sel.map (fun i => renC (tau n sel) ((m1.cs[i]?).getD (.tbl 0))) := ⟨_, rfl⟩
    have hpre : ((m1.cs.take n).take m1.low ++ ((m1.cs.take n).drop m1.low).map (renC (tau n sel))).length = n := by
      rw [List.length_append, List.length_map, ← List.length_append, List.take_append_drop, List.length_take]; omega
    -- a new cell and where it was
    have src : ∀ {k : Nat} {p : Addr × Addr} {c : Cel}, (ρ ++ l2)[k]? = some p → cs2[k]? = some c → ∃ j c1, (ρ ++ l)[j]? = some p ∧ m1.cs[j]? = some c1 ∧ c.wr = c1.wr ∧ CelOk G (ρ ++ l2) s1.heap p c ∧ ((k < n ∧ j = k) ∨ (n ≤ k ∧ sel[k - n]? = some j)) := fun {k p c} e1 e2 => by
      by_cases h : k < n
      · rw [List.getElem?_append_left (by omega)] at e1
        have e1' : (ρ ++ l)[k]? = some p := by rw [List.getElem?_append_left (by omega)]; exact e1
        rw [hcs, List.getElem?_append_left (by omega)] at e2
        by_cases hlo : k < m1.low
        · rw [List.getElem?_append_left (by rw [List.length_take, List.length_take]; omega), List.getElem?_take_of_lt hlo, List.getElem?_take_of_lt h] at e2
          have ck := S1.cel k p c e1' e2
          have e0 : m.cs[k]? = some c := (low k hlo).symm.trans e2
          have ok0 := cel_ok hρ (S.cel k p c e1 e0)
          have ok1 : okC (kept n sel) c = true := by
            have := renC_id t0 c ok0
            clear this
            revert ok0
            clear e2 ck e0
            have impD : ∀ v : D, okD (fun i => decide (i < n)) v = true → okD (kept n sel) v = true := okD_imp k0
            have impDs : ∀ v : List D, okDs (fun i => decide (i < n)) v = true → okDs (kept n sel) v = true := okDs_imp k0
            intro ok0
            cases c with
            | lst vs => exact impDs _ ok0
            | frz vs => exact impDs _ ok0
            | dct kvs =>
              refine List.all_eq_true.mpr fun x hx => ?_
              have := List.all_eq_true.mp ok0 x hx
              rw [Bool.and_eq_true] at this ⊢
              exact ⟨impD _ this.1, impD _ this.2⟩
            | box v =>
              cases v with
              | none => rfl
              | some d => exact impD _ ok0
            | clo l cs => exact List.all_eq_true.mpr fun x hx => k0 _ (List.all_eq_true.mp ok0 x hx)
            | exc C ns vs => exact impDs _ ok0
            | tbl l => rfl
            | zb => rfl
            | zd => rfl
          have := ren_cel mv ok1 ck
          rw [renC_id t0 c ok0] at this
          exact ⟨k, c, e1', e2, rfl, this, .inl ⟨h, rfl⟩⟩
        · rw [List.getElem?_append_right (by rw [List.length_take, List.length_take]; omega), List.getElem?_map] at e2
          have e3 : ((m1.cs.take n).drop m1.low)[k - ((m1.cs.take n).take m1.low).length]? = m1.cs[k]? := by
            rw [List.getElem?_drop, List.length_take, List.length_take, List.getElem?_take_of_lt (by omega)]
            congr 1
            omega
          cases q : m1.cs[k]? with
          | none => rw [e3, q] at e2; cases e2
          | some c1 =>
            rw [e3, q] at e2
            simp only [Option.map_some, Option.some.injEq] at e2
            subst e2
            have ck := S1.cel k p c1 e1' q
            have hm : c1 ∈ (m1.cs.take n).drop m1.low := List.mem_of_getElem? (e3.trans q)
            have ok1 := List.all_eq_true.mp g3 c1 hm
            exact ⟨k, c1, e1', q, renC_wr _ _, ren_cel mv ok1 ck, .inl ⟨h, rfl⟩⟩
      · rw [List.getElem?_append_right (by omega), hρ] at e1
        obtain ⟨i, hi, ei⟩ := at2 e1
        obtain ⟨_, c1, hc1, ok1⟩ := gs i (List.mem_of_getElem? hi)
        rw [hcs, List.getElem?_append_right (by omega), hpre, List.getElem?_map, hi] at e2
        simp only [Option.map_some, hc1, Option.getD_some, Option.some.injEq] at e2
        subst e2
        exact ⟨i, c1, ei, hc1, renC_wr _ _, ren_cel mv ok1 (S1.cel i p c1 ei hc1), .inr ⟨by omega, hi⟩⟩
    have len2 : (ρ ++ l2).length = cs2.length := by
      rw [hcs, List.length_append, List.length_append (as := _ ++ _), hpre, List.length_map, hρ, l2len]
    have cl2 : ∀ {k : Nat} {p : Addr × Addr}, (ρ ++ l2)[k]? = some p → ∃ c, cs2[k]? = some c := fun {k p} e => by
      have := (List.getElem?_eq_some_iff.mp e).1
      exact ⟨_, List.getElem?_eq_getElem (by omega)⟩
    have inρ : ∀ p ∈ ρ ++ l2, p ∈ ρ ++ l := fun p hp => by
      rcases List.mem_append.mp hp with h | h
      · exact List.mem_append_left _ h
      · exact List.mem_append_right _ (inl p h)
    rw [← hcs]
    refine ⟨l2, inl, ⟨S1.os, S1.bare, S1.base, fun k p c e1 e2 hw => ?_, S1.funs, fun b hb p hp => S1.frn b hb p (inρ p hp), len2, fun i j p q ne e1 e2 => ?_, fun k p c e1 e2 => ?_⟩, ren_rvs mv _ _ g4 r, ⟨Nat.min_le_left _ _, ?_, fun i hi => ?_⟩⟩
    · obtain ⟨j, c1, h1, h2, h3, _⟩ := src e1 e2
      exact S1.nbase j p c1 h1 h2 (by rw [← h3]; exact hw)
    · obtain ⟨c, hc⟩ := cl2 e1
      obtain ⟨d, hd⟩ := cl2 e2
      obtain ⟨i', c1, h1, h2, _, _, h3⟩ := src e1 hc
      obtain ⟨j', d1, h4, h5, _, _, h6⟩ := src e2 hd
      refine S1.disj i' j' p q (fun z => ne ?_) h1 h4
      subst z
      rcases h3 with ⟨a1, a2⟩ | ⟨a1, a2⟩
      · rcases h6 with ⟨b1, b2⟩ | ⟨b1, b2⟩
        · omega
        · have := (gs i' (List.mem_of_getElem? b2)).1; omega
      · rcases h6 with ⟨b1, b2⟩ | ⟨b1, b2⟩
        · have := (gs i' (List.mem_of_getElem? a2)).1; omega
        · have hk1 := (List.getElem?_eq_some_iff.mp a2).1
          have := (List.getElem?_inj hk1 nd).mp (a2.trans b2.symm)
          omega
    · obtain ⟨j, c1, _, _, _, h, _⟩ := src e1 e2
      exact h
    · show min m.low m1.low ≤ cs2.length
      rw [← len2, List.length_append, hρ]
      omega
    · have hi : i < min m.low m1.low := hi
      show cs2[i]? = m.cs[i]?
      rw [hcs, List.getElem?_append_left (by rw [hpre]; omega), List.getElem?_append_left (by rw [List.length_take, List.length_take]; omega), List.getElem?_take_of_lt (by omega), List.getElem?_take_of_lt (by omega)]
      exact low i (by omega)
  · refine ⟨l, fun _ h => h, ?_, r, ?_⟩
    · exact ⟨S1.os, S1.bare, S1.base, S1.nbase, S1.funs, S1.frn, S1.len, S1.disj, S1.cel⟩
    · exact ⟨Nat.min_le_left _ _, Nat.le_trans (Nat.min_le_right _ _) lt, fun i hi => low i (Nat.lt_of_lt_of_le hi (Nat.min_le_right _ _))⟩
end
end Z

set_option Elab.async false
set_option linter.all false
set_option maxRecDepth 100000
/-! the engine, part K: a def is entered and left -/
namespace Z
open PySem PySem.Spec PyProof.Rows
open L2 (frs)

/-- behind a call that let an exception out -/
def Out (G : Gl) (stk : List Env) (m' : Store) (ρ : Rho) (s : Shared) (x : Ex) (u : Value) (s' : Shared) : Prop :=
  ∃ (a : Addr) (B : Heap) (sI : Shared) (ρ' : Rho) (d : Option Addr), u = .ref a ∧ SInv G stk m' ρ' sI ∧ Kp (frs stk) noex ρ ρ' s sI ∧ (∀ b o, sI.heap.get? b = some o → b ∉ frs stk → B.get? b = some o) ∧ sI.heap.UpToSlots s'.heap ∧ sI.heap.objs.size ≤ s'.heap.objs.size ∧
    HandSPX.FlyingZ B stk a (L2.Zc (.ref x.C) d) s'.heap ∧ s'.os = sI.os ∧ AllBare s'.gens ∧ s.heap.objs.size ≤ a ∧ NotIn ρ' a ∧ ExF s.heap.objs.size (frs stk) sI.heap ρ' d x
abbrev RQ (G : Gl) (stk : List Env) (m : Store) (ρ : Rho) (s : Shared) (Q : Value → Shared → Prop) : D → Store → Prop := fun v m' => ∀ u s' ρ', SInv G stk m' ρ' s' → Kp (frs stk) noex ρ ρ' s s' → RV ρ' s'.heap v u → LowK m m' → Q u s'
abbrev RE (G : Gl) (stk : List Env) (m : Store) (ρ : Rho) (s : Shared) (E : Value → Shared → Prop) : Ex → Store → Prop := fun x m' => ∀ u s', Out G stk m' ρ s x u s' → LowK m m' → E u s'
def CRz (Q : Value → Shared → Prop) (E : Value → Shared → Prop) (r : Result) (s' : Shared) : Prop :=
  match r with
  | .ok (.ret u) => Q u s'
  | .ok _ => False
  | .error e => E e s'
/-- what a def means: its arguments in the parameters' order -/
structure FnZ (G : Gl) (k : Nat) (f : Addr) (fd : FuncData) (ps : List Str) (r : List D → Store → Res D) : Prop where
  run : ∀ (A : Around) (stk : List Env) (s : Shared) (m : Store) (ρ : Rho) (args : Args) (us : List Value) (vs : List D) (Q : Value → Shared → Prop) (E : Value → Shared → Prop), L2.Room k A → A.frames = some stk → SInv G stk m ρ s → m.low ≤ m.cs.length →
    BindsTo s fd args (ps.zip us) → us.length = ps.length → RVs ρ s.heap vs us → (r vs m).sat (RQ G stk m ρ s Q) (RE G stk m ρ s E) → codeAny (model G.P G.w) A (.call (.ref f) args) (CRz Q E) s
theorem FnZ.mono {G : Gl} {j k : Nat} {f : Addr} {fd : FuncData} {ps : List Str} {r : List D → Store → Res D} (F : FnZ G j f fd ps r) (h : j ≤ k) : FnZ G k f fd ps r :=
  ⟨fun A stk s m ρ args us vs Q E hr => F.run A stk s m ρ args us vs Q E (hr.mono h)⟩

/-! ### at the exit -/
section
variable {X : Cx} {outer : List Env} {s s1 s' : Shared} {ρ bx ρ' : Rho} {m m' : Store} {σ : Sl}
/-- the entry of a frame -/
structure Ent (X : Cx) (outer : List Env) (m : Store) (ρ bx : Rho) (s s1 : Shared) : Prop where
  stk : X.stk = X.env :: outer
  fr : X.env.frame = some X.env.locals
  S : SInv X.G outer m ρ s
  keep : ∀ b o, s.heap.get? b = some o → s1.heap.get? b = some o
  sz : s.heap.objs.size ≤ s1.heap.objs.size
  fresh : ∀ p ∈ bx, s.heap.objs.size ≤ p.1 ∧ s.heap.objs.size ≤ p.2
  loc : s.heap.objs.size ≤ X.env.locals
  wr : ∀ b, X.wr b → s.heap.objs.size ≤ b
theorem Ent.fs (e : Ent X outer m ρ bx s s1) : X.fs = X.env.locals :: frs outer := by
  show frs X.stk = _
  rw [e.stk]
  unfold frs
  rw [List.filterMap_cons, e.fr]
theorem Ent.kp (e : Ent X outer m ρ bx s s1) (K : Kp X.fs X.wr (ρ ++ bx) ρ' s1 s') : Kp (frs outer) noex ρ ρ' s s' := by
  have K0 : Kp (frs outer) noex ρ (ρ ++ bx) s s1 := Kp.all e.keep e.sz e.fresh
  have nw : ∀ b o, s.heap.get? b = some o → ¬ X.wr b := fun b o h w => absurd (Nat.lt_of_lt_of_le (Heap.lt_size h) (e.wr b w)) (Nat.lt_irrefl _)
  obtain ⟨l, h1, h2⟩ := id K.sub
  refine ⟨⟨bx ++ l, by rw [h1, List.append_assoc], fun p hp => ?_⟩, Nat.le_trans e.sz K.sz, K0.tups.trans K.tups, fun cv q c => K.codes _ _ (K0.codes _ _ c), fun b o h n _ hf => ?_, fun b o h n _ => K.slot b o (e.keep b o h) (K0.stays h n) (nw b o h)⟩
  · rcases List.mem_append.mp hp with q | q
    · exact e.fresh p q
    · exact ⟨Nat.le_trans e.sz (h2 p q).1, Nat.le_trans e.sz (h2 p q).2⟩
  · refine K.keep b o (e.keep b o h) (K0.stays h n) (nw b o h) fun hm => ?_
    rw [e.fs] at hm
    rcases List.mem_cons.mp hm with q | q
    · subst q
      exact absurd (Nat.lt_of_lt_of_le (Heap.lt_size h) e.loc) (Nat.lt_irrefl _)
    · exact hf q
theorem SInv.drop {G : Gl} {env : Env} (S : SInv G (env :: outer) m ρ s) : SInv G outer m ρ s := by
  obtain ⟨_, ⟨L, _, hf, _⟩, hr⟩ := S.funs
  refine ⟨S.os, S.bare, S.base, S.nbase, hr, fun b hb => S.frn b ?_, S.len, S.disj, S.cel⟩
  unfold frs
  rw [List.filterMap_cons, hf]
  exact List.mem_cons_of_mem _ hb
theorem Inv.out (I : Inv X σ m ρ s) (hs : X.stk = X.env :: outer) : SInv X.G outer m ρ s := by
  have S := I.S
  rw [hs] at S
  exact S.drop
/-- a heap without one object that nothing tracked needs -/
theorem SInv.hide {G : Gl} (S : SInv G outer m ρ s) {L : Addr} {o : Obj} (ho : s.heap.get? L = some o) (hd : ∃ es ep, o.data = .dict es ep) (n : NotIn ρ L) (hb : G.base.get? L = none) (hf : L ∉ frs outer) : SInv G outer m ρ { s with heap := PySem.W.hideAll s.heap [L] } := by
  have kp : ∀ b u, s.heap.get? b = some u → b ≠ L → (PySem.W.hideAll s.heap [L]).get? b = some u := fun b u e h => PySem.W.hideAll_get _ e (by simpa using h)
  obtain ⟨es, ep, hd⟩ := hd
  have tk : TupK ρ ρ s.heap (PySem.W.hideAll s.heap [L]) := TupK.same fun b us ⟨u, e, c, k, d⟩ _ => ⟨u, kp b u e (fun z => by
    subst z
    rw [ho] at e; cases e
    rw [hd] at d; cases d), c, k, d⟩
  refine ⟨S.os, S.bare, fun b u e => kp b u (S.base b u e) (fun z => by subst z; rw [hb] at e; cases e), S.nbase, ?_, S.frn, S.len, S.disj, fun i p c e1 e2 => ?_⟩
  · have go : ∀ stk : List Env, s.heap.FunFrames G.base stk → L ∉ frs stk → (PySem.W.hideAll s.heap [L]).FunFrames G.base stk := by
      intro stk
      induction stk with
      | nil => intro _ _; trivial
      | cons env r ih =>
        intro h hn
        obtain ⟨hk, ⟨L', u, h1, h2, h3, h4⟩, hr⟩ := h
        have e1 : frs (env :: r) = L' :: frs r := by unfold frs; rw [List.filterMap_cons, h1]
        rw [e1] at hn
        have hn' : L ≠ L' ∧ L ∉ frs r := by simpa using hn
        exact ⟨hk, ⟨L', u, h1, h2, kp L' u h3 (Ne.symm hn'.1), h4⟩, ih hr hn'.2⟩
    exact go outer S.funs hf
  · refine (S.cel i p c e1 e2).stay (RhoK.refl ρ) tk (fun b u hb' e => kp b u e fun z => ?_) (fun cv q ⟨c, u, vs, t, e0, e, d, v⟩ => ⟨c, u, vs, t, e0, kp c u e (fun z => ?_), d, v⟩) (by rw [PySem.W.hideAll_size]; exact Nat.le_refl _)
    · subst z
      have := n.get e1
      rcases hb' with hb' | hb'
      · exact this.1 hb'
      · exact this.2 hb'
    · subst z
      rw [ho] at e; cases e
      rw [hd] at d; cases d
theorem up_hide {h h' : Heap} {l : List Addr} (u : h.UpToSlots h') : (PySem.W.hideAll h l).UpToSlots h' := fun b o e d => u b o (PySem.W.of_hideAll l e) d
theorem Ent.exc {x : Ex} {u : Value} {E₁ : Value → Shared → Prop} {Q : Shared → Prop} (e : Ent X outer m ρ bx s s1) (hA : X.A.frames = some X.stk) (h : Air X X.wr σ m' (ρ ++ bx) s1 x u s') (hq : ∀ s'', Out X.G outer m' ρ s x u s'' → Q s'') :
    wpAny (model X.G.P X.G.w) X.A (leaving X.env u) (fun _ s'' => Q s'') E₁ s' := by
  obtain ⟨a, B, sI, ρ', d, rfl, I, K, nb, up, szI, sky, os, ag, la, na, xf⟩ := h
  have hfr : X.A.frames = some (X.env :: outer) := by rw [hA, e.stk]
  have K2 := e.kp K
  have fs := e.fs
  obtain ⟨mm, ⟨o, es, ep, ho, hd, _⟩, _⟩ := I.loc
  have hLf : X.env.locals ∉ frs outer := fun hm => by
    obtain ⟨_, o', ho', _⟩ := e.S.funs.mem hm
    exact absurd (Nat.lt_of_lt_of_le (Heap.lt_size ho') e.loc) (Nat.lt_irrefl _)
  have S2 : SInv X.G outer m' ρ' { sI with heap := PySem.W.hideAll sI.heap [X.env.locals] } := (I.out e.stk).hide ho ⟨es, ep, hd⟩ I.ln I.ok.lbase hLf
  have neL : ∀ b o, s.heap.get? b = some o → b ∉ [X.env.locals] := fun b o h hm => by
    rw [List.mem_singleton] at hm
    subst hm
    exact absurd (Nat.lt_of_lt_of_le (Heap.lt_size h) e.loc) (Nat.lt_irrefl _)
  have K3 : Kp (frs outer) noex ρ ρ' s { sI with heap := PySem.W.hideAll sI.heap [X.env.locals] } := by
    refine ⟨K2.sub, by rw [PySem.W.hideAll_size]; exact K2.sz, fun b us t => ?_, fun cv q c => ?_, fun b o h n nx hf => PySem.W.hideAll_get _ (K2.keep b o h n nx hf) (neL b o h), fun b o h n nx => ?_⟩
    · obtain ⟨⟨u, e1, c1, k1, d1⟩, nb⟩ := t
      obtain ⟨⟨u', e2, c2, k2, d2⟩, nb'⟩ := K2.tups b us ⟨⟨u, e1, c1, k1, d1⟩, nb⟩
      exact ⟨⟨u', PySem.W.hideAll_get _ e2 (neL b u e1), c2, k2, d2⟩, nb'⟩
    · obtain ⟨c, u, vs, t, e0, e1, d1, v1⟩ := c
      obtain ⟨c', u', vs', t', e0', e1', d1', v1'⟩ := K2.codes cv q ⟨c, u, vs, t, e0, e1, d1, v1⟩
      subst e0
      cases e0'
      exact ⟨c, u', vs', t', rfl, PySem.W.hideAll_get _ e1' (neL c u e1), d1', v1'⟩
    · obtain ⟨sl, e1⟩ := K2.slot b o h n nx
      exact ⟨sl, PySem.W.hideAll_get _ e1 (neL b o h)⟩
  have fin : ∀ h', HandSPX.FlyingZ B outer a (L2.Zc (.ref x.C) d) h' → s'.heap.UpToSlots h' → s'.heap.objs.size ≤ h'.objs.size → Out X.G outer m' ρ s x (.ref a) { s' with heap := h' } := fun h' fl up' szf => by
    refine ⟨a, B, { sI with heap := PySem.W.hideAll sI.heap [X.env.locals] }, ρ', d, rfl, S2, K3, fun b o h hb => ?_, up_hide (up.trans up'), (by rw [PySem.W.hideAll_size]; exact Nat.le_trans szI szf), fl, os, ag, Nat.le_trans e.sz la, na, ?_⟩
    · have h1 := PySem.W.of_hideAll _ h
      refine nb b o h1 fun hm => ?_
      rw [fs] at hm
      rcases List.mem_cons.mp hm with q | q
      · subst q
        rw [PySem.W.hideAll_none _ (List.mem_singleton.mpr rfl)] at h; cases h
      · exact hb q
    · rcases xf with xf | ⟨dx, us, h1, h2, h3, h4, h5, h6, h7⟩
      · exact .inl xf
      · obtain ⟨od, es', ep', ho', hd', hr'⟩ := h2
        rw [fs] at h6
        have hdx : dx ≠ X.env.locals ∧ dx ∉ frs outer := by simpa using h6
        refine .inr ⟨dx, us, h1, ⟨od, es', ep', PySem.W.hideAll_get _ ho' (by simpa using hdx.1), hd', hr'⟩, ?_, h4, h5, hdx.2, Nat.le_trans e.sz h7⟩
        refine RVs.mono (RhoK.refl _) (TupK.same fun b us ⟨u, e1, c1, k1, d1⟩ _ => ⟨u, PySem.W.hideAll_get _ e1 fun hm => ?_, c1, k1, d1⟩) _ _ h3
        rw [List.mem_singleton] at hm
        subst hm
        rw [ho] at e1; cases e1
        rw [hd] at d1; cases d1
  rw [e.stk] at sky
  refine wpAny_hz ?_
  rcases sky with ⟨hB, hn, hl, oe, vs, he, hz, hd, h1⟩ | fl | hd
  · exact HandSPX.leaving_firstZ L2.Zc.steady hfr hl e.fr he hB hn hd h1 hz fun h' fl up' szf => hq _ (fin h' fl up' szf)
  · exact HandSPX.leaves_onZ L2.Zc.steady hfr e.fr fl fun h' fl up' szf => hq _ (fin h' fl up' szf)
  · exact HandSPX.leaves_heldZ e.fr hd fun h' fl up' szf => hq _ (fin h' fl up' szf)
theorem gcS_len (n lo : Nat) (vs : List D) (m1 : Store) : (gcS n lo vs m1).1.length = vs.length := by
  unfold gcS
  dsimp only
  split
  · exact renDs_len _ _
  · rfl
theorem Out.gc {G : Gl} {x : Ex} {u : Value} (S : SInv G outer m ρ s) (mlow : m.low ≤ m.cs.length) (low : ∀ i, i < m'.low → m'.cs[i]? = m.cs[i]?) (lt : m'.low ≤ m'.cs.length) (h : Out G outer m' ρ s x u s') :
    Out G outer (gcS m.cs.length m.low x.vs m').2 ρ s ⟨x.C, x.ns, (gcS m.cs.length m.low x.vs m').1⟩ u s' ∧ LowK m (gcS m.cs.length m.low x.vs m').2 := by
  obtain ⟨a, B, sI, ρ', d, rfl, S1, K, nb, up, szI, fl, os, ag, la, na, xf⟩ := h
  obtain ⟨l, e, hl⟩ := id K.sub
  subst e
  obtain ⟨us, r, back⟩ : ∃ us, RVs (ρ ++ l) sI.heap x.vs us ∧ ∀ (ρ2 : Rho) vs2, RVs ρ2 sI.heap vs2 us → vs2.length = x.vs.length → (∀ p ∈ ρ2, p ∈ ρ ++ l) → ExF s.heap.objs.size (frs outer) sI.heap ρ2 d ⟨x.C, x.ns, vs2⟩ := by
    rcases xf with ⟨h1, h2, h3⟩ | ⟨dx, us, h1, h2, h3, h4, h5, h6, h7⟩
    · refine ⟨[], by rw [h2]; exact RVs.nil, fun ρ2 vs2 _ hv _ => .inl ⟨h1, ?_, h3⟩⟩
      rw [h2] at hv
      simpa using hv
    · exact ⟨us, h3, fun ρ2 vs2 r2 hv hp => .inr ⟨dx, us, h1, h2, r2, h4.trans hv.symm, fun p hq => h5 p (hp p hq), h6, h7⟩⟩
  obtain ⟨l2, i2, S2, r2, lk⟩ := gc_ok S S1 low lt mlow r
  have sub2 : ∀ p ∈ ρ ++ l2, p ∈ ρ ++ l := fun p hp => by
    rcases List.mem_append.mp hp with q | q
    · exact List.mem_append_left _ q
    · exact List.mem_append_right _ (i2 p q)
  exact ⟨⟨a, B, sI, ρ ++ l2, d, rfl, S2, K.less i2, nb, up, szI, fl, os, ag, la, (fun p hp => na p (sub2 p hp)), back _ _ r2 (gcS_len _ _ _ _) sub2⟩, lk⟩
end

/-! ### at the entry -/
def starts : List Bool → List D → Nat → Sl
  | [], _, _ => []
  | b :: bs, vs, n => (if b = true then .box n else match vs.head? with | some v => .val v | none => .un) :: starts bs vs.tail (if b = true then n + 1 else n)
def startc : List Bool → List D → List Cel
  | [], _ => []
  | b :: bs, vs => if b = true then .box vs.head? :: startc bs vs.tail else startc bs vs.tail
def boxN : List Bool → List Str → List Str
  | b :: bs, x :: xs => if b = true then x :: boxN bs xs else boxN bs xs
  | _, _ => []
theorem starts_len : ∀ (bs : List Bool) (vs : List D) (n : Nat), (starts bs vs n).length = bs.length
  | [], _, _ => rfl
  | b :: bs, vs, n => by simp only [starts, List.length_cons, starts_len bs]
theorem startc_len : ∀ (bs : List Bool) (N : List Str) (vs : List D), bs.length = N.length → (startc bs vs).length = (boxN bs N).length
  | [], N, _, h => by cases N <;> rfl
  | b :: bs, [], _, h => by cases h
  | b :: bs, x :: xs, vs, h => by
    have ih := startc_len bs xs vs.tail (by simpa using h)
    cases b <;> simp [startc, boxN, ih]
theorem tail_get {α : Type} (vs : List α) (i : Nat) : vs.tail[i]? = vs[i + 1]? := by cases vs <;> simp
theorem starts_get : ∀ (bs : List Bool) (N : List Str) (vs : List D) (n i : Nat) (sl : Slot) (x : Str), (starts bs vs n)[i]? = some sl → N[i]? = some x →
    (∃ j, sl = .box (n + j) ∧ bs[i]? = some true ∧ (boxN bs N)[j]? = some x) ∨ (bs[i]? = some false ∧ sl = match vs[i]? with | some v => .val v | none => .un)
  | [], _, _, _, _, _, _, h, _ => by simp [starts] at h
  | b :: bs, [], _, _, _, _, _, _, h => by simp at h
  | b :: bs, y :: N, vs, n, 0, sl, x, h1, h2 => by
    simp at h2; subst h2
    simp only [starts, List.getElem?_cons_zero, Option.some.injEq] at h1
    cases b with
    | true => exact .inl ⟨0, by rw [← h1]; rfl, rfl, by simp [boxN]⟩
    | false =>
      refine .inr ⟨rfl, ?_⟩
      rw [← h1]
      cases vs <;> rfl
  | b :: bs, y :: N, vs, n, i + 1, sl, x, h1, h2 => by
    simp only [starts, List.getElem?_cons_succ] at h1 h2
    rcases starts_get bs N vs.tail _ i sl x h1 h2 with ⟨j, e1, e2, e3⟩ | ⟨e1, e2⟩
    · cases b with
      | true => exact .inl ⟨j + 1, by rw [e1]; simp only [if_true]; congr 1; omega, by simpa using e2, by simpa [boxN] using e3⟩
      | false => exact .inl ⟨j, e1, by simpa using e2, by simpa [boxN] using e3⟩
    · refine .inr ⟨by simpa using e1, ?_⟩
      rw [e2, tail_get]
theorem startc_get : ∀ (bs : List Bool) (N : List Str) (vs : List D) (j : Nat) (c : Cel) (x : Str), (startc bs vs)[j]? = some c → (boxN bs N)[j]? = some x → bs.length = N.length → ∃ i : Nat, N[i]? = some x ∧ bs[i]? = some true ∧ c = .box vs[i]?
  | [], _, _, _, _, _, h, _, _ => by simp [startc] at h
  | b :: bs, [], _, _, _, _, _, h, _ => by simp [boxN] at h
  | true :: bs, y :: N, vs, 0, c, x, h1, h2, _ => by
    simp only [startc, boxN, if_true, List.getElem?_cons_zero, Option.some.injEq] at h1 h2
    subst h2
    exact ⟨0, rfl, rfl, by rw [← h1]; cases vs <;> rfl⟩
  | true :: bs, y :: N, vs, j + 1, c, x, h1, h2, hl => by
    simp only [startc, boxN, if_true, List.getElem?_cons_succ] at h1 h2
    obtain ⟨i, e1, e2, e3⟩ := startc_get bs N vs.tail j c x h1 h2 (by simpa using hl)
    exact ⟨i + 1, by simpa using e1, by simpa using e2, by rw [e3, tail_get]⟩
  | false :: bs, y :: N, vs, j, c, x, h1, h2, hl => by
    simp only [startc, boxN, Bool.false_eq_true, if_false] at h1 h2
    obtain ⟨i, e1, e2, e3⟩ := startc_get bs N vs.tail j c x h1 h2 (by simpa using hl)
    exact ⟨i + 1, by simpa using e1, by simpa using e2, by rw [e3, tail_get]⟩
theorem boxN_mem : ∀ (bs : List Bool) (N : List Str) (j : Nat) (x : Str), (boxN bs N)[j]? = some x → ∃ i : Nat, N[i]? = some x ∧ bs[i]? = some true
  | [], _, _, _, h => by simp [boxN] at h
  | b :: bs, [], _, _, h => by simp [boxN] at h
  | true :: bs, y :: N, 0, x, h => by
    simp [boxN] at h; subst h
    exact ⟨0, rfl, rfl⟩
  | true :: bs, y :: N, j + 1, x, h => by
    simp only [boxN, if_true, List.getElem?_cons_succ] at h
    obtain ⟨i, e1, e2⟩ := boxN_mem bs N j x h
    exact ⟨i + 1, by simpa using e1, by simpa using e2⟩
  | false :: bs, y :: N, j, x, h => by
    simp only [boxN, Bool.false_eq_true, if_false] at h
    obtain ⟨i, e1, e2⟩ := boxN_mem bs N j x h
    exact ⟨i + 1, by simpa using e1, by simpa using e2⟩
theorem boxN_nd : ∀ (bs : List Bool) (N : List Str), N.Nodup → (boxN bs N).Nodup
  | [], _, _ => by simp [boxN]
  | b :: bs, [], _ => by simp [boxN]
  | true :: bs, y :: N, h => by
    rw [List.nodup_cons] at h
    simp only [boxN, if_true]
    refine List.nodup_cons.mpr ⟨fun hm => h.1 ?_, boxN_nd bs N h.2⟩
    obtain ⟨j, hj⟩ := List.mem_iff_getElem?.mp hm
    obtain ⟨i, e, _⟩ := boxN_mem bs N j y hj
    exact List.mem_of_getElem? e
  | false :: bs, y :: N, h => by
    rw [List.nodup_cons] at h
    simp only [boxN, Bool.false_eq_true, if_false]
    exact boxN_nd bs N h.2
end Z

set_option Elab.async false
set_option linter.all false
set_option maxRecDepth 100000
/-! the engine, part L: defs -/
namespace Z
open PySem PySem.Spec PyProof.Rows
open L2 (frs)

/-- the context of a def's body -/
def cxF (G : Gl) (A : Around) (outer : List Env) (L : Addr) (N : List Str) (qual : Str) (scope : Scope) (f : Addr) (cd : Value) (c0 : List Cel) : Cx where
  G := G
  A := A.deeper (envOfC qual scope L f cd)
  env := envOfC qual scope L f cd
  stk := envOfC qual scope L f cd :: outer
  N := N
  own := fun x => decide (scope.names.lookup x = some .cell)
  calm := true
  c0 := c0
/-- a def's body run -/
def fnR (nb : List Bool) (body : SV) (vs : List D) (m : Store) : Res D :=
  match body (starts nb vs m.cs.length) ⟨m.cs ++ startc nb vs, m.cs.length⟩ with
  | .nxt _ m1 => .ok .non (gcS m.cs.length m.low [] m1).2
  | .ret v m1 => match gcS m.cs.length m.low [v] m1 with
    | ([w], m2) => .ok w m2
    | _ => .bad
  | .exc x _ m1 => .exc ⟨x.C, x.ns, (gcS m.cs.length m.low x.vs m1).1⟩ (gcS m.cs.length m.low x.vs m1).2
  | _ => .bad
section
variable {G : Gl} {N ps : List Str} {qual : Str} {scope : Scope} {f : Addr} {cd : Value} {A : Around} {outer : List Env} {s s1 : Shared} {m : Store} {ρ : Rho} {us : List Value} {vs : List D} {nb : List Bool}
/-- where the boxed names' cells stand -/
def boxR (cells : List (Str × Addr)) (bn : List Str) : Rho := bn.map fun x => (((cells.lookup x).getD 0 : Addr), ((cells.lookup x).getD 0 : Addr))
theorem start_in (hG : G.Ok) (S : L2.FnScope N ps scope) (hnb : nb.length = N.length) (hbx : ∀ (i : Nat) x, nb[i]? = some true → N[i]? = some x → scope.names.lookup x = some .cell) (hr : L2.Room k A) (hA : A.frames = some outer) (I0 : SInv G outer m ρ s) (hl : us.length = ps.length) (r : RVs ρ s.heap vs us)
    (x : InCallC s s.heap.objs.size (bindL (envOfC qual scope s.heap.objs.size f cd).kindOf (ps.zip us) fun _ => none) (cellsFrom (s.heap.objs.size + 1) scope.names []) (bindC (envOfC qual scope s.heap.objs.size f cd).kindOf (ps.zip us) fun _ => none) s1) :
    Inv (cxF G A outer s.heap.objs.size N qual scope f cd m.cs) (starts nb vs m.cs.length) ⟨m.cs ++ startc nb vs, m.cs.length⟩ (ρ ++ boxR (cellsFrom (s.heap.objs.size + 1) scope.names []) (boxN nb N)) s1 ∧
      Ent (cxF G A outer s.heap.objs.size N qual scope f cd m.cs) outer m ρ (boxR (cellsFrom (s.heap.objs.size + 1) scope.names []) (boxN nb N)) s s1 := by
  obtain ⟨h1, tk, rfl, hk⟩ := x.done
  have hvl := r.len
  have sz : s.heap.objs.size ≤ h1.objs.size := Nat.le_of_lt x.toInCall.ns.lt
  obtain ⟨cl, hcl⟩ : ∃ cl, cl = cellsFrom (s.heap.objs.size + 1) scope.names [] := ⟨_, rfl⟩
  have hcell : ∀ y c, cl.lookup y = some c → h1.IsCell c (bindC (envOfC qual scope s.heap.objs.size f cd).kindOf (ps.zip us) (fun _ => none) y) := fun y c e => x.cell y c (by rw [← hcl]; exact e)
  have habove : ∀ y c, cl.lookup y = some c → s.heap.objs.size < c := fun y c e => x.above y c (PySem.mem_of_lookup (by rw [← hcl]; exact e))
  have hinj : ∀ y z c, cl.lookup y = some c → cl.lookup z = some c → y = z := fun y z c e1 e2 => name_of_addr (by rw [hcl]; exact x.apart) (PySem.mem_of_lookup e1) (PySem.mem_of_lookup e2)
  have hlook : ∀ y, scope.names.lookup y = some .cell → ∃ c, cl.lookup y = some c := fun y h => by rw [hcl]; exact L2.cell_has h
  rw [← hcl]
  obtain ⟨bx, hbxr⟩ : ∃ bx, bx = boxR cl (boxN nb N) := ⟨_, rfl⟩
  have bat : ∀ {j : Nat} {p : Addr × Addr}, bx[j]? = some p → ∃ y, (boxN nb N)[j]? = some y ∧ cl.lookup y = some p.1 ∧ p.2 = p.1 := fun {j p} e => by
    rw [hbxr] at e
    unfold boxR at e
    rw [List.getElem?_map] at e
    cases q : (boxN nb N)[j]? with
    | none => rw [q] at e; cases e
    | some y =>
      rw [q] at e
      obtain ⟨i, e1, e2⟩ := boxN_mem nb N j y q
      obtain ⟨c, hc⟩ := hlook y (hbx i y e2 e1)
      simp only [Option.map_some, hc, Option.getD_some, Option.some.injEq] at e
      subst e
      exact ⟨y, rfl, hc, rfl⟩
  have bfresh : ∀ p ∈ bx, s.heap.objs.size ≤ p.1 ∧ s.heap.objs.size ≤ p.2 := fun p hp => by
    obtain ⟨j, hj⟩ := List.mem_iff_getElem?.mp hp
    obtain ⟨y, _, hc, e⟩ := bat hj
    have := Nat.le_of_lt (habove y _ hc)
    rw [e]; exact ⟨this, this⟩
  have bne : ∀ p ∈ bx, s.heap.objs.size ≠ p.1 ∧ s.heap.objs.size ≠ p.2 := fun p hp => by
    obtain ⟨j, hj⟩ := List.mem_iff_getElem?.mp hp
    obtain ⟨y, _, hc, e⟩ := bat hj
    have := Nat.ne_of_lt (habove y _ hc)
    rw [e]; exact ⟨this, this⟩
  have blen : bx.length = (startc nb vs).length := by
    rw [hbxr, startc_len nb N vs hnb]; unfold boxR; rw [List.length_map]
  rw [← hbxr]
  have K0 : Kp (frs outer) noex ρ (ρ ++ bx) s { s with heap := h1, toks := tk } := Kp.all hk sz bfresh
  have n0 : ∀ b, s.heap.objs.size ≤ b → NotIn ρ b := fun b h => I0.fresh h
  have pre : ∀ (i : Nat) y, i < ps.length → N[i]? = some y → ps[i]? = some y := fun i y hi h => by
    rw [← S.pre, List.getElem?_take_of_lt hi]; exact h
  have ndP : ps.Nodup := by rw [← S.pre]; exact S.nd.sublist (List.take_sublist _ _)
  -- the value of a parameter, wherever it stands
  have inL : ∀ (i : Nat) y u, ps[i]? = some y → us[i]? = some u → scope.names.lookup y = some .local → bindL (envOfC qual scope s.heap.objs.size f cd).kindOf (ps.zip us) (fun _ => none) y = some u := fun i y u h1 h2 h3 => L2.bindL_get ndP h1 h2 h3
  have inC : ∀ (i : Nat) y u, ps[i]? = some y → us[i]? = some u → scope.names.lookup y = some .cell → bindC (envOfC qual scope s.heap.objs.size f cd).kindOf (ps.zip us) (fun _ => none) y = some u := fun i y u h1 h2 h3 =>
    L2.bindC_get ndP h1 h2 (by show scope.names.lookup y ≠ _; rw [h3]; decide)
  have outC : ∀ (i : Nat) y, N[i]? = some y → us[i]? = none → bindC (envOfC qual scope s.heap.objs.size f cd).kindOf (ps.zip us) (fun _ => none) y = none := fun i y h1 h2 => by
    refine (L2.bindC_out fun v hv => ?_).trans rfl
    have hm := (List.of_mem_zip hv).1
    obtain ⟨j, hj⟩ := List.mem_iff_getElem?.mp hm
    have hj1 := (List.getElem?_eq_some_iff.mp hj).1
    have hj2 : N[j]? = some y := by
      rw [← S.pre, List.getElem?_take_of_lt hj1] at hj; exact hj
    have hiN := (List.getElem?_eq_some_iff.mp h1).1
    have := (List.getElem?_inj hiN S.nd).mp (h1.trans hj2.symm)
    subst this
    have := List.getElem?_eq_none_iff.mp h2
    omega
  have celOk : ∀ (j : Nat) p c, bx[j]? = some p → (startc nb vs)[j]? = some c → CelOk G (ρ ++ bx) h1 p c := fun j p c e1 e2 => by
    obtain ⟨y, hy, hc, hp⟩ := bat e1
    obtain ⟨i, h2, h3, h4⟩ := startc_get nb N vs j c y e2 hy hnb
    subst h4
    have hkc := hbx i y h3 h2
    refine ⟨hp, ?_⟩
    cases hv : vs[i]? with
    | none =>
      have hu : us[i]? = none := List.getElem?_eq_none_iff.mpr (by have := List.getElem?_eq_none_iff.mp hv; omega)
      have := hcell y _ hc
      rw [outC i y h2 hu] at this
      exact this
    | some d =>
      obtain ⟨u, hu, rv⟩ := r.get hv
      have hi : i < ps.length := by have := (List.getElem?_eq_some_iff.mp hu).1; omega
      have := hcell y _ hc
      rw [inC i y u (pre i y hi h2) hu hkc] at this
      exact ⟨u, this, RV.mono K0.rho K0.tups _ _ rv⟩
  have nL : NotIn (ρ ++ bx) s.heap.objs.size := NotIn.app.mpr ⟨n0 _ (Nat.le_refl _), bne⟩
  have S1 : SInv G (envOfC qual scope s.heap.objs.size f cd :: outer) ⟨m.cs ++ startc nb vs, m.cs.length⟩ (ρ ++ bx) { s with heap := h1, toks := tk } := by
    have S2 := I0.more (ls := startc nb vs) K0 (fun b o _ e => hk b o e) rfl I0.bare blen bfresh (fun i j p q ne e1 e2 => by
      obtain ⟨y, hy, hc, hp⟩ := bat e1
      obtain ⟨z, hz, hd, hq⟩ := bat e2
      have : p.1 ≠ q.1 := fun w => by
        rw [w] at hc
        have e := hinj y z _ hc hd
        subst e
        have hi := (List.getElem?_eq_some_iff.mp hy).1
        exact ne ((List.getElem?_inj hi (boxN_nd nb N S.nd)).mp (hy.trans hz.symm))
      rw [hp, hq]
      exact ⟨this, this, this, this⟩) celOk
    refine ⟨S2.os, S2.bare, S2.base, S2.nbase, Heap.FunFrames.cons (by show scope.kind ≠ _; rw [S.kind]; decide) rfl x.toInCall.ns (I0.bfresh (Nat.le_refl _)) S2.funs, fun b hb => ?_, S2.len, S2.disj, S2.cel⟩
    rcases List.mem_cons.mp (show b ∈ s.heap.objs.size :: frs outer from hb) with q | q
    · subst q; exact nL
    · exact S2.frn b q
  have hpl : ps.length ≤ N.length := by have := congrArg List.length S.pre; rw [List.length_take] at this; omega
  refine ⟨⟨⟨hG, S.kind, rfl, rfl, fun y z c e1 e2 => hinj y z c (by rw [hcl]; exact e1) (by rw [hcl]; exact e2), fun y hy => ?_, fun _ => (hr.hd), ?_, Around.frames_deeper hA, I0.bfresh (Nat.le_refl _), fun y c e => I0.bfresh (Nat.le_of_lt (habove y c (by rw [hcl]; exact e))), S.nd⟩,
      S1, fun y c e _ => ⟨_, hcell y c (by rw [hcl]; exact e)⟩, ⟨_, x.toInCall.ns, fun i y sl e1 e2 => ?_⟩, nL, ?_, fun i hi => ?_, ?_⟩, ⟨rfl, rfl, I0, hk, sz, bfresh, Nat.le_refl _, fun b hb => ?_⟩⟩
  · have hy : scope.names.lookup y = some .cell ∨ scope.names.lookup y = some .free := hy
    rcases hy with hy | hy
    · obtain ⟨c, hc⟩ := hlook y hy
      exact ⟨c, by show (cellsFrom (s.heap.objs.size + 1) scope.names []).lookup y = _; rw [← hcl]; exact hc⟩
    · exact absurd rfl (S.nofree _ (PySem.mem_of_lookup hy))
  · have := hr.un
    show A.units + 3 + 70 < cLine
    omega
  · -- the slots
    have e1 : N[i]? = some y := e1
    rcases starts_get nb N vs m.cs.length i sl y e2 e1 with ⟨j, h1', h2, h3⟩ | ⟨h2, h3⟩
    · subst h1'
      have hkc := hbx i y h2 e1
      obtain ⟨c, hc⟩ := hlook y hkc
      refine ⟨.inl hkc, c, by show (cellsFrom (s.heap.objs.size + 1) scope.names []).lookup y = _; rw [← hcl]; exact hc, ?_⟩
      rw [List.getElem?_append_right (by rw [I0.len]; omega), I0.len, Nat.add_sub_cancel_left, hbxr]
      unfold boxR
      rw [List.getElem?_map, h3]
      simp only [Option.map_some, hc, Option.getD_some]
    · subst h3
      have ni : ∀ c, cl.lookup y = some c → NotIn (ρ ++ bx) c := fun c hc => by
        refine NotIn.app.mpr ⟨n0 _ (Nat.le_of_lt (habove y c hc)), fun p hp => ?_⟩
        obtain ⟨j, hj⟩ := List.mem_iff_getElem?.mp hp
        obtain ⟨z, hz, hd, hq⟩ := bat hj
        have : c ≠ p.1 := fun w => by
          rw [← w] at hd
          have e := hinj y z _ hc hd
          subst e
          obtain ⟨i', hi1, hi2⟩ := boxN_mem nb N j y hz
          have hi := (List.getElem?_eq_some_iff.mp e1).1
          have := (List.getElem?_inj hi S.nd).mp (e1.trans hi1.symm)
          subst this
          rw [h2] at hi2; cases hi2
        rw [hq]; exact ⟨this, this⟩
      cases hv : vs[i]? with
      | none => exact fun _ c hc => ni c (by rw [hcl]; exact hc)
      | some d =>
        obtain ⟨u, hu, rv⟩ := r.get hv
        have hi : i < ps.length := by have := (List.getElem?_eq_some_iff.mp hu).1; omega
        have hp := pre i y hi e1
        refine ⟨u, RV.mono K0.rho K0.tups _ _ rv, ?_⟩
        rcases S.par y (List.mem_of_getElem? hp) with kd | kd
        · exact .inl ⟨kd, inL i y u hp hu kd⟩
        · obtain ⟨c, hc⟩ := hlook y kd
          have hic := hcell y c hc
          rw [inC i y u hp hu kd] at hic
          exact .inr ⟨.inl kd, c, by show (cellsFrom (s.heap.objs.size + 1) scope.names []).lookup y = _; rw [← hcl]; exact hc, hic, ni c hc⟩
  · show (starts nb vs m.cs.length).length = N.length
    rw [starts_len, hnb]
  · have hi : i < m.cs.length := hi
    show (m.cs ++ startc nb vs)[i]? = m.cs[i]?
    rw [List.getElem?_append_left hi]
  · show m.cs.length ≤ (m.cs ++ startc nb vs).length
    rw [List.length_append]; exact Nat.le_add_right _ _
  · rcases hb with rfl | ⟨y, c, _, e, rfl⟩
    · exact Nat.le_refl _
    · exact Nat.le_of_lt (habove y _ (by rw [hcl]; exact e))
/-- THE RULE of a def of the text: its body, run -/
theorem fn_z {k : Nat} {name : Str} {params : Arguments} {body : List Stmt} {bv : SV} {dV kV doc pm ct oc : Value} {an od : Option Addr} {osl : Array (Option Value)} (hG : G.Ok)
    (lk : G.K.lookup f = some ⟨oc, od, .func (PySem.W.fnOf name qual params body scope dV kV doc pm an cd ct), osl⟩) (hcd : PySem.W.codeIn G.K cd qual = true) (S : L2.FnScope N ps scope)
    (hnb : nb.length = N.length) (hbx : ∀ (i : Nat) x, nb[i]? = some true → N[i]? = some x → scope.names.lookup x = some .cell)
    (hbody : ∀ A outer L c0, L2.Room k (A.deeper (envOfC qual scope L f cd)) → SB (cxF G A outer L N qual scope f cd c0) body bv) :
    FnZ G (k + 1) f (PySem.W.fnOf name qual params body scope dV kV doc pm an cd ct) ps (fnR nb bv) := by
  refine ⟨fun A stk s m ρ args us vs Q E hr hA I0 mlow hb hl r h => ?_⟩
  have KX : G.K.In s.heap := hG.kin.keeps I0.base
  have lim : s.heap.NoLimit := hG.nolimit.keeps I0.base
  have hkind : ∀ y ∈ ps.zip us, scope.names.lookup y.1 = some .local ∨ (scope.names.lookup y.1 = some .cell ∧ ((cellsFrom (s.heap.objs.size + 1) scope.names []).lookup y.1).isSome = true) := fun ⟨n, v⟩ hy => by
    rcases S.par n (List.of_mem_zip hy).1 with q | q
    · exact .inl q
    · exact .inr ⟨q, PySem.W.cellsFrom_some _ _ _ (.inl q)⟩
  refine codeAny_call_function hr.depth (KX _ _ lk) rfl S.co S.gen rfl (PySem.W.codeRec_of KX hcd) (hb _ _ _ _ ?_)
  refine wpAny_newFunctionEnv_cells S.kind hkind fun env he s1 x => ?_
  subst he
  refine ⟨lim.keeps x.toInCall.keep, codeAny_func ?_⟩
  obtain ⟨I, en⟩ := start_in (nb := nb) hG S hnb hbx hr hA I0 hl r x
  have SBd := hbody A stk s.heap.objs.size m.cs (hr.deeper _)
  refine wpAny_mono (SBd.run _ _ _ _ (fun fl s' => CRz Q E (.ok (.ret (match fl with | .ret v => v | _ => .none))) s') (fun e s' => wpAny (model G.P G.w) (A.deeper (envOfC qual scope s.heap.objs.size f cd)) (leaving (envOfC qual scope s.heap.objs.size f cd) e) (fun _ s'' => CRz Q E (.error e) s'') (fun e' s'' => CRz Q E (.error e') s'') s') I ?_) (fun _ _ q => q) fun _ _ q => q
  unfold fnR at h
  -- a normal end
  have fin : ∀ {σ' : Sl} {m1 : Store} {ρ' : Rho} {s' : Shared} (vs2 : List D) (us2 : List Value), Inv (cxF G A stk s.heap.objs.size N qual scope f cd m.cs) σ' m1 ρ' s' → Kp (cxF G A stk s.heap.objs.size N qual scope f cd m.cs).fs (cxF G A stk s.heap.objs.size N qual scope f cd m.cs).wr (ρ ++ boxR (cellsFrom (s.heap.objs.size + 1) scope.names []) (boxN nb N)) ρ' s1 s' → RVs ρ' s'.heap vs2 us2 →
      ∃ ρ2, SInv G stk (gcS m.cs.length m.low vs2 m1).2 ρ2 s' ∧ Kp (frs stk) noex ρ ρ2 s s' ∧ RVs ρ2 s'.heap (gcS m.cs.length m.low vs2 m1).1 us2 ∧ LowK m (gcS m.cs.length m.low vs2 m1).2 := fun vs2 us2 I' K' r' => by
    have K2 := en.kp K'
    obtain ⟨l, e, hl2⟩ := id K2.sub
    have S1 := I'.out en.stk
    subst e
    obtain ⟨l2, i2, S2, r2, lk2⟩ := gc_ok I0 S1 I'.low I'.lowle mlow r'
    exact ⟨ρ ++ l2, S2, K2.less i2, r2, lk2⟩
  cases e : bv (starts nb vs m.cs.length) ⟨m.cs ++ startc nb vs, m.cs.length⟩ with
  | nxt σ' m1 =>
    rw [e] at h
    intro s' ρ' I' K'
    obtain ⟨ρ2, S2, K2, _, lk2⟩ := fin [] [] I' K' RVs.nil
    exact h .none s' ρ2 S2 K2 rfl lk2
  | ret v m1 =>
    rw [e] at h
    dsimp only at h
    intro u s' ρ' σ' I' K' r'
    obtain ⟨ρ2, S2, K2, r2, lk2⟩ := fin [v] [u] I' K' (RVs.cons r' RVs.nil)
    cases eg : gcS m.cs.length m.low [v] m1 with
    | mk ws m2 =>
      rw [eg] at h S2 r2 lk2
      cases ws with
      | nil => exact h.elim
      | cons w ws =>
        cases ws with
        | nil =>
          simp only [RVs] at r2
          obtain ⟨u', q, e1, rw', rfl⟩ := r2
          cases e1
          exact h u s' ρ2 S2 K2 rw' lk2
        | cons _ _ => exact h.elim
  | brk σ' m1 => rw [e] at h; exact h.elim
  | cnt σ' m1 => rw [e] at h; exact h.elim
  | exc xx σ' m1 =>
    rw [e] at h
    intro u s' air
    have hA' : (cxF G A stk s.heap.objs.size N qual scope f cd m.cs).A.frames = some (cxF G A stk s.heap.objs.size N qual scope f cd m.cs).stk := Around.frames_deeper hA
    obtain ⟨a, B, sI, ρ', d, e1, I', rest⟩ := id air
    refine en.exc hA' air fun s'' out => ?_
    obtain ⟨o2, lk2⟩ := Out.gc I0 mlow I'.low I'.lowle out
    exact h u s'' o2 lk2
  | bad => rw [e] at h; exact h.elim
/-- a call of it, from a body -/
theorem Inv.after {X : Cx} {σ : Sl} {m m' : Store} {ρ ρ' : Rho} {s s' : Shared} (I : Inv X σ m ρ s) (S : SInv X.G X.stk m' ρ' s') (K : Kp X.fs noex ρ ρ' s s') (l : LowK m m') : Inv X σ m' ρ' s' :=
  I.go K S (fun i hi => (l.eq i hi).trans (I.low i (Nat.lt_of_lt_of_le hi l.le))) l.lt
theorem Out.air {X : Cx} {σ : Sl} {m m' : Store} {ρ : Rho} {s s' : Shared} {x : Ex} {u : Value} (I : Inv X σ m ρ s) (o : Out X.G X.stk m' ρ s x u s') (l : LowK m m') : Air X noex σ m' ρ s x u s' := by
  obtain ⟨a, B, sI, ρ', d, e, S, K, nb, up, szI, fl, os, ag, la, na, xf⟩ := o
  exact ⟨a, B, sI, ρ', d, e, I.after S K l, K, nb, up, szI, .inr (.inl fl), os, ag, la, na, xf⟩
/-- how a call binds: perm says where each parameter's value stands among the positional ones and the keywords' -/
def KB (fd : FuncData) (ps : List Str) (np : Nat) (ks : List Str) (perm : List Nat) : Prop :=
  perm.length = ps.length ∧ ∀ us ws : List Value, us.length = np → ws.length = ks.length → bindArgs fd ⟨us, ks.zip ws⟩ = pure (ps.zip (perm.map fun i => ((us ++ ws)[i]?).getD .none))
def bindR (np nk : Nat) (perm : List Nat) (r : List D → Store → Res D) : List D → List D → Store → Res D := fun vs zs m =>
  if vs.length = np ∧ zs.length = nk then (match omap (fun i => (vs ++ zs)[i]?) perm with | some xs => r xs m | none => .bad) else .bad
theorem oc_fn {X : Cx} {k np : Nat} {fd : FuncData} {ks : List Str} {perm : List Nat} {r : List D → Store → Res D} {oc : Value} {od : Option Addr} {osl : Array (Option Value)} (F : FnZ X.G k f fd ps r) (hr : L2.Room k X.A) (lk : X.G.K.lookup f = some ⟨oc, od, .func fd, osl⟩)
    (hb : KB fd ps np ks perm) : OC X (.ref f) ks (bindR np ks.length perm r) := by
  refine ⟨fun h hk => kpr_fn (hk _ _ lk) rfl, fun σ m ρ s vs zs us ws Q E I r1 r2 h => ?_⟩
  unfold bindR at h
  split at h
  · rename_i hh
    cases e : omap (fun i => (vs ++ zs)[i]?) perm with
    | none => rw [e] at h; exact h.elim
    | some xs =>
      rw [e] at h
      obtain ⟨pl, hb⟩ := hb
      have h1 := r1.len
      have h2 := r2.len
      have hb' := hb us ws (by omega) (by omega)
      have ra := r1.app r2
      have pr := omap_some e
      have rx : RVs ρ s.heap xs (perm.map fun i => ((us ++ ws)[i]?).getD .none) := by
        clear e hb hb' pl h
        induction pr with
        | nil => exact RVs.nil
        | cons q _ ih =>
          obtain ⟨u, hu, rv⟩ := ra.get q
          rw [List.map_cons]
          refine RVs.cons ?_ ih
          rw [hu]; exact rv
      refine wpAny_call (codeAny_mono (F.run X.A X.stk s m ρ ⟨us, ks.zip ws⟩ _ xs Q E hr I.ok.frames I.S I.lowle (BindsTo.of_eq hb') (by rw [List.length_map, pl]) rx ?_) fun r s' hq => ?_)
      · exact h.mono (fun v m' q u s' ρ' S K rv l => q u s' ρ' (I.after S K l) K rv) fun x m' q u s' o l => q u s' (o.air I l)
      · cases r with
        | error e => exact hq
        | ok fl =>
          cases fl with
          | ret u => exact hq
          | _ => exact hq.elim
  · exact h.elim
end
end Z

set_option Elab.async false
set_option linter.all false
set_option maxRecDepth 100000
/-! the engine, part M: stores -/
namespace Z
open PySem PySem.Spec PyProof.Rows
open L2 (frs)

theorem FunFrames.but {h h' base : Heap} {a : Addr} (hs : Heap.SameBut a h h') (ha : ∃ o, h'.get? a = some o ∧ ∀ vs, o.data ≠ .fields vs) : ∀ {stk : List Env}, h.FunFrames base stk → h'.FunFrames base stk
  | [], _ => trivial
  | env :: r, x => by
    obtain ⟨hk, ⟨L, o, hf, hn, ho, hd⟩, hr⟩ := x
    refine ⟨hk, ?_, FunFrames.but hs ha hr⟩
    by_cases e : L = a
    · subst e
      obtain ⟨o', h1, h2⟩ := ha
      exact ⟨L, o', hf, hn, h1, h2⟩
    · exact ⟨L, o, hf, hn, (hs.2 L e).trans ho, hd⟩
/-- one untracked object changed -/
theorem SInv.side {G : Gl} {stk : List Env} {m : Store} {ρ : Rho} {s : Shared} {h' : Heap} {t : Nat} {a : Addr} {o : Obj} (S : SInv G stk m ρ s) (hs : Heap.SameBut a s.heap h') (ho : s.heap.get? a = some o) (n : NotIn ρ a) (nb : G.base.get? a = none) (ht : o.cls ≠ .type "tuple" ∨ ∀ vs n, o.data ≠ .seq vs n) (hf : ∀ vs, o.data ≠ .fields vs)
    (ha : ∃ o, h'.get? a = some o ∧ ∀ vs, o.data ≠ .fields vs) : SInv G stk m ρ { s with heap := h', toks := t } := by
  have K : Kp [] (fun b => b = a) ρ ρ s { s with heap := h', toks := t } := Kp.but hs ho (.inr ht) hf (.inl rfl)
  refine ⟨S.os, S.bare, fun b u e => (hs.2 b fun z => by subst z; rw [nb] at e; cases e).trans (S.base b u e), S.nbase, FunFrames.but hs ha S.funs, S.frn, S.len, S.disj, fun i p c e1 e2 => ?_⟩
  refine (S.cel i p c e1 e2).stay (RhoK.refl ρ) K.tups (fun b u hb e => (hs.2 b fun z => ?_).trans e) K.codes K.sz
  subst z
  have := n.get e1
  rcases hb with hb | hb
  · exact this.1 hb
  · exact this.2 hb
/-- slot i gets v -/
def setS (i : Nat) (v : D) (σ : Sl) (m : Store) : Option (Sl × Store) := match σ[i]? with
  | some (.box j) => match m.cs[j]? with
    | some (.box _) => some (σ, m.put j (.box (some v)))
    | _ => none
  | some _ => some (σ.set i (.val v), m)
  | none => none
/-- slot i is emptied -/
def delS (i : Nat) (σ : Sl) : Option Sl := match σ[i]? with
  | some (.val _) => some (σ.set i .un)
  | _ => none
section
variable {X : Cx} {σ σ' : Sl} {m m' : Store} {ρ ρ1 ρ' : Rho} {s s1 s' : Shared} {E : Value → Shared → Prop} {pos : Pos}
def StOk (X : Cx) (x : Str) : Prop := X.env.kindOf x = some .local ∨ (X.env.kindOf x = some .cell ∧ X.own x = true)
theorem nodupIx {N : List Str} (hN : N.Nodup) {i j : Nat} {x : Str} (a : N[i]? = some x) (b : N[j]? = some x) : i = j := (List.getElem?_inj (List.getElem?_eq_some_iff.mp a).1 hN).mp (a.trans b.symm)
theorem Inv.lne (I : Inv X σ m ρ s) {x : Str} {c : Addr} (h : X.env.cells.lookup x = some c) (n : NotIn ρ c) : c ≠ X.env.locals := fun z => by
  obtain ⟨v, o, e, d⟩ := I.cell x c h n
  obtain ⟨mm, ⟨o', es, ep, e', d', _⟩, _⟩ := I.loc
  rw [z, e'] at e; cases e
  rw [d'] at d; cases d
/-- the frame's own dict changed at one name -/
theorem Inv.locals {h' : Heap} {t : Nat} {x : Str} {i : Nat} {sl : Slot} {mm mm' : Str → Option Value} (I : Inv X σ m ρ s) (hN : X.N[i]? = some x) (hl : ∀ (j : Nat) y sl, X.N[j]? = some y → σ[j]? = some sl → SlotOk X.env ρ s.heap mm y sl)
    (hk : X.env.kindOf x = some .local) (hn' : h'.Ns X.env.locals mm') (hm : ∀ y, y ≠ x → mm' y = mm y) (hs : Heap.SameBut X.env.locals s.heap h') (hsl : SlotOk X.env ρ h' mm' x sl) :
    Inv X (σ.set i sl) m ρ { s with heap := h', toks := t } ∧ Kp X.fs X.wr ρ ρ s { s with heap := h', toks := t } := by
  obtain ⟨_, ⟨o, es, ep, ho, hd, _⟩, _⟩ := id I.loc
  obtain ⟨o', es', ep', ho', hd', _⟩ := id hn'
  have K : Kp X.fs X.wr ρ ρ s { s with heap := h', toks := t } := Kp.but hs ho (.inr (.inr fun vs n z => by rw [hd] at z; cases z)) (fun vs z => by rw [hd] at z; cases z) (.inl (.inl rfl))
  have S := I.S.side (t := t) hs ho I.ln I.ok.lbase (.inr fun vs n z => by rw [hd] at z; cases z) (fun vs z => by rw [hd] at z; cases z) ⟨o', ho', fun vs z => by rw [hd'] at z; cases z⟩
  have ck : ∀ {y c v}, X.env.cells.lookup y = some c → NotIn ρ c → s.heap.IsCell c v → h'.IsCell c v := fun hc n ic => ic.sameBut hs (I.lne hc n)
  refine ⟨⟨I.ok, S, fun y c e n => ?_, ⟨mm', hn', fun j y sj e1 e2 => ?_⟩, I.ln, by simpa using I.slen, I.low, I.lowle⟩, K⟩
  · obtain ⟨v, q⟩ := I.cell y c e n
    exact ⟨v, ck e n q⟩
  · by_cases hj : j = i
    · subst hj
      have hlt : j < σ.length := by rw [I.slen]; exact (List.getElem?_eq_some_iff.mp hN).1
      rw [List.getElem?_set_self hlt] at e2
      cases e2
      rw [hN] at e1; cases e1
      exact hsl
    · rw [List.getElem?_set_ne (Ne.symm hj)] at e2
      have ny : y ≠ x := fun e => hj (nodupIx I.ok.nd e1 (e ▸ hN))
      have so := hl j y sj e1 e2
      cases sj with
      | un => exact so
      | val v =>
        obtain ⟨u, rv, q⟩ := so
        refine ⟨u, RV.mono (RhoK.refl ρ) K.tups _ _ rv, ?_⟩
        rcases q with ⟨k, e⟩ | ⟨k, c, e, ic, n⟩
        · exact .inl ⟨k, by rw [hm y ny]; exact e⟩
        · exact .inr ⟨k, c, e, ck e n ic, n⟩
      | box j => exact so
theorem store_z {i : Nat} {x : Str} {v : D} {u : Value} {Q : Unit → Shared → Prop} (I : Inv X σ m ρ s) (hN : X.N[i]? = some x) (hx : StOk X x) (r : RV ρ s.heap v u) (hset : setS i v σ m = some (σ', m'))
    (h : ∀ s', Inv X σ' m' ρ s' → Kp X.fs X.wr ρ ρ s s' → Q () s') : wpAny (model X.G.P X.G.w) X.A (storeName X.env x u) Q E s := by
  obtain ⟨mm, hn, hl⟩ := id I.loc
  have hcls : (X.env.scope.kind == .class || (X.env.scope.kind == .module && X.env.locals != X.env.globals)) = false := by rw [I.ok.kind]; rfl
  have hlt : i < σ.length := by rw [I.slen]; exact (List.getElem?_eq_some_iff.mp hN).1
  unfold setS at hset
  -- a slot that is no box
  have plain : ∀ sl, σ[i]? = some sl → (∀ j, sl ≠ .box j) → σ' = σ.set i (.val v) → m' = m → wpAny (model X.G.P X.G.w) X.A (storeName X.env x u) Q E s := fun sl es nb e1 e2 => by
    subst e1; subst e2
    rcases hx with hk | ⟨hk, ho⟩
    · refine wpAny_storeName_local hk hn (fun h' hn' hs => ?_) hcls
      obtain ⟨I', K'⟩ := I.locals (t := s.toks + 1) (sl := .val v) hN hl hk hn' (fun y hy => if_neg hy) hs ⟨u, by
        obtain ⟨_, K⟩ := I.locals (t := s.toks + 1) (sl := .un) hN hl hk hn' (fun y hy => if_neg hy) hs (fun cf => by rcases cf with c | c <;> rw [hk] at c <;> cases c)
        exact RV.mono (RhoK.refl ρ) K.tups _ _ r, .inl ⟨hk, by simp⟩⟩
      exact h _ I' K'
    · obtain ⟨c, hc⟩ := I.ok.has x (.inl hk)
      have nc : NotIn ρ c := by
        have so := hl i x sl hN es
        cases sl with
        | un => exact so (.inl hk) c hc
        | val w =>
          obtain ⟨_, _, q⟩ := so
          rcases q with ⟨k, _⟩ | ⟨_, c', e, _, n⟩
          · rw [hk] at k; cases k
          · rw [hc] at e; cases e; exact n
        | box j => exact absurd rfl (nb j)
      obtain ⟨w0, z⟩ := I.cell x c hc nc
      obtain ⟨oc, hoc, hocd⟩ := id z
      have lne := I.lne hc nc
      refine wpAny_storeName_cell I.ok.kind hk hc z (fun h' hc' hs => ?_)
      obtain ⟨oc', hoc', hocd'⟩ := id hc'
      have K : Kp X.fs X.wr ρ ρ s { s with heap := h' } := Kp.but hs hoc (.inr (.inr fun vs n z => by rw [hocd] at z; cases z)) (fun vs z => by rw [hocd] at z; cases z) (.inl (.inr ⟨x, c, ho, hc, rfl⟩))
      have S := I.S.side (t := s.toks) hs hoc nc (I.ok.cbase x c hc) (.inr fun vs n z => by rw [hocd] at z; cases z) (fun vs z => by rw [hocd] at z; cases z) ⟨oc', hoc', fun vs z => by rw [hocd'] at z; cases z⟩
      refine h _ ⟨I.ok, S, fun y c' e n => ?_, ⟨mm, hn.sameBut hs (Ne.symm lne), fun j y sj e1 e2 => ?_⟩, I.ln, by simpa using I.slen, I.low, I.lowle⟩ K
      · by_cases hcc : c' = c
        · subst hcc; exact ⟨_, hc'⟩
        · obtain ⟨w2, z2⟩ := I.cell y c' e n
          exact ⟨w2, z2.sameBut hs hcc⟩
      · by_cases hj : j = i
        · subst hj
          rw [List.getElem?_set_self hlt] at e2
          cases e2
          rw [hN] at e1; cases e1
          exact ⟨u, RV.mono (RhoK.refl ρ) K.tups _ _ r, .inr ⟨.inl hk, c, hc, hc', nc⟩⟩
        · rw [List.getElem?_set_ne (Ne.symm hj)] at e2
          have so := hl j y sj e1 e2
          cases sj with
          | un => exact so
          | val w =>
            obtain ⟨u', rv, q⟩ := so
            refine ⟨u', RV.mono (RhoK.refl ρ) K.tups _ _ rv, ?_⟩
            rcases q with q | ⟨k, c', e, ic, n⟩
            · exact .inl q
            · refine .inr ⟨k, c', e, ic.sameBut hs fun z => ?_, n⟩
              subst z
              exact hj (nodupIx I.ok.nd e1 (I.ok.inj _ _ _ e hc ▸ hN))
          | box j => exact so
  split at hset
  · rename_i j es
    split at hset
    · rename_i w ej
      cases hset
      obtain ⟨hk, c, hc, hj⟩ := hl i x _ hN es
      rcases hx with hk' | ⟨hk', _⟩
      · rcases hk with k | k <;> rw [hk'] at k <;> cases k
      · have ck := I.S.cel j _ _ hj ej
        have z : ∃ w0, s.heap.IsCell c w0 := by
          obtain ⟨_, y⟩ := ck
          cases w with
          | none => exact ⟨_, y⟩
          | some d => obtain ⟨u0, y, _⟩ := y; exact ⟨_, y⟩
        obtain ⟨w0, z⟩ := z
        refine wpAny_storeName_cell I.ok.kind hk' hc z (fun h' hc' hs => ?_)
        obtain ⟨I', K'⟩ := I.put (t := s.toks) (c' := .box (some v)) ej hj rfl rfl hs rfl (by
          obtain ⟨o', e', d'⟩ := z
          exact ⟨o', e', fun vs q => by rw [d'] at q; cases q⟩) fun tk => ⟨rfl, u, hc', RV.mono (RhoK.refl ρ) tk _ _ r⟩
        exact h _ I' K'.any
    · cases hset
  · rename_i sl nb es
    cases hset
    exact plain sl es (fun j z => nb j (by rw [← z])) rfl rfl
  · cases hset
end
end Z

set_option Elab.async false
set_option linter.all false
set_option maxRecDepth 100000
/-! the engine, part N: statements -/
namespace Z
open PySem PySem.Spec PyProof.Rows
open L2 (frs)

def Res.toS {α : Type} (r : Res α) (σ : Sl) (k : α → Store → SR) : SR := match r with
  | .ok a m => k a m
  | .exc x m => .exc x σ m
  | .bad => .bad
def SR.next (r : SR) (k : SV) : SR := match r with
  | .nxt σ m => k σ m
  | r => r
section
variable {X : Cx} {σ σ' : Sl} {m m' : Store} {ρ ρ1 ρ' : Rho} {s s1 s' : Shared} {a b c : Expr} {f g : EV} {E : Value → Shared → Prop} {pos : Pos} {Q : Flow → Shared → Prop}
theorem SR.rel {r : SR} (K : Kp X.fs X.wr ρ ρ1 s s1) (h : r.sat X ρ s Q E) : r.sat X ρ1 s1 Q E := by
  cases r with
  | nxt σ' m' => exact fun s2 ρ2 I2 K2 => h s2 ρ2 I2 (K.trans K2)
  | ret v m' => exact fun u s2 ρ2 σ2 I2 K2 r2 => h u s2 ρ2 σ2 I2 (K.trans K2) r2
  | brk σ' m' => exact fun s2 ρ2 I2 K2 => h s2 ρ2 I2 (K.trans K2)
  | cnt σ' m' => exact fun s2 ρ2 I2 K2 => h s2 ρ2 I2 (K.trans K2)
  | exc x σ' m' => exact fun u s2 z => h u s2 (z.after K)
  | bad => exact h
theorem SR.satMono {r : SR} {Q' : Flow → Shared → Prop} {E' : Value → Shared → Prop} (h : r.sat X ρ s Q E) (hq : ∀ f s, Q f s → Q' f s) (he : ∀ x σ' m' u s', r = .exc x σ' m' → Air X X.wr σ' m' ρ s x u s' → E u s' → E' u s') : r.sat X ρ s Q' E' := by
  cases r with
  | nxt σ' m' => exact fun s2 ρ2 I2 K2 => hq _ _ (h s2 ρ2 I2 K2)
  | ret v m' => exact fun u s2 ρ2 σ2 I2 K2 r2 => hq _ _ (h u s2 ρ2 σ2 I2 K2 r2)
  | brk σ' m' => exact fun s2 ρ2 I2 K2 => hq _ _ (h s2 ρ2 I2 K2)
  | cnt σ' m' => exact fun s2 ρ2 I2 K2 => hq _ _ (h s2 ρ2 I2 K2)
  | exc x σ' m' => exact fun u s2 z => he x σ' m' u s2 rfl z (h u s2 z)
  | bad => exact h
theorem SE.bdS (ha : SE X a f) (I : Inv X σ m ρ s) {k : D → Store → SR} {R : Value → Shared → Prop} (h : ((f σ m).toS σ k).sat X ρ s Q E)
    (c : ∀ v m1 u s1 ρ1, Inv X σ m1 ρ1 s1 → Kp X.fs noex ρ ρ1 s s1 → RV ρ1 s1.heap v u → (k v m1).sat X ρ1 s1 Q E → R u s1) : wpAny (model X.G.P X.G.w) X.A (eval a X.env) R E s := by
  refine ha.run σ m ρ s R E I ?_
  cases e : f σ m with
  | ok v m1 => rw [e] at h; exact fun u s1 ρ1 I1 K1 r1 => c v m1 u s1 ρ1 I1 K1 r1 (SR.rel K1.any h)
  | exc x m1 => rw [e] at h; exact fun u s1 z => h u s1 (z.weak fun _ w => w.elim)
  | bad => rw [e] at h; exact h
theorem ST.bdS {f : TV} (ha : ST X a f) (I : Inv X σ m ρ s) {k : Bool → Store → SR} {R : Bool → Shared → Prop} (h : ((f σ m).toS σ k).sat X ρ s Q E)
    (c : ∀ v m1 s1 ρ1, Inv X σ m1 ρ1 s1 → Kp X.fs noex ρ ρ1 s s1 → (k v m1).sat X ρ1 s1 Q E → R v s1) : wpAny (model X.G.P X.G.w) X.A (isTrue a X.env (eval a X.env)) R E s := by
  refine ha.run σ m ρ s R E I ?_
  cases e : f σ m with
  | ok v m1 => rw [e] at h; exact fun s1 ρ1 I1 K1 => c v m1 s1 ρ1 I1 K1 (SR.rel K1.any h)
  | exc x m1 => rw [e] at h; exact fun u s1 z => h u s1 (z.weak fun _ w => w.elim)
  | bad => rw [e] at h; exact h
theorem SA.bdS {es : List Expr} {f : LV} (ha : SA X es f) (pos : Pos) (I : Inv X σ m ρ s) {k : List D → Store → SR} {R : List Value → Shared → Prop} (h : ((f σ m).toS σ k).sat X ρ s Q E)
    (c : ∀ v m1 u s1 ρ1, Inv X σ m1 ρ1 s1 → Kp X.fs noex ρ ρ1 s s1 → RVs ρ1 s1.heap v u → (k v m1).sat X ρ1 s1 Q E → R u s1) : wpAny (model X.G.P X.G.w) X.A (spliced (backTo pos (starEach es X.env))) R E s := by
  refine ha.run pos σ m ρ s R E I ?_
  cases e : f σ m with
  | ok v m1 => rw [e] at h; exact fun u s1 ρ1 I1 K1 r1 => c v m1 u s1 ρ1 I1 K1 r1 (SR.rel K1.any h)
  | exc x m1 => rw [e] at h; exact fun u s1 z => h u s1 (z.weak fun _ w => w.elim)
  | bad => rw [e] at h; exact h

/-! ### blocks -/
def bNil : SV := fun σ m => .nxt σ m
def bCons (f g : SV) : SV := fun σ m => (f σ m).next g
theorem sb_nil : SB X [] bNil := ⟨fun σ m ρ s Q E I h => wpAny_execs_nil (h s ρ I Kp.refl)⟩
theorem SR.next_sat {r : SR} {k : SV} {R : Flow → Shared → Prop} (h : (r.next k).sat X ρ s Q E) (hn : ∀ σ1 m1 s1 ρ1, Inv X σ1 m1 ρ1 s1 → Kp X.fs X.wr ρ ρ1 s s1 → (k σ1 m1).sat X ρ1 s1 Q E → R .next s1) (hr : ∀ f s1, f ≠ .next → Q f s1 → R f s1) : r.sat X ρ s R E := by
  cases r with
  | nxt σ1 m1 => exact fun s1 ρ1 I1 K1 => hn σ1 m1 s1 ρ1 I1 K1 (SR.rel K1 h)
  | ret v m' => exact fun u s2 ρ2 σ2 I2 K2 r2 => hr _ _ (fun z => nomatch z) (h u s2 ρ2 σ2 I2 K2 r2)
  | brk σ' m' => exact fun s2 ρ2 I2 K2 => hr _ _ (fun z => nomatch z) (h s2 ρ2 I2 K2)
  | cnt σ' m' => exact fun s2 ρ2 I2 K2 => hr _ _ (fun z => nomatch z) (h s2 ρ2 I2 K2)
  | exc x σ' m' => exact h
  | bad => exact h
theorem sb_cons {st : Stmt} {sts : List Stmt} {f g : SV} (h1 : SS X st f) (h2 : SB X sts g) : SB X (st :: sts) (bCons f g) := by
  refine ⟨fun σ m ρ s Q E I h => ?_⟩
  refine wpAny_execs_cons (h1.run σ m ρ s _ E I (SR.next_sat h (fun σ1 m1 s1 ρ1 I1 K1 h1 => h2.run σ1 m1 ρ1 s1 Q E I1 h1) fun fl s1 ne q => ?_))
  cases fl with
  | next => exact absurd rfl ne
  | _ => exact q

/-! ### small statements -/
def sPass : SV := fun σ m => .nxt σ m
def sBreak : SV := fun σ m => .brk σ m
def sCont : SV := fun σ m => .cnt σ m
def sRet (f : EV) : SV := fun σ m => (f σ m).toS σ fun v m1 => .ret v m1
def sRetN : SV := fun σ m => .ret .non m
def sDrop (f : EV) : SV := fun σ m => (f σ m).toS σ fun _ m1 => .nxt σ m1
def sIf (c : TV) (f g : SV) : SV := fun σ m => (c σ m).toS σ fun b m1 => if b = true then f σ m1 else g σ m1
theorem ss_pass : SS X (.Pass pos) sPass := ⟨fun σ m ρ s Q E I h => wpAny_Pass (h s ρ I Kp.refl)⟩
theorem ss_break : SS X (.Break pos) sBreak := ⟨fun σ m ρ s Q E I h => wpAny_Break (h s ρ I Kp.refl)⟩
theorem ss_cont : SS X (.Continue pos) sCont := ⟨fun σ m ρ s Q E I h => wpAny_Continue (h s ρ I Kp.refl)⟩
theorem ss_ret (ha : SE X a f) : SS X (.Return (some a) pos) (sRet f) := by
  refine ⟨fun σ m ρ s Q E I h => wpAny_Return_some (ha.bdS I h fun v m1 u s1 ρ1 I1 K1 r1 h1 => ?_)⟩
  exact h1 u s1 ρ1 σ I1 Kp.refl r1
theorem ss_retN : SS X (.Return none pos) sRetN := ⟨fun σ m ρ s Q E I h => wpAny_Return_none (h .none s ρ σ I Kp.refl rfl)⟩
theorem Inv.quiet (I : Inv X σ m ρ s) : interactive X.env = false := by simp [interactive, I.ok.kind]
theorem ss_expr (ha : SE X a f) (hs : swapsWith a none pos.line X.env = pure false) : SS X (.Expr a pos) (sDrop f) := by
  refine ⟨fun σ m ρ s Q E I h => wpAny_Expr_any (ha.bdS I h fun v m1 u s1 ρ1 I1 K1 r1 h1 => ?_) I.quiet hs⟩
  exact h1 s1 ρ1 I1 Kp.refl
theorem ss_doc {x : Str} {j pos'} : SS X (.Expr (.Constant (.str x) j pos') pos) sPass := ⟨fun σ m ρ s Q E I h => wpAny_Expr (Calls.Constant_str (h _ ρ (I.tok _) (Kp.tok _))) I.quiet⟩
theorem ss_if {c : Expr} {p q : List Stmt} {t : TV} {f g : SV} (hc : ST X c t) (ha : SB X p f) (hb : SB X q g) : SS X (.If c p q pos) (sIf t f g) := by
  refine ⟨fun σ m ρ s Q E I h => ?_⟩
  refine wpAny_If (hc.bdS I h fun d m1 s1 ρ1 I1 K1 h1 => ?_)
  cases d with
  | true => exact ha.run σ m1 ρ1 s1 Q E I1 h1
  | false => exact hb.run σ m1 ρ1 s1 Q E I1 h1

/-! ### targets -/
abbrev GV := D → SV
abbrev GsV := List D → SV
structure SG (X : Cx) (tg : Expr) (g : GV) : Prop where
  run : ∀ σ m ρ s (v : D) (u : Value) (Q : Shared → Prop) (E : Value → Shared → Prop), Inv X σ m ρ s → RV ρ s.heap v u → (g v σ m).sat X ρ s (fun f s' => f = .next → Q s') E → wpAny (model X.G.P X.G.w) X.A (assign tg X.env u) (fun _ s' => Q s') E s
structure SGs (X : Cx) (tg : List Expr) (g : GsV) : Prop where
  run : ∀ σ m ρ s (vs : List D) (us : List Value) (Q : Shared → Prop) (E : Value → Shared → Prop), Inv X σ m ρ s → RVs ρ s.heap vs us → (g vs σ m).sat X ρ s (fun f s' => f = .next → Q s') E → wpAny (model X.G.P X.G.w) X.A (assignInOrder ((assignEach tg X.env).map (·.2)) us) (fun _ s' => Q s') E s
def gName (i : Nat) : GV := fun v σ m => match setS i v σ m with
  | some (σ', m') => .nxt σ' m'
  | none => .bad
def gNil : GsV := fun vs σ m => match vs with
  | [] => .nxt σ m
  | _ => .bad
def gCons (g : GV) (gs : GsV) : GsV := fun vs σ m => match vs with
  | v :: r => (g v σ m).next (gs r)
  | [] => .bad
def gTup (n : Nat) (gs : GsV) : GV := fun v σ m => match v with
  | .tup vs => if vs.length = n then gs vs σ m else .bad
  | _ => .bad
theorem sg_name {i : Nat} {x : Str} (hN : X.N[i]? = some x) (hx : StOk X x) : SG X (.Name x pos) (gName i) := by
  refine ⟨fun σ m ρ s v u Q E I r h => wpAny_assign_Name ?_⟩
  unfold gName at h
  cases e : setS i v σ m with
  | none => rw [e] at h; exact h.elim
  | some p =>
    obtain ⟨σ', m'⟩ := p
    rw [e] at h
    exact store_z I hN hx r e fun s' I' K' => h s' ρ I' K' rfl
theorem sgs_nil : SGs X [] gNil := by
  refine ⟨fun σ m ρ s vs us Q E I r h => ?_⟩
  cases vs with
  | nil => simp only [RVs] at r; subst r; exact assignInOrder_nil (h s ρ I Kp.refl rfl)
  | cons v vs => exact h.elim
theorem sgs_cons {es : List Expr} {g : GV} {gs : GsV} (h1 : SG X a g) (h2 : SGs X es gs) (hs : notStar a = true) : SGs X (a :: es) (gCons g gs) := by
  refine ⟨fun σ m ρ s vs us Q E I r h => ?_⟩
  have hs' : (assignEach (a :: es) X.env).map (·.2) = assign a X.env :: (assignEach es X.env).map (·.2) := by cases a <;> first | rfl | cases hs
  cases vs with
  | nil => exact h.elim
  | cons v vs =>
    simp only [RVs] at r
    obtain ⟨u, us', rfl, r1, r2⟩ := r
    rw [hs']
    refine assignInOrder_cons (h1.run σ m ρ s v u _ E I r1 ?_)
    have : (gCons g gs (v :: vs) σ m) = (g v σ m).next (gs vs) := rfl
    rw [this] at h
    exact SR.next_sat h (fun σ1 m1 s1 ρ1 I1 K1 h1 _ => h2.run σ1 m1 ρ1 s1 vs us' Q E I1 (RVs.mono K1.rho K1.tups _ _ r2) h1) fun fl s1 ne q e => absurd e ne
theorem sg_tup {es : List Expr} {k : Nat} {gs : GsV} (hc : X.calm = true) (h : SGs X es gs) (hn : plainEs es = true) : SG X (.Tuple es k pos) (gTup es.length gs) := by
  refine ⟨fun σ m ρ s v u Q E I r hw => ?_⟩
  have ae : ∀ es : List Expr, plainEs es = true → (assignEach es X.env).length = es.length ∧ (assignEach es X.env).findIdx? (·.1) = none := by
    intro es
    induction es with
    | nil => intro _; exact ⟨rfl, rfl⟩
    | cons e es ih =>
      intro h
      simp only [plainEs, List.all_cons, Bool.and_eq_true] at h
      obtain ⟨i1, i2⟩ := ih h.2
      have e1 : assignEach (e :: es) X.env = (false, assign e X.env) :: assignEach es X.env := by
        cases e <;> first | rfl | cases h.1
      rw [e1]
      exact ⟨by rw [List.length_cons, i1, List.length_cons], by rw [List.findIdx?_cons, i2]; rfl⟩
  obtain ⟨ae1, ae2⟩ := ae es hn
  unfold gTup at hw
  cases v with
  | tup vs =>
    dsimp only at hw
    split at hw
    · rename_i hl
      simp only [RV] at r
      obtain ⟨t, us, rfl, ⟨it, nt⟩, hz, rs⟩ := r
      have := rs.len
      rw [assign_Tuple]
      refine wpAny_bind (wpAny_standAt ?_)
      unfold unpack
      have en : (assignEach es X.env).length = us.toArray.size := by rw [ae1, List.size_toArray]; omega
      rw [en, ae2]
      refine wpAny_bind (wpAny_holding (wpAny_hz (unpackItems_tuple (I.ok.hd hc) it fun h' hx hz' => ?_)))
      obtain ⟨I1, K1⟩ := I.kept (h' := h') (t := s.toks) (fun b o e => hx b o (Nat.ne_of_lt (Heap.lt_size e)) e) hz'
      exact h.run σ m ρ _ vs us Q E I1 (RVs.mono K1.rho K1.tups _ _ rs) (SR.rel K1.any hw)
    · exact hw.elim
  | _ => exact hw.elim
def sAsg (f : EV) (g : GV) : SV := fun σ m => (f σ m).toS σ fun v m1 => g v σ m1
theorem ss_asg {tg : Expr} {g : GV} (ha : SE X a f) (hg : SG X tg g) (hs : swapsWithSole [tg] a pos.line X.env = pure false) (hw : swappedStores [tg] a X.env = pure none) (ht : notStar tg = true) : SS X (.Assign [tg] a pos) (sAsg f g) := by
  refine ⟨fun σ m ρ s Q E I h => ?_⟩
  have h1 : (assignEach [tg] X.env).map (·.2) = [assign tg X.env] := by cases tg <;> first | rfl | cases ht
  refine wpAny_Assign_stores (ha.bdS I h fun v m1 u s1 ρ1 I1 K1 r1 h1 => ?_) hs hw
  rw [‹(assignEach [tg] X.env).map (·.2) = [assign tg X.env]›]
  show wpAny _ _ (assign tg X.env u) _ _ _
  exact hg.run σ m1 ρ1 s1 v u (fun s' => Q .next s') E I1 r1 (SR.satMono h1 (fun f s2 q e => by subst e; exact q) fun _ _ _ _ _ _ _ q => q)
/-- a, b = x, y with plain names, stored from the right -/
def setAll : List Nat → List D → SV
  | [], [], σ, m => .nxt σ m
  | i :: is, v :: vs, σ, m => match setS i v σ m with
    | some (σ', m') => setAll is vs σ' m'
    | none => .bad
  | _, _, _, _ => .bad
def sPar (is : List Nat) (fa : LV) : SV := fun σ m => (fa σ m).toS σ fun vs m1 => if vs.length = is.length then setAll is.reverse vs.reverse σ m1 else .bad
inductive Slots (X : Cx) : List Nat → List Str → Prop
  | nil : Slots X [] []
  | cons {i x is xs} : X.N[i]? = some x → StOk X x → Slots X is xs → Slots X (i :: is) (x :: xs)
theorem Slots.len {is : List Nat} {xs : List Str} (h : Slots X is xs) : is.length = xs.length := by
  induction h with
  | nil => rfl
  | cons _ _ _ ih => simp [ih]
theorem Slots.app {is js : List Nat} {xs ys : List Str} (h : Slots X is xs) (h2 : Slots X js ys) : Slots X (is ++ js) (xs ++ ys) := by
  induction h with
  | nil => exact h2
  | cons a b _ ih => exact .cons a b ih
theorem Slots.rev {is : List Nat} {xs : List Str} (h : Slots X is xs) : Slots X is.reverse xs.reverse := by
  induction h with
  | nil => exact .nil
  | cons a b _ ih => rw [List.reverse_cons, List.reverse_cons]; exact ih.app (.cons a b .nil)
theorem setAll_ok {is : List Nat} {xs : List Str} (h : Slots X is xs) : ∀ {σ m ρ s} (vs : List D) (us : List Value) (Q : Flow → Shared → Prop) (E : Value → Shared → Prop), Inv X σ m ρ s → RVs ρ s.heap vs us → (setAll is vs σ m).sat X ρ s Q E → wpAny (model X.G.P X.G.w) X.A (assignInOrder (xs.map fun x v => bindName X.env x v) us) (fun _ s' => Q .next s') E s := by
  induction h with
  | nil =>
    intro σ m ρ s vs us Q E I r hh
    cases vs with
    | nil => simp only [RVs] at r; subst r; exact assignInOrder_nil (hh s ρ I Kp.refl)
    | cons _ _ => exact hh.elim
  | @cons i x is xs h1 h2 _ ih =>
    intro σ m ρ s vs us Q E I r hh
    cases vs with
    | nil => exact hh.elim
    | cons v vs =>
      simp only [RVs] at r
      obtain ⟨u, us', rfl, r1, r2⟩ := r
      simp only [setAll] at hh
      cases e : setS i v σ m with
      | none => rw [e] at hh; exact hh.elim
      | some p =>
        obtain ⟨σ', m'⟩ := p
        rw [e] at hh
        rw [List.map_cons]
        refine assignInOrder_cons (wpAny_bindName (store_z I h1 h2 r1 e fun s' I' K' => ?_))
        exact ih vs us' Q E I' (RVs.mono K'.rho K'.tups _ _ r2) (SR.rel K' hh)
theorem ss_par {ts es : List Expr} {xs : List Str} {is : List Nat} {fa : LV} {kt k2 : Nat} {pt pt2 : Pos} (hc : X.calm = true) (hsl : Slots X is xs) (ha : SA X es fa) (hsm : is.length ≤ 100)
    (hw : swappedStores [.Tuple ts kt pt] (.Tuple es k2 pt2) X.env = pure (some xs)) (hs : swapsWithSole [.Tuple ts kt pt] (.Tuple es k2 pt2) pos.line X.env = pure false) :
    SS X (.Assign [.Tuple ts kt pt] (.Tuple es k2 pt2) pos) (sPar is fa) := by
  refine ⟨fun σ m ρ s Q E I h => ?_⟩
  rw [exec_Assign_arm]
  refine wpAny_bind (wpAny_standAt ?_)
  rw [hs]
  refine wpAny_bind (wpAny_pure ?_)
  rw [if_neg (by decide)]
  refine wpAny_bind (Tuple_ (ha.bdS _ I h fun vs m1 us s1 ρ1 I1 K1 r1 h1 => ?_))
  split at h1
  · rename_i hlen
    have hul := r1.len
    have hxs := hsl.len
    by_cases hz : us.length ≤ sizeLine
    · refine wpAny_newObj_type ?_ (by show us.toArray.size ≤ sizeLine; simpa using hz)
      obtain ⟨I2, K2⟩ := I1.kept (h' := s1.heap.push { cls := .type "tuple", data := .seq us.toArray }) (t := s1.toks) (fun b o e => Heap.get?_push_of_some _ e) (by simp)
      rw [hw]
      refine wpAny_bind (wpAny_pure ?_)
      have en : xs.length = us.toArray.size := by rw [List.size_toArray]; omega
      show wpAny (model X.G.P X.G.w) X.A (do rule "assign.swapped-stores"; let items ← unpackItems (.ref s1.heap.objs.size) xs.length none; assignInOrder (xs.reverse.map fun id => bindName X.env id) items.reverse; pure Flow.next) _ _ _
      rw [en]
      refine wpAny_bind (wpAny_rule (wpAny_bind (wpAny_hz (unpackItems_tuple (items := us.toArray) (I.ok.hd hc) (IsTup.new s1.heap _) fun h' hx' hz' => ?_))))
      obtain ⟨I3, K3⟩ := I2.kept (h' := h') (t := s1.toks) (fun b o e => hx' b o (Nat.ne_of_lt (Heap.lt_size e)) e) hz'
      refine wpAny_bind ?_
      have K13 := K2.trans K3
      have := setAll_ok hsl.rev vs.reverse us.reverse Q E I3 (RVs.rev (RVs.mono K13.rho K13.tups _ _ r1)) (SR.rel K13.any h1)
      exact wpAny_mono this (fun _ s' q => wpAny_pure q) fun _ _ q => q
    · exact absurd (show us.length ≤ sizeLine from by rw [sizeLine_eq]; omega) hz
  · exact h1.elim

/-! ### while -/
/-- an exception that crosses a loop's own code -/
theorem air_noted {x : Ex} {u : Value} (hA : X.A.frames = some X.stk) (hk : ∃ outer, X.stk = X.env :: outer) (hf : X.env.frame = some X.env.locals) (z : Air X X.wr σ m' ρ s x u s') (h : ∀ u s', Air X X.wr σ m' ρ s x u s' → E u s') :
    notedBy (model X.G.P X.G.w) X.A X.env (cameBackBy (model X.G.P X.G.w) X.A X.env E) u s' := by
  obtain ⟨outer, hs⟩ := hk
  obtain ⟨a, B, sI, ρ', d, rfl, I, K, nb, up, szI, sky, os, ag, la, na, xf⟩ := z
  have hfr : X.A.frames = some (X.env :: outer) := by rw [hA, hs]
  rw [hs] at sky
  show wpAny _ _ (noteFrame (.ref a) X.env) _ _ _
  have fin : ∀ h1, HandSPX.HeldZ B (X.env :: outer) a (L2.Zc (.ref x.C) d) X.env.locals h1 → s'.heap.UpToSlots h1 → s'.heap.objs.size ≤ h1.objs.size → cameBackBy (model X.G.P X.G.w) X.A X.env E (.ref a) { s' with heap := h1 } := fun h1 hh up1 sz1 => by
    obtain ⟨f1, f2, f3, oe, vs, T, oT, ts, he, hz, hd, h1', hr⟩ := id hh
    unfold cameBackBy
    refine wpAny_bind (wpAny_field he hd h1' ?_)
    rw [if_neg (show ¬ ((Value.ref T == Value.none) = true) from by simp)]
    have fin2 : wpAny (model X.G.P X.G.w) X.A (setFlight (.ref a) X.env.frame) (fun _ s'' => E (.ref a) s'') E { s' with heap := h1 } := by
      rw [hf]
      refine wpAny_hz (HandSPX.setFlight_onZ hh fun h2 hh2 up2 sz2 => h _ _ ?_)
      exact ⟨a, B, sI, ρ', d, rfl, I, K, nb, (up.trans up1).trans up2, Nat.le_trans (Nat.le_trans szI sz1) sz2, .inr (.inr (by rw [hs]; exact hh2)), os, ag, la, na, xf⟩
    first
      | exact wpAny_bind (wpAny_pure fin2)
      | exact fin2
  refine wpAny_hz ?_
  rcases sky with ⟨hB, hn, hl, oe, vs, he, hz, hd, h1⟩ | fl | hh
  · exact HandSPX.look_newZ L2.Zc.steady hfr hl hf he hB hn hd h1 hz fin
  · exact HandSPX.looks_onZ L2.Zc.steady hfr hf fl fin
  · exact HandSPX.againZ hf hh.2.2.2 (fun _ => fin s'.heap hh (Heap.UpToSlots.refl _) (Nat.le_refl _))
/-- a frame that is at the top -/
structure Top (X : Cx) : Prop where
  stk : ∃ outer, X.stk = X.env :: outer
  fr : X.env.frame = some X.env.locals
def sWhile (c : TV) (body : SV) : Nat → SV
  | 0 => fun _ _ => .bad
  | n + 1 => fun σ m => (c σ m).toS σ fun b m1 => if b = true then (match body σ m1 with
      | .nxt σ2 m2 => sWhile c body n σ2 m2
      | .cnt σ2 m2 => sWhile c body n σ2 m2
      | .brk σ2 m2 => .nxt σ2 m2
      | r => r) else .nxt σ m1
theorem ss_while {c : Expr} {body : List Stmt} {tc : TV} {tb : SV} (n : Nat) (tp : Top X) (hc : ST X c tc) (hb : SB X body tb) : SS X (.While c body [] pos) (sWhile tc tb n) := by
  refine ⟨fun σ m ρ s Q E I h => ?_⟩
  refine wpAny_While (codeAny_whileLoop (fun k s' => ∃ σ' m' ρ', Inv X σ' m' ρ' s' ∧ Kp X.fs X.wr ρ ρ' s s' ∧ (sWhile tc tb k σ' m').sat X ρ s Q E) ?_ n ⟨σ, m, ρ, I, Kp.refl, h⟩)
  rintro k s1 ⟨σ1, m1, ρ1, I1, K1, h1⟩
  cases k with
  | zero => exact h1.elim
  | succ k =>
    have noted : ∀ {r : SR} {ρ2 s2}, Kp X.fs X.wr ρ ρ2 s s2 → r.sat X ρ s Q E → ∀ x σ' m' u s', r = .exc x σ' m' → Air X X.wr σ' m' ρ2 s2 x u s' → notedBy (model X.G.P X.G.w) X.A X.env (cameBackBy (model X.G.P X.G.w) X.A X.env E) u s' := fun {r ρ2 s2} K2 hr x σ' m' u s' e z => by
      subst e
      exact air_noted I.ok.frames tp.stk tp.fr (z.after K2) hr
    simp only [sWhile] at h1
    have h1' := SR.rel K1 h1
    refine hc.run σ1 m1 ρ1 s1 _ _ I1 ?_
    cases e : tc σ1 m1 with
    | bad => rw [e] at h1; exact h1.elim
    | exc x m2 =>
      rw [e] at h1
      exact fun u s' z => noted K1 (r := .exc x σ1 m2) h1 x σ1 m2 u s' rfl (z.weak fun _ w => w.elim)
    | ok b m2 =>
      rw [e] at h1
      dsimp only [Res.toS] at h1
      intro s2 ρ2 I2 K2
      have K12 := K1.trans K2.any
      cases b with
      | false =>
        rw [if_neg Bool.false_ne_true]
        rw [if_neg Bool.false_ne_true] at h1
        exact wpAny_execs_nil (h1 s2 ρ2 I2 K12)
      | true =>
        rw [if_pos rfl]
        rw [if_pos rfl] at h1
        refine hb.run σ1 m2 ρ2 s2 _ _ I2 ?_
        cases eb : tb σ1 m2 with
        | nxt σ3 m3 =>
          rw [eb] at h1
          exact fun s3 ρ3 I3 K3 => ⟨k, Nat.lt_succ_self _, σ3, m3, ρ3, I3, K12.trans K3, h1⟩
        | cnt σ3 m3 =>
          rw [eb] at h1
          exact fun s3 ρ3 I3 K3 => ⟨k, Nat.lt_succ_self _, σ3, m3, ρ3, I3, K12.trans K3, h1⟩
        | brk σ3 m3 =>
          rw [eb] at h1
          exact fun s3 ρ3 I3 K3 => h1 s3 ρ3 I3 (K12.trans K3)
        | ret v m3 =>
          rw [eb] at h1
          exact fun u s3 ρ3 σ3 I3 K3 r3 => h1 u s3 ρ3 σ3 I3 (K12.trans K3) r3
        | exc x σ3 m3 =>
          rw [eb] at h1
          exact fun u s' z => noted K12 (r := .exc x σ3 m3) h1 x σ3 m3 u s' rfl z
        | bad => rw [eb] at h1; exact h1.elim
end
end Z

set_option Elab.async false
set_option linter.all false
set_option maxRecDepth 100000
/-! the engine, part O: own exceptions -/
namespace Z
open PySem PySem.Spec PyProof.Rows
open L2 (frs)

/-- the own __init__ of one field -/
structure Ini (K : PySem.W.Frag) (C fI : Addr) (slf x fld : Str) (fd : FuncData) : Prop where
  oex : L2.OexC K C
  find : PySem.W.findIn K (.ref C) "__init__" = some (some (.ref fI))
  ty : PySem.W.typeIn K (.ref fI) = some (.type "function")
  lk : ∃ oc od osl, K.lookup fI = some ⟨oc, od, .func fd, osl⟩
  fn : ∃ name qual params scope dV kV doc pm an cd ct p1 p2 p3 p4, fd = PySem.W.fnOf name qual params [.Assign [.Attribute (.Name slf p1) fld p2] (.Name x p3) p4] scope dV kV doc pm an cd ct ∧ PySem.W.codeIn K cd qual = true ∧
    scope.kind = .function ∧ scope.isCoroutine = false ∧ scope.isGenerator = false ∧ scope.names.lookup slf = some .local ∧ scope.names.lookup x = some .local
  ne : slf ≠ x
  hd1 : (slf == ("__debug__" : Str)) = false
  hd2 : (x == ("__debug__" : Str)) = false
  no : PySem.W.findIn K (.ref C) fld = some none
  bind : ∀ a u : Value, bindArgs fd ⟨[a, u], []⟩ = pure [(slf, a), (x, u)]

section
variable {P : Program} {w : World} {K : PySem.W.Frag} {A : Around} {C fI : Addr} {slf x fld : Str} {fd : FuncData} {R : Result → Shared → Prop} {hp : Heap} {g : Array GenState} {d : Drawn} {t : Nat} {os : OsState} {u : Value}
/-- C(u): the args' tuple, the exception, its dict -/
theorem call_ini (T : Ini K C fI slf x fld fd) (X : K.In hp) (lim : hp.NoLimit) (hr : L2.Room 2 A)
    (hq : ∀ h' dx tk, (∀ b o, hp.get? b = some o → h'.get? b = some o) → hp.objs.size + 1 < h'.objs.size → hp.objs.size ≤ dx → dx ≠ hp.objs.size + 1 →
      h'.get? (hp.objs.size + 1) = some { cls := .ref C, dict := some dx, data := .fields #[.ref hp.objs.size, .none, .none, .none, .bool false, .none] } → h'.Ns1 dx (fun y => if y = fld then some u else none) → R (.ok (.ret (.ref (hp.objs.size + 1)))) ⟨h', g, d, tk, os⟩) :
    codeAny (model P w) A (.call (.ref C) ⟨[u], []⟩) R ⟨hp, g, d, t, os⟩ := by
  obtain ⟨nm, q, N, bs, bm, sn, sub, ab, col, dd, k0, k1, k2, k3, k5, hC, hbm⟩ := T.oex.cls
  have hcl : PySem.W.clsIn K C = some { name := nm, bases := bs, mro := .ref C :: bm, ns := N, qualname := q, hasDict := true, slotNames := sn, subclasses := sub, abstract := ab, collection := col, hasDel := false } := by unfold PySem.W.clsIn; rw [hC] <;> rfl
  obtain ⟨oc, od, osl, lk⟩ := T.lk
  obtain ⟨name, qual, params, scope, dV, kV, doc, pm, an, cd, ct, p1, p2, p3, p4, efd, hcd, sk, sco, sge, lks, lkx⟩ := T.fn
  have bnd := T.bind
  have rec0 : A.depth < recursionLimit := hr.depth
  refine HandSPX.call_own F.excBase_ValueError (fun Y => HandSPX.refsVE_contains Y bm hbm) (X _ _ hC) (PySem.W.looks_findIn X T.find) (fun me => PySem.W.bind_fn X me T.ty) (by show 1 ≤ sizeLine; decide) ?_
  have kk : ∀ b o, hp.get? b = some o → ((hp.push (PySem.W.kdv_tup [u])).push (HandSPX.excO C hp.objs.size)).get? b = some o := fun b o e => Heap.get?_push_of_some _ (Heap.get?_push_of_some _ e)
  have hget : ((hp.push (PySem.W.kdv_tup [u])).push (HandSPX.excO C hp.objs.size)).get? (hp.objs.size + 1) = some (HandSPX.excO C hp.objs.size) := by heap_get
  have hsz : ((hp.push (PySem.W.kdv_tup [u])).push (HandSPX.excO C hp.objs.size)).objs.size = hp.objs.size + 2 := by rw [Heap.size_push, Heap.size_push]
  generalize hh2 : (hp.push (PySem.W.kdv_tup [u])).push (HandSPX.excO C hp.objs.size) = h2 at kk hget hsz ⊢
  have X2 : K.In h2 := X.keeps kk
  subst efd
  have hr1 := hr.make C [u] []
  refine codeAny_call_function hr1.depth (X2 _ _ lk) rfl sco sge rfl (PySem.W.codeRec_of X2 hcd) ?_
  rw [bnd]
  refine wpAny_pure ?_
  refine wpAny_newFunctionEnv_cells sk (fun y hy => ?_) fun env he s1 z => ?_
  · simp only [List.mem_cons, List.mem_nil_iff, or_false] at hy
    rcases hy with rfl | rfl
    · exact .inl lks
    · exact .inl lkx
  subst he
  obtain ⟨h1, tk, rfl, hk⟩ := z.done
  refine ⟨(lim.keeps kk).keeps hk, codeAny_func ?_⟩
  have kind : ∀ y, (envOfC qual scope h2.objs.size fI cd).kindOf y = scope.names.lookup y := fun _ => rfl
  have vx : bindL (envOfC qual scope h2.objs.size fI cd).kindOf [(slf, Value.ref (hp.objs.size + 1)), (x, u)] (fun _ => none) x = some u :=
    L2.bindL_get (P := [slf, x]) (vs := [.ref (hp.objs.size + 1), u]) (i := 1) (by simp [T.ne]) rfl rfl lkx
  have vs : bindL (envOfC qual scope h2.objs.size fI cd).kindOf [(slf, Value.ref (hp.objs.size + 1)), (x, u)] (fun _ => none) slf = some (.ref (hp.objs.size + 1)) :=
    L2.bindL_get (P := [slf, x]) (vs := [.ref (hp.objs.size + 1), u]) (i := 0) (by simp [T.ne]) rfl rfl lks
  refine wpAny_execs_cons (plainObj_wpAny_Assign_Attribute (wpAny_Name (wpAny_loadName_local sk lkx z.toInCall.ns vx ?_) T.hd2))
  refine wpAny_Name (wpAny_loadName_local sk lks z.toInCall.ns vs ?_) T.hd1
  have X3 : K.In h1 := X2.keeps hk
  have ho := hk _ _ hget
  refine PySem.W.set_plain X3 (ox := { cls := .ref C, dict := none, data := .fields #[.ref hp.objs.size, .none, .none, .none, .bool false, .none] }) (od := none) ⟨ho, rfl, rfl, trivial⟩ T.oex.sa ?_
  refine codeAny_hz ?_
  refine HandSPX.exc_osa X3 ho hcl (show HandSPX.refsVE (.ref C :: bm) = true from hbm) rfl T.no (fun h' tk' dx k dn dne hx hn hz' => ?_)
  refine wpAny_execs_nil ?_
  refine ⟨rfl, hq h' dx tk' (fun b o e => k b o (fun zz => ?_) (hk _ _ (kk _ _ e))) (Heap.lt_size hx) ?_ dne hx hn⟩
  · have q := Heap.lt_size e
    rw [zz] at q
    exact Nat.lt_irrefl _ (Nat.lt_trans (Nat.lt_succ_self _) q)
  · have a1 : h2.objs.size ≤ h1.objs.size := Nat.le_of_lt z.toInCall.ns.lt
    have a2 : h1.objs.size ≤ dx := dn
    rw [hsz] at a1
    exact Nat.le_trans (Nat.le_trans (Nat.le_add_right _ 2) a1) a2
end
/-- raise C(e) -/
def sRaise (C : Addr) (fld : Nm) (f : EV) : SV := fun σ m => (lCons f lNil σ m).toS σ fun vs m1 => match vs with
  | [v] => .exc ⟨C, [fld], [v]⟩ σ m1
  | _ => .bad
section
variable {X : Cx} {C fI : Addr} {slf x : Str} {fld : Nm} {fd : FuncData} {e : Expr} {f : EV} {cn : Str} {np cp pos : Pos}
theorem air_new {σ : Sl} {m : Store} {ρ : Rho} {s : Shared} {h' : Heap} {t : Nat} {a dx : Addr} {v : D} {u : Value} {oe : Obj} {vs : Array Value} (I : Inv X σ m ρ s) (rv : RV ρ s.heap v u)
    (k : ∀ b o, s.heap.get? b = some o → h'.get? b = some o) (sz : s.heap.objs.size ≤ h'.objs.size) (ha : s.heap.objs.size ≤ a) (he : h'.get? a = some oe) (hz : L2.Zc (.ref C) (some dx) oe) (hd : oe.data = .fields vs) (h1 : vs[1]? = some .none)
    (hdx : s.heap.objs.size ≤ dx) (hne : dx ≠ a) (hns : h'.Ns1 dx fun y => if y = Nm.s fld then some u else none) :
    Air X X.wr σ m ρ s ⟨C, [fld], [v]⟩ (.ref a) { s with heap := h', toks := t } := by
  have fresh : s.heap.get? a = none := by
    cases q : s.heap.get? a with
    | none => rfl
    | some o => exact absurd (Nat.lt_of_lt_of_le (Heap.lt_size q) ha) (Nat.lt_irrefl _)
  have kG : ∀ b o, s.heap.get? b = some o → (PySem.W.hideAll h' [a]).get? b = some o := fun b o q => PySem.W.hideAll_get _ (k b o q) fun hm => by
    rw [List.mem_singleton] at hm
    rw [hm, fresh] at q; cases q
  obtain ⟨IG, KG⟩ := I.kept (h' := PySem.W.hideAll h' [a]) (t := t) kG (by rw [PySem.W.hideAll_size]; exact sz)
  have ga : (PySem.W.hideAll h' [a]).get? a = none := PySem.W.hideAll_none _ (List.mem_singleton.mpr rfl)
  have kB : ∀ b o, (PySem.W.hideAll h' [a]).get? b = some o → h'.get? b = some o := fun b o q => PySem.W.of_hideAll _ q
  refine ⟨a, PySem.W.hideAll (PySem.W.hideAll h' [a]) (frs X.stk), _, ρ, some dx, rfl, IG, KG.any, fun b o q hb => PySem.W.hideAll_get _ q hb, Heap.UpToSlots.of_keeps kB, (by rw [PySem.W.hideAll_size]; exact Nat.le_refl _), .inl ⟨fun b o q => kB b o (PySem.W.of_hideAll _ q), ?_, ?_, oe, vs, he, hz, hd, h1⟩, rfl, I.S.bare, ha, I.S.fresh ha, ?_⟩
  · cases q : (PySem.W.hideAll (PySem.W.hideAll h' [a]) (frs X.stk)).get? a with
    | none => rfl
    | some o =>
      have z := PySem.W.of_hideAll _ q
      rw [ga] at z; cases z
  · exact Heap.FunFrames.of_keeps (fun b o q _ => ⟨o, kB b o q, rfl⟩) (L2.funFrames_none IG.S.funs fun b hb => PySem.W.hideAll_none _ hb)
  · refine .inr ⟨dx, [u], rfl, ?_, RVs.cons (RV.mono KG.rho KG.tups _ _ rv) RVs.nil, rfl, I.S.fresh hdx, fun hm => ?_, hdx⟩
    · obtain ⟨o, es, ep, q, r1, r2, r3, r4⟩ := hns
      refine ⟨o, es, ep, PySem.W.hideAll_get _ q (by simpa using hne), r1, r2, r3, fun y => (r4 y).trans ?_⟩
      show _ = ((([fld].map Nm.s).zip [u]).lookup y)
      simp only [List.map_cons, List.map_nil, List.zip_cons_cons, List.zip_nil_right]
      by_cases e : y = Nm.s fld
      · subst e; simp [List.lookup]
      · have e2 : (y == Nm.s fld) = false := by simpa using e
        simp [List.lookup, e, e2]
    · obtain ⟨_, o, q, _⟩ := I.S.funs.mem hm
      exact absurd (Nat.lt_of_lt_of_le (Heap.lt_size q) hdx) (Nat.lt_irrefl _)
theorem ss_raise (hc : X.calm = true) (hr : L2.Room 2 X.A) (T : Ini X.G.K C fI slf x (Nm.s fld) fd) (hx : Nam X cn (.ref C)) (ha : SE X e f) (hp : notStar e = true) : SS X (.Raise (some (.Call (.Name cn np) [e] [] cp)) none pos) (sRaise C fld f) := by
  refine ⟨fun σ m ρ s Q E I h => ?_⟩
  show wpAny _ _ (do standAt pos; raiseStmt X.env (some (do let v ← eval (.Call (.Name cn np) [e] [] cp) X.env; standAt pos; pure v)) none) _ _ _
  refine wpAny_bind (wpAny_standAt (L2.raise_made (I.ok.hd hc) (wpAny_bind ?_)))
  refine wpAny_Call_Name_kw (hx.ld σ m ρ s np _ E I ?_)
  refine PySem.W.callWith_of (P := fun h => X.G.K.In h) (by rw [star_plain (by simp [plainEs, hp])]; rfl) (fun h q => PySem.W.keeps_K T.oex.kC h q) ?_
  refine evalArgs_kw2 rfl ?_ (star_cons hp)
  refine (sa_cons ha sa_nil (star_cons hp)).bdS cp I h fun vs m1 us s1 ρ1 I1 K1 r1 h1 => ?_
  refine wpAny_evalAll_nil ⟨I1.kIn, ?_⟩
  cases vs with
  | nil => exact h1.elim
  | cons v vs =>
    cases vs with
    | cons _ _ => exact h1.elim
    | nil =>
      simp only [RVs] at r1
      obtain ⟨u, q, rfl, rv, rfl⟩ := r1
      obtain ⟨hp, g, d, t, os⟩ := s1
      refine wpAny_call (call_ini T I1.kIn I1.nolimit hr fun h' dx tk k sz hdx hne he hns => ?_)
      refine wpAny_bind (wpAny_standAt (wpAny_pure ?_))
      have kin := I1.kIn.keeps k
      refine ⟨_, _, _, .ref C, rfl, he, rfl, rfl, rfl, PySem.W.looks_subIn kin T.oex.exC, PySem.W.looks_typeIn kin T.oex.tyC, h1 _ _ (air_new (t := tk) I1 rv k (Nat.le_of_lt (Nat.lt_of_le_of_lt (Nat.le_succ _) sz)) (Nat.le_succ _) he ⟨rfl, rfl⟩ rfl rfl hdx hne hns)⟩
end
end Z

set_option Elab.async false
set_option linter.all false
set_option maxRecDepth 100000
/-! the engine, part P: fields of exceptions, try -/
namespace Z
open PySem PySem.Spec PyProof.Rows
open L2 (frs)

theorem RV.handed {ρ : Rho} {h : Heap} {v : D} {u : Value} (r : RV ρ h v u) : PySem.W.handedIn u = true := by
  cases v with
  | non => cases r; rfl
  | bl _ => cases r; rfl
  | int _ => obtain ⟨t, rfl⟩ := r; rfl
  | str _ => obtain ⟨t, rfl⟩ := r; rfl
  | tup _ => simp only [RV] at r; obtain ⟨_, _, rfl, _⟩ := r; rfl
  | ref _ => obtain ⟨_, _, _, rfl⟩ := r; rfl
  | glo _ => cases r; rfl
  | ty _ => cases r; rfl
/-- the field n -/
def fldOf (n : Nm) : List Nm → List D → Option D
  | x :: xs, v :: vs => if n = x then some v else fldOf n xs vs
  | _, _ => none
theorem fldOf_look {ρ : Rho} {h : Heap} {n : Nm} {v : D} : ∀ {ns : List Nm} {vs : List D} {us : List Value}, RVs ρ h vs us → fldOf n ns vs = some v → ∃ u, ((ns.map Nm.s).zip us).lookup (Nm.s n) = some u ∧ RV ρ h v u
  | [], _, _, _, e => by simp [fldOf] at e
  | x :: ns, [], _, _, e => by simp [fldOf] at e
  | x :: ns, w :: vs, us, r, e => by
    simp only [RVs] at r
    obtain ⟨u, q, rfl, r1, r2⟩ := r
    simp only [fldOf] at e
    split at e
    · rename_i hx
      cases e
      subst hx
      exact ⟨u, by simp [List.lookup], r1⟩
    · rename_i hx
      obtain ⟨u', h1, h2⟩ := fldOf_look r2 e
      refine ⟨u', ?_, h2⟩
      have e2 : (Nm.s n == Nm.s x) = false := by simpa using fun z => hx (nm_inj z)
      simp only [List.map_cons, List.zip_cons_cons, List.lookup, e2]
      exact h1
def eAttr (ok : Addr → Bool) (n : Nm) (f : EV) : EV := fun σ m => (f σ m).bind fun v m1 => match v with
  | .ref i => match m1.cs[i]? with
    | some (.exc C ns vs) => if ok C = true then (match fldOf n ns vs with | some w => .ok w m1 | none => .bad) else .bad
    | _ => .bad
  | _ => .bad
section
variable {X : Cx} {σ σ' : Sl} {m m' : Store} {ρ ρ1 ρ' : Rho} {s s1 s' sI : Shared} {a b c : Expr} {f g : EV} {E : Value → Shared → Prop} {pos : Pos}
theorem se_attr {ok : Addr → Bool} {n : Nm} (ha : SE X a f) (hb : attributeBase a (Nm.s n) X.env (eval a X.env) = eval a X.env) (hok : ∀ C, ok C = true → L2.XfC X.G.K C ∧ PySem.W.findIn X.G.K (.ref C) (Nm.s n) = some none) : SE X (.Attribute a (Nm.s n) pos) (eAttr ok n f) := by
  refine ⟨fun σ m ρ s Q E I h => ?_⟩
  refine L2.attr_of hb (ha.bd I h fun v m1 u s1 ρ1 I1 K1 r1 h1 => ?_)
  split at h1
  · rename_i i
    split at h1
    · rename_i C ns vs ec
      split at h1
      · rename_i hC
        obtain ⟨T, hno⟩ := hok C hC
        cases e : fldOf n ns vs with
        | none => rw [e] at h1; exact h1.elim
        | some w =>
          rw [e] at h1
          obtain ⟨p, hp, o, g, hc, ⟨fv, hf⟩, y⟩ := I1.S.at ec
          obtain rfl := RV.ref_of hp r1
          rcases y with ⟨y1, _⟩ | ⟨y1, y2, us, y3, y4, y5⟩
          · subst y1; simp [fldOf] at e
          · obtain ⟨u, hu, ru⟩ := fldOf_look y3 e
            obtain ⟨od, ho, hl⟩ := L2.lookIn_ns y5
            have J : PySem.W.InstAt s1.heap p.1 o C (some od) := ⟨g, hc, by unfold PySem.W.notCls; rw [hf] <;> rfl, by rw [y1]; exact ho⟩
            exact HandSPX.exc_get I1.kIn J T.ga T.gg T.exC (PySem.W.findObj_own T.hdC hno rfl (by rw [hl, hu])) ru.handed (h1 u _ ρ1 (I1.tok _) (K1.trans (Kp.tok _)) ru)
      · exact h1.elim
    · exact h1.elim
  · exact h1.elim

/-! ### back on the ground -/
theorem Inv.landed {B : Heap} (I : Inv X σ m ρ sI) (nb : ∀ b o, sI.heap.get? b = some o → b ∉ frs X.stk → B.get? b = some o) (st : B.StaysIn s'.heap) (up : sI.heap.UpToSlots s'.heap) (sz : sI.heap.objs.size ≤ s'.heap.objs.size) (os : s'.os = sI.os) (ag : AllBare s'.gens) :
    Inv X σ m ρ s' ∧ Kp X.fs noex ρ ρ sI s' := by
  have all : ∀ b o, sI.heap.get? b = some o → ∃ sl, s'.heap.get? b = some { o with slots := sl } := fun b o e => by
    by_cases hb : b ∈ frs X.stk
    · obtain ⟨_, o', e', hd⟩ := I.S.funs.mem hb
      rw [e] at e'; cases e'
      exact up b o e hd
    · exact ⟨o.slots, st b o (nb b o e hb)⟩
  have nf : ∀ b o, sI.heap.get? b = some o → b ∉ frs X.stk → s'.heap.get? b = some o := fun b o e hb => st b o (nb b o e hb)
  have recs : ∀ b o vs, sI.heap.get? b = some o → o.data = .fields vs → b ∉ frs X.stk := fun b o vs e d hb => by
    obtain ⟨_, o', e', hd⟩ := I.S.funs.mem hb
    rw [e] at e'; cases e'
    exact hd vs d
  have K : Kp X.fs noex ρ ρ sI s' := by
    refine ⟨⟨[], by simp, fun _ z => nomatch z⟩, sz, TupK.same fun b us ⟨o, e, c, n, d⟩ _ => ?_, fun cv q ⟨c, u, vs, t, e0, e, d, v⟩ => ⟨c, u, vs, t, e0, nf c u e (recs c u vs e d), d, v⟩, fun b o e _ _ hb => nf b o e hb, fun b o e _ _ => all b o e⟩
    obtain ⟨sl, q⟩ := all b o e
    exact ⟨_, q, c, n, d⟩
  have S : SInv X.G X.stk m ρ s' := by
    refine ⟨os.trans I.S.os, ag, fun b o e => nf b o (I.S.base b o e) (I.S.nofr e), I.S.nbase, Heap.FunFrames.of_keeps (fun b o e _ => ?_) I.S.funs, I.S.frn, I.S.len, I.S.disj, fun i p c e1 e2 => ?_⟩
    · obtain ⟨sl, q⟩ := all b o e
      exact ⟨_, q, rfl⟩
    · refine (I.S.cel i p c e1 e2).stay (RhoK.refl ρ) K.tups (fun b o hb e => nf b o e fun hm => ?_) K.codes K.sz
      have := (I.S.frn b hm).get e1
      rcases hb with hb | hb
      · exact this.1 hb
      · exact this.2 hb
  exact ⟨I.go K S I.low I.lowle, K⟩
/-- a caught exception becomes a cell -/
theorem Inv.caught {a : Addr} {oe : Obj} {fv : Array Value} {x : Ex} {d : Option Addr} (tp : Top X) (I : Inv X σ m ρ s) (ha : s.heap.get? a = some oe) (hz : L2.Zc (.ref x.C) d oe) (hd : oe.data = .fields fv) (na : NotIn ρ a) (nf : a ∉ X.fs) (xf : ExF 0 X.fs s.heap ρ d x) :
    ∃ p2, Inv X σ (m.push (.exc x.C x.ns x.vs)) (ρ ++ [(a, p2)]) s ∧ TupK ρ (ρ ++ [(a, p2)]) s.heap s.heap ∧ (∀ b, b ≠ a → b ≠ p2 → NotIn ρ b → NotIn (ρ ++ [(a, p2)]) b) ∧ (p2 = a ∨ d = some p2) := by
  obtain ⟨p2, hp⟩ : ∃ p2, p2 = d.getD a := ⟨_, rfl⟩
  have fa : ∀ {o : Obj}, s.heap.get? a = some o → (∀ vs, o.data ≠ .fields vs) → False := fun e n => by rw [ha] at e; cases e; exact n _ hd
  -- the second address
  have p2ok : NotIn ρ p2 ∧ p2 ∉ X.fs ∧ (p2 = a ∨ ∃ o es ep, s.heap.get? p2 = some o ∧ o.data = .dict es ep) ∧ (p2 = a ∨ d = some p2) := by
    rcases xf with ⟨_, _, h3⟩ | ⟨dx, us, h1, ⟨o, es, ep, e, dd, _⟩, _, _, h5, h6, _⟩
    · rw [h3] at hp; subst hp; exact ⟨na, nf, .inl rfl, .inl rfl⟩
    · rw [h1] at hp
      have hp : p2 = dx := hp
      subst hp
      exact ⟨h5, h6, .inr ⟨o, es, ep, e, dd⟩, .inr h1⟩
  obtain ⟨n2, f2, o2, q2⟩ := p2ok
  have ni : ∀ b, b ≠ a → b ≠ p2 → NotIn ρ b → NotIn (ρ ++ [(a, p2)]) b := fun b h1 h2 n => NotIn.app.mpr ⟨n, fun p hp => by
    rw [List.mem_singleton.mp hp]; exact ⟨h1, h2⟩⟩
  have tk : TupK ρ (ρ ++ [(a, p2)]) s.heap s.heap := fun b us ⟨t, n⟩ => ⟨t, ni b (fun z => by
    subst z
    obtain ⟨o, e, c, _⟩ := t
    rw [ha] at e; cases e
    rw [hz.1] at c; cases c) (fun z => by
    subst z
    rcases o2 with z | ⟨o, es, ep, e, dd⟩
    · subst z
      obtain ⟨o, e, c, _⟩ := t
      rw [ha] at e; cases e
      rw [hz.1] at c; cases c
    · obtain ⟨o', e', _, k, d'⟩ := t
      rw [e] at e'; cases e'
      rw [dd] at d'; cases d') n⟩
  have rk := RhoK.app ρ [(a, p2)]
  have lastρ : ∀ {i : Nat} {p : Addr × Addr}, (ρ ++ [(a, p2)])[i]? = some p → (i < ρ.length ∧ ρ[i]? = some p) ∨ (i = ρ.length ∧ p = (a, p2)) := fun {i p} e => by
    by_cases h : i < ρ.length
    · rw [List.getElem?_append_left h] at e; exact .inl ⟨h, e⟩
    · rw [List.getElem?_append_right (by omega)] at e
      have h1 : i - ρ.length < 1 := (List.getElem?_eq_some_iff.mp e).1
      have h2 : i = ρ.length := by omega
      subst h2
      simp at e
      exact .inr ⟨rfl, e.symm⟩
  have celx : CelOk X.G (ρ ++ [(a, p2)]) s.heap (a, p2) (.exc x.C x.ns x.vs) := by
    refine ⟨oe, ha, hz.1, ⟨fv, hd⟩, ?_⟩
    rcases xf with ⟨h1, h2, h3⟩ | ⟨dx, us, h1, h2, h3, h4, h5, h6, _⟩
    · rw [h3] at hp
      exact .inl ⟨h1, h2, hp, hz.2.trans h3⟩
    · rw [h1] at hp
      have hp : p2 = dx := hp
      subst hp
      refine .inr ⟨hz.2.trans h1, fun z => ?_, us, RVs.mono rk tk _ _ h3, h4, h2⟩
      obtain ⟨o, es, ep, e, dd, _⟩ := h2
      have z : p2 = a := z
      subst z
      exact fa e fun vs q => by rw [dd] at q; cases q
  have S : SInv X.G X.stk (m.push (.exc x.C x.ns x.vs)) (ρ ++ [(a, p2)]) s := by
    refine ⟨I.S.os, I.S.bare, I.S.base, fun i p c e1 e2 hw => ?_, I.S.funs, fun b hb => ni b (fun z => nf (z ▸ hb)) (fun z => f2 (z ▸ hb)) (I.S.frn b hb), by simp [Store.push, I.S.len], fun i j p q ne e1 e2 => ?_, fun i p c e1 e2 => ?_⟩
    · rcases lastρ e1 with ⟨h, e1⟩ | ⟨h, rfl⟩
      · rw [show (m.push (.exc x.C x.ns x.vs)).cs = m.cs ++ [.exc x.C x.ns x.vs] from rfl, List.getElem?_append_left (by rw [← I.S.len]; exact h)] at e2
        exact I.S.nbase i p c e1 e2 hw
      · subst h
        rw [show (m.push (.exc x.C x.ns x.vs)).cs = m.cs ++ [.exc x.C x.ns x.vs] from rfl, I.S.len, List.getElem?_append_right (Nat.le_refl _)] at e2
        simp at e2
        subst e2
        cases hw
    · have ne2 : ∀ {k : Nat} {r : Addr × Addr}, ρ[k]? = some r → a ≠ r.1 ∧ a ≠ r.2 ∧ p2 ≠ r.1 ∧ p2 ≠ r.2 := fun e => ⟨(na.get e).1, (na.get e).2, (n2.get e).1, (n2.get e).2⟩
      rcases lastρ e1 with ⟨h1, e1⟩ | ⟨h1, rfl⟩ <;> rcases lastρ e2 with ⟨h2, e2⟩ | ⟨h2, rfl⟩
      · exact I.S.disj i j p q ne e1 e2
      · have := ne2 e1
        exact ⟨Ne.symm this.1, Ne.symm this.2.2.1, Ne.symm this.2.1, Ne.symm this.2.2.2⟩
      · have := ne2 e2
        exact ⟨this.1, this.2.1, this.2.2.1, this.2.2.2⟩
      · omega
    · rcases lastρ e1 with ⟨h, e1⟩ | ⟨h, rfl⟩
      · rw [show (m.push (.exc x.C x.ns x.vs)).cs = m.cs ++ [.exc x.C x.ns x.vs] from rfl, List.getElem?_append_left (by rw [← I.S.len]; exact h)] at e2
        exact (I.S.cel i p c e1 e2).stay rk tk (fun _ _ _ e => e) (fun _ _ q => q) (Nat.le_refl _)
      · subst h
        rw [show (m.push (.exc x.C x.ns x.vs)).cs = m.cs ++ [.exc x.C x.ns x.vs] from rfl, I.S.len, List.getElem?_append_right (Nat.le_refl _)] at e2
        simp at e2
        subst e2
        exact celx
  have nob : ∀ c v, s.heap.IsCell c v → c ≠ a ∧ c ≠ p2 := by
    rintro c v ⟨o, e, dd⟩
    have ca : c ≠ a := fun z => by
      subst z
      exact fa e fun vs q => by rw [dd] at q; cases q
    refine ⟨ca, fun z => ?_⟩
    rcases o2 with z2 | ⟨o', es, ep, e', d'⟩
    · exact ca (z.trans z2)
    · rw [← z, e] at e'
      cases e'
      rw [dd] at d'; cases d'
  have niC : ∀ y c, X.env.cells.lookup y = some c → NotIn ρ c → NotIn (ρ ++ [(a, p2)]) c := fun y c e n => by
    obtain ⟨v, ic⟩ := I.cell y c e n
    exact ni c (nob c v ic).1 (nob c v ic).2 n
  have inF : X.env.locals ∈ X.fs := by
    obtain ⟨outer, hs⟩ := tp.stk
    show _ ∈ frs X.stk
    rw [hs]
    unfold frs
    rw [List.filterMap_cons, tp.fr]
    exact List.mem_cons_self
  have lin : X.env.locals ≠ a ∧ X.env.locals ≠ p2 := ⟨fun z => nf (z ▸ inF), fun z => f2 (z ▸ inF)⟩
  refine ⟨p2, ⟨I.ok, S, fun y c e n => I.cell y c e (NotIn.app.mp n).1, ?_, ni _ lin.1 lin.2 I.ln, I.slen, fun i hi => ?_, ?_⟩, tk, ni, q2⟩
  · obtain ⟨mm, hn, hl⟩ := I.loc
    exact ⟨mm, hn, fun i y sl e1 e2 => (hl i y sl e1 e2).mono rk tk (fun c e n => niC y c e n) fun c v _ _ ic => ic⟩
  · have hlt := Nat.lt_of_lt_of_le hi I.lowle
    show (m.cs ++ [_])[i]? = _
    rw [List.getElem?_append_left hlt]; exact I.low i hi
  · show m.low ≤ (m.cs ++ [_]).length
    rw [List.length_append]; exact Nat.le_trans I.lowle (Nat.le_add_right _ _)
/-- the context of an except suite -/
abbrev Cx.suite (X : Cx) (a : Addr) : Cx := { X with A := X.A.mark (some (.ref a)), calm := false }
theorem Cx.Ok.suite (ok : X.Ok) (a : Addr) : (X.suite a).Ok := ⟨ok.G, ok.kind, ok.glob, ok.blt, ok.inj, ok.has, fun z => absurd (show false = true from z) Bool.false_ne_true, ok.hu, ok.frames, ok.lbase, ok.cbase, ok.nd⟩
theorem Inv.suite (I : Inv X σ m ρ s) (a : Addr) : Inv (X.suite a) σ m ρ s := ⟨I.ok.suite a, I.S, I.cell, I.loc, I.ln, I.slen, I.low, I.lowle⟩
theorem Inv.unsuite {a : Addr} (I : Inv (X.suite a) σ m ρ s) (ok : X.Ok) : Inv X σ m ρ s := ⟨ok, I.S, I.cell, I.loc, I.ln, I.slen, I.low, I.lowle⟩
/-- the name of an except clause goes -/
theorem gone_z {i : Nat} {n : Str} {Q : Unit → Shared → Prop} (I : Inv X σ m ρ s) (hN : X.N[i]? = some n) (hk : X.env.kindOf n = some .local) (h : ∀ s', Inv X (σ.set i .un) m ρ s' → Kp X.fs X.wr ρ ρ s s' → Q () s') :
    wpAny (model X.G.P X.G.w) X.A (do bindName X.env n .none; unbindBehindTheSuite X.env n pos) Q E s := by
  obtain ⟨mm, hn, hl⟩ := id I.loc
  have hcls : (X.env.scope.kind == .class || (X.env.scope.kind == .module && X.env.locals != X.env.globals)) = false := by rw [I.ok.kind]; rfl
  refine wpAny_nameGoes_keeps hk hn hcls fun h' v hn' hs => ?_
  obtain ⟨I', K'⟩ := I.locals (t := s.toks + 1) (sl := .un) hN hl hk hn' (fun y hy => if_neg hy) hs (fun cf => by rcases cf with c | c <;> rw [hk] at c <;> cases c)
  exact h _ I' K'

/-! ### try -/
def endS (i : Nat) (r : SR) : SR := match r with
  | .nxt σ m => .nxt (σ.set i .un) m
  | .brk σ m => .brk (σ.set i .un) m
  | .cnt σ m => .cnt (σ.set i .un) m
  | .ret v m => .ret v m
  | _ => .bad
def noExc (r : SR) : SR := match r with
  | .exc _ _ _ => .bad
  | r => r
/-- an except clause: the class, the name's slot, the suite -/
structure Hd where
  c : Value
  i : Option Nat
  s : SV
def catchS (mt : Addr → Value → Option Bool) (x : Ex) (σ : Sl) (m : Store) : List Hd → SR
  | [] => .exc x σ m
  | h :: r => match mt x.C h.c with
    | some true => match h.i with
      | some i => endS i (h.s (σ.set i (.val (.ref m.nx))) (m.push (.exc x.C x.ns x.vs)))
      | none => noExc (h.s σ m)
    | some false => catchS mt x σ m r
    | none => .bad
def sTry (mt : Addr → Value → Option Bool) (body : SV) (hs : List Hd) : SV := fun σ m => match body σ m with
  | .exc x σ1 m1 => catchS mt x σ1 m1 hs
  | r => r
inductive HdsOk (X : Cx) : List ExceptHandler → List Hd → Prop
  | nil : HdsOk X [] []
  | as {x n : Str} {c : Value} {i : Nat} {b₀ : Stmt} {suite : List Stmt} {sv : SV} {np pos' : Pos} {hds : List ExceptHandler} {l : List Hd} (hc : ∀ a, Nam (X.suite a) x c) (hN : X.N[i]? = some n) (hk : X.env.kindOf n = some .local)
      (hsu : ∀ a, SB (X.suite a) (b₀ :: suite) sv) (r : HdsOk X hds l) : HdsOk X (.ExceptHandler (some (.Name x np)) (some n) (b₀ :: suite) pos' :: hds) (⟨c, some i, sv⟩ :: l)
  | bare {x : Str} {c : Value} {b₀ : Stmt} {suite : List Stmt} {sv : SV} {np pos' : Pos} {hds : List ExceptHandler} {l : List Hd} (hc : ∀ a, Nam (X.suite a) x c)
      (hsu : ∀ a, SB (X.suite a) (b₀ :: suite) sv) (r : HdsOk X hds l) : HdsOk X (.ExceptHandler (some (.Name x np)) none (b₀ :: suite) pos' :: hds) (⟨c, none, sv⟩ :: l)
theorem ss_try {mt : Addr → Value → Option Bool} {body : List Stmt} {h₀ : ExceptHandler} {hds : List ExceptHandler} {l : List Hd} {tb : SV} (tp : Top X) (hmt : ∀ C c b, mt C c = some b → PySem.W.exmOne X.G.K (.ref C) c = some b) (hb : SB X body tb) (hh : HdsOk X (h₀ :: hds) l) :
    SS X (.Try body (h₀ :: hds) [] [] pos) (sTry mt tb l) := by
  refine ⟨fun σ m ρ s Q E I h => ?_⟩
  have ok := I.ok
  obtain ⟨outer, hs⟩ := tp.stk
  have hf := tp.fr
  have hfr : X.A.frames = some (X.env :: outer) := by rw [ok.frames, hs]
  refine wpAny_Try_except ?_
  refine hb.run σ m ρ s _ _ I ?_
  unfold sTry at h
  cases e : tb σ m with
  | nxt σ' m' => rw [e] at h; exact fun s' ρ' I' K' => wpAny_execs_nil (h s' ρ' I' K')
  | ret v m' => rw [e] at h; exact h
  | brk σ' m' => rw [e] at h; exact h
  | cnt σ' m' => rw [e] at h; exact h
  | bad => rw [e] at h; exact h
  | exc x σ' m' =>
    rw [e] at h
    dsimp only at h
    intro u s' air
    obtain ⟨a, B, sI, ρ', d, rfl, J, K, nb, up, szI, sky, os, ag, la, na, xf⟩ := air
    have sky' : L2.Sky B (X.env :: outer) a (L2.Zc (.ref x.C) d) X.env.locals s'.heap := by rw [← hs]; exact sky
    show wpAny (model X.G.P X.G.w) X.A (noteFrame (.ref a) X.env) _ _ _
    refine wpAny_hz (wpAny_mono (L2.Sky.land (Q := fun _ s3 => ∀ z : s'.heap.objs.size ≤ s3.heap.objs.size, wpAny (model X.G.P X.G.w) X.A (handleBy (.ref a) X.env (h₀ :: hds)) Q E s3) L2.Zc.steady hfr hf sky' fun h3 fl3 up3 z3 => ?_) (fun _ s2 q z2 => ?_) fun _ _ q _ => q)
    · have szr : sI.heap.objs.size ≤ h3.objs.size := Nat.le_trans szI z3
      obtain ⟨J3, K3⟩ := J.landed (s' := { s' with heap := h3 }) nb fl3.1 (up.trans up3) szr os ag
      obtain ⟨oe3, vs3, he3, hz3, hd3⟩ := fl3.there
      have go : ∀ {hds' : List ExceptHandler} {l' : List Hd}, HdsOk X hds' l' → (catchS mt x σ' m' l').sat X ρ s Q E → wpAny (model X.G.P X.G.w) X.A (handleBy (.ref a) X.env hds') Q E { s' with heap := h3 } := by
        intro hds' l' hk
        have test : ∀ {cn : Str} {c : Value} {np : Pos} {bb : Bool} {R : Bool → Shared → Prop} {E' : Value → Shared → Prop}, (∀ a, Nam (X.suite a) cn c) → mt x.C c = some bb → R bb { s' with heap := h3 } →
            wpAny (model X.G.P X.G.w) (X.A.mark (some (.ref a))) (eval (.Name cn np) X.env) (fun c s₁ => wpAny (model X.G.P X.G.w) (X.A.mark (some (.ref a))) (excMatches (.ref a) c) R E' s₁) E' { s' with heap := h3 } := fun {cn c np bb R E'} hc hm q => by
          have LT : PySem.W.Looks (model X.G.P X.G.w) h3 (typeOf (.ref a)) (.ref x.C) := fun A Q E s k q => wpAny_typeOf_ref (k _ _ he3) (by rw [hz3.1]; exact q)
          have LM := PySem.W.exm_one (M := model X.G.P X.G.w) (J3.kIn) LT (hmt _ _ _ hm)
          exact (hc a).ld σ' m' ρ' _ np _ _ (J3.suite a) (LM.here q)
        induction hk with
        | nil =>
          intro w
          refine wpAny_handleBy_nil ?_
          obtain ⟨k1, k2, k3, oe, vs, T, oT, ts', he, hz, hd, h1, hr⟩ := id fl3
          unfold PySem.passOn
          refine wpAny_bind (wpAny_field he hd h1 ?_)
          rw [if_neg (show ¬ ((Value.ref T == Value.none) = true) from by simp)]
          have fin : wpAny (model X.G.P X.G.w) X.A (setFlight (.ref a) X.env.frame) (fun _ s4 => wpAny (model X.G.P X.G.w) X.A (throw (.ref a) : Sem Flow) Q E s4) E { s' with heap := h3 } := by
            rw [hf]
            refine wpAny_hz (HandSPX.setFlight_upZ fl3 fun h4 hh4 up4 z4 => wpAny_throw (w _ _ ?_))
            exact ⟨a, B, sI, ρ', d, rfl, J, K, nb, (up.trans up3).trans up4, Nat.le_trans szr z4, .inr (.inr (by rw [hs]; exact hh4)), os, ag, la, na, xf⟩
          first
            | exact wpAny_bind (wpAny_pure (wpAny_bind fin))
            | exact wpAny_bind fin
        | @as cn n c i b₀ suite sv np pos' hds2 l2 hc hN hkn hsu r ih =>
          intro w
          unfold catchS at w
          split at w
          · rename_i hm
            refine wpAny_handleBy_cons (codeAny_handlers_test (test hc hm ?_)) (by intro q; cases q)
            dsimp only at w
            refine codeAny_handlers_suite_as ?_
            refine wpAny_hz (HandSPX.lands_againZ fl3 fun h4 fl4 up4 z4 => ?_)
            obtain ⟨J4, K4⟩ := J.landed (s' := { s' with heap := h4 }) nb fl4.1 ((up.trans up3).trans up4) (Nat.le_trans szr z4) os ag
            obtain ⟨oe4, vs4, he4, hz4, hd4⟩ := fl4.there
            have naf : a ∉ X.fs := fun hm => by
              obtain ⟨_, o', e', hnf⟩ := J4.S.funs.mem hm
              rw [he4] at e'; cases e'
              exact hnf _ hd4
            have xf4 : ExF s.heap.objs.size X.fs h4 ρ' d x := by
              rcases xf with y | ⟨dx, us, h1, ⟨o, es, ep, e, r⟩, h3, h4', h5, h6, h7⟩
              · exact .inl y
              · exact .inr ⟨dx, us, h1, ⟨o, es, ep, K4.keep dx o e h5 (fun z => z) h6, r⟩, RVs.mono K4.rho K4.tups _ _ h3, h4', h5, h6, h7⟩
            obtain ⟨p2, J5, tk5, ni5, q5⟩ := J4.caught tp he4 hz4 hd4 na naf (xf4.le (Nat.zero_le _))
            have l2 : s.heap.objs.size ≤ p2 := by
              rcases q5 with q | q
              · rw [q]; exact la
              · rcases xf with ⟨_, _, h3⟩ | ⟨dx, us, h1, _, _, _, _, _, h7⟩
                · rw [h3] at q; cases q
                · rw [h1] at q; cases q; exact h7
            have K45 : Kp X.fs X.wr ρ (ρ' ++ [(a, p2)]) s { s' with heap := h4 } := by
              have K0 := K.trans K4.any
              obtain ⟨l0, e0, f0⟩ := id K0.sub
              refine ⟨⟨l0 ++ [(a, p2)], by rw [e0, List.append_assoc], fun p hp => ?_⟩, K0.sz, K0.tups.trans tk5, K0.codes, K0.keep, K0.slot⟩
              rcases List.mem_append.mp hp with q | q
              · exact f0 p q
              · rw [List.mem_singleton.mp q]; exact ⟨la, l2⟩
            have w2 := SR.rel K45 (show (endS i (sv (σ'.set i (.val (.ref m'.nx))) (m'.push (.exc x.C x.ns x.vs)))).sat X ρ s Q E from w)
            have hlt : i < σ'.length := by rw [J4.slen]; exact (List.getElem?_eq_some_iff.mp hN).1
            have est : setS i (.ref m'.nx) σ' (m'.push (.exc x.C x.ns x.vs)) = some (σ'.set i (.val (.ref m'.nx)), m'.push (.exc x.C x.ns x.vs)) := by
              unfold setS
              obtain ⟨mm, _, hl⟩ := J5.loc
              rw [List.getElem?_eq_getElem hlt]
              have so := hl i n _ hN (List.getElem?_eq_getElem hlt)
              cases es : σ'[i] with
              | un => rfl
              | val _ => rfl
              | box j =>
                rw [es] at so
                obtain ⟨cf, _⟩ := so
                rcases cf with c | c <;> rw [hkn] at c <;> cases c
            refine store_z (X := X.suite a) (J5.suite a) hN (.inl hkn) (v := .ref m'.nx) ⟨a, p2, nx_rho J4, rfl⟩ est fun s6 J6 K6 => ?_
            have w3 := SR.rel (X := X) K6 w2
            refine (hsu a).run _ _ _ s6 _ _ J6 ?_
            have fin : ∀ {σ7 : Sl} {m7 : Store} {ρ7 : Rho} {s7 : Shared} {R : Shared → Prop}, Inv (X.suite a) σ7 m7 ρ7 s7 → (∀ s8, Inv X (σ7.set i .un) m7 ρ7 s8 → Kp X.fs X.wr ρ7 ρ7 s7 s8 → R s8) →
                wpAny (model X.G.P X.G.w) X.A (do bindName X.env n .none; unbindBehindTheSuite X.env n pos') (fun _ s8 => R s8) E s7 := fun J7 hR => gone_z (J7.unsuite ok) hN hkn hR
            cases er : sv (σ'.set i (.val (.ref m'.nx))) (m'.push (.exc x.C x.ns x.vs)) with
            | nxt σ7 m7 =>
              rw [er] at w3
              exact fun s7 ρ7 J7 K7 => fin J7 fun s8 J8 K8 => w3 s8 ρ7 J8 (K7.trans K8)
            | brk σ7 m7 =>
              rw [er] at w3
              exact fun s7 ρ7 J7 K7 => fin J7 fun s8 J8 K8 => w3 s8 ρ7 J8 (K7.trans K8)
            | cnt σ7 m7 =>
              rw [er] at w3
              exact fun s7 ρ7 J7 K7 => fin J7 fun s8 J8 K8 => w3 s8 ρ7 J8 (K7.trans K8)
            | ret v7 m7 =>
              rw [er] at w3
              exact fun u s7 ρ7 σ7 J7 K7 r7 => fin J7 fun s8 J8 K8 => w3 u s8 ρ7 _ J8 (K7.trans K8) (RV.mono K8.rho K8.tups _ _ r7)
            | exc x7 σ7 m7 => rw [er] at w3; exact w3.elim
            | bad => rw [er] at w3; exact w3.elim
          · rename_i hm
            refine wpAny_handleBy_cons (codeAny_handlers_test (test hc hm ?_)) (by intro q; cases q)
            exact ih w
          · exact w.elim
        | @bare cn c b₀ suite sv np pos' hds2 l2 hc hsu r ih =>
          intro w
          unfold catchS at w
          split at w
          · rename_i hm
            refine wpAny_handleBy_cons (codeAny_handlers_test (test hc hm ?_)) (by intro q; cases q)
            dsimp only at w
            refine codeAny_handlers_suite ?_
            refine wpAny_hz (HandSPX.lands_againZ fl3 fun h4 fl4 up4 z4 => ?_)
            obtain ⟨J4, K4⟩ := J.landed (s' := { s' with heap := h4 }) nb fl4.1 ((up.trans up3).trans up4) (Nat.le_trans szr z4) os ag
            have w2 := SR.rel (K.trans K4.any) (show (noExc (sv σ' m')).sat X ρ s Q E from w)
            refine (hsu a).run _ _ _ _ _ _ (J4.suite a) ?_
            cases er : sv σ' m' with
            | nxt σ7 m7 =>
              rw [er] at w2
              exact fun s7 ρ7 J7 K7 => w2 s7 ρ7 (J7.unsuite ok) K7
            | brk σ7 m7 =>
              rw [er] at w2
              exact fun s7 ρ7 J7 K7 => w2 s7 ρ7 (J7.unsuite ok) K7
            | cnt σ7 m7 =>
              rw [er] at w2
              exact fun s7 ρ7 J7 K7 => w2 s7 ρ7 (J7.unsuite ok) K7
            | ret v7 m7 =>
              rw [er] at w2
              exact fun u s7 ρ7 σ7 J7 K7 r7 => w2 u s7 ρ7 σ7 (J7.unsuite ok) K7 r7
            | exc x7 σ7 m7 => rw [er] at w2; exact w2.elim
            | bad => rw [er] at w2; exact w2.elim
          · rename_i hm
            refine wpAny_handleBy_cons (codeAny_handlers_test (test hc hm ?_)) (by intro q; cases q)
            exact ih w
          · exact w.elim
      exact go hh h
    · exact wpAny_hz (wpAny_mono q (fun _ s3 w z3 => w (Nat.le_trans z2 z3)) fun _ _ w _ => w)
end
end Z

set_option Elab.async false
set_option linter.all false
set_option maxRecDepth 100000
/-! the engine, part Q: iterators -/
namespace Z
open PySem PySem.Spec PyProof.Rows
open L2 (frs)

/-- at a turn: some (some x) yields x, some none stops -/
structure It where
  on : Nat → Store → Option (Option D)
  fin : Store → Store := fun m => m
/-- an iterator's own object -/
def FpOk (X : Cx) (ρ : Rho) (b : Addr) : Prop := NotIn ρ b ∧ ¬ X.wr b ∧ b ∉ X.fs ∧ X.G.base.get? b = none ∧ b ≠ X.env.locals ∧ ∀ x c, X.env.cells.lookup x = some c → c ≠ b
/-- neither a tuple nor a code object -/
def NoCode (h : Heap) (b : Addr) : Prop := ∃ o, h.get? b = some o ∧ (o.cls ≠ .type "tuple" ∨ ∀ vs n, o.data ≠ .seq vs n) ∧ ∀ vs, o.data = .fields vs → ∀ q t, vs[1]? ≠ some (.str q t)
theorem NoCode.fields {h : Heap} {b : Addr} {o : Obj} {vs : Array Value} (g : h.get? b = some o) (d : o.data = .fields vs) (n : ∀ q t, vs[1]? ≠ some (.str q t)) : NoCode h b :=
  ⟨o, g, .inr (fun ws k z => by rw [d] at z; cases z), (fun ws z => by rw [d] at z; cases z; exact n)⟩
theorem NoCode.seq {h : Heap} {b : Addr} {o : Obj} {vs : Array Value} {n : Nat} (g : h.get? b = some o) (c : o.cls ≠ .type "tuple") (d : o.data = .seq vs n) : NoCode h b :=
  ⟨o, g, .inl c, (fun ws z => by rw [d] at z; cases z)⟩
theorem FunFrames.only {h h' base : Heap} : ∀ {stk : List Env}, (∀ L ∈ frs stk, ∀ o, h.get? L = some o → h'.get? L = some o) → h.FunFrames base stk → h'.FunFrames base stk
  | [], _, _ => trivial
  | env :: r, k, x => by
    obtain ⟨hk, ⟨L, o, hf, hn, ho, hd⟩, hr⟩ := x
    have e1 : frs (env :: r) = L :: frs r := by unfold frs; rw [List.filterMap_cons, hf]
    exact ⟨hk, ⟨L, o, hf, hn, k L (by rw [e1]; exact List.mem_cons_self) o ho, hd⟩, FunFrames.only (fun L' h' => k L' (by rw [e1]; exact List.mem_cons_of_mem _ h')) hr⟩
section
variable {X : Cx} {σ σ' : Sl} {m m' : Store} {ρ ρ1 ρ' : Rho} {s s1 s' : Shared}
theorem FpOk.fresh (I : Inv X σ m ρ s) {b : Addr} (hb : s.heap.objs.size ≤ b) : FpOk X ρ b := by
  have nc : ∀ x c, X.env.cells.lookup x = some c → c ≠ b := fun x c e z => by
    by_cases n : NotIn ρ c
    · obtain ⟨v, q⟩ := I.cell x c e n
      exact absurd (Nat.lt_of_lt_of_le q.lt (by rw [z]; exact hb)) (Nat.lt_irrefl _)
    · rw [z] at n
      exact n (I.S.fresh hb)
  refine ⟨I.S.fresh hb, fun w => ?_, fun hm => ?_, I.S.bfresh hb, fun z => ?_, nc⟩
  · rcases w with w | ⟨x, c, _, e, w⟩
    · exact absurd (Nat.lt_of_lt_of_le I.lt (by rw [← w]; exact hb)) (Nat.lt_irrefl _)
    · exact nc x c e w.symm
  · obtain ⟨_, o, e, _⟩ := I.S.funs.mem hm
    exact absurd (Nat.lt_of_lt_of_le (Heap.lt_size e) hb) (Nat.lt_irrefl _)
  · exact absurd (Nat.lt_of_lt_of_le I.lt (by rw [← z]; exact hb)) (Nat.lt_irrefl _)
theorem FpOk.on {fs : List Addr} {ex : Addr → Prop} {b : Addr} {o : Obj} (h : FpOk X ρ b) (K : Kp fs ex ρ ρ' s s') (e : s.heap.get? b = some o) : FpOk X ρ' b := ⟨K.stays e h.1, h.2⟩
/-- W changed: iterators' objects, and a zip's buffer -/
theorem Inv.turned {W : List Addr} {h' : Heap} {t : Nat} (I : Inv X σ m ρ s) (k : ∀ b o, b ∉ W → s.heap.get? b = some o → h'.get? b = some o) (sz : s.heap.objs.size ≤ h'.objs.size)
    (ok : ∀ b ∈ W, (FpOk X ρ b ∧ NoCode s.heap b) ∨ ∃ j : Nat, ρ[j]? = some (b, b) ∧ (∃ o, s.heap.get? b = some o ∧ ∀ vs, o.data ≠ .fields vs) ∧ ((m.cs[j]? = some .zb ∧ ∃ a1 a2, IsTupOf2 h' b a1 a2) ∨ m.cs[j]? = some .zd)) :
    Inv X σ m ρ { s with heap := h', toks := t } ∧ Kp X.fs (fun b => b ∈ W) ρ ρ s { s with heap := h', toks := t } := by
  have nW : ∀ {b o us n}, s.heap.get? b = some o → NotIn ρ b → o.cls = .type "tuple" → o.data = .seq us n → b ∉ W := fun {b o us n} e nn c d hm => by
    rcases ok b hm with ⟨_, o', e', c', _⟩ | ⟨j, hj, _⟩
    · rw [e] at e'; cases e'
      rcases c' with c' | c'
      · exact c' c
      · exact c' _ _ d
    · exact (nn.get hj).1 rfl
  have K : Kp X.fs (fun b => b ∈ W) ρ ρ s { s with heap := h', toks := t } := by
    refine ⟨⟨[], by simp, fun _ z => nomatch z⟩, sz, TupK.same fun b us ⟨o, e, c, n, d⟩ nb => ⟨o, k b o (nW e nb c d) e, c, n, d⟩, fun cv q ⟨c, u, vs, tq, e0, e, d, v⟩ => ⟨c, u, vs, tq, e0, k c u (fun hm => ?_) e, d, v⟩, fun b o e _ nx _ => k b o nx e, fun b o e _ nx => ⟨o.slots, k b o nx e⟩⟩
    rcases ok c hm with ⟨_, o', e', _, h1⟩ | ⟨j, _, ⟨o', e', d'⟩, _⟩
    · rw [e] at e'; cases e'
      exact h1 _ d _ _ v
    · rw [e] at e'; cases e'
      exact d' _ d
  have S : SInv X.G X.stk m ρ { s with heap := h', toks := t } := by
    refine ⟨I.S.os, I.S.bare, fun b o e => k b o (fun hm => ?_) (I.S.base b o e), I.S.nbase, FunFrames.only (fun L hL o e => k L o (fun hm => ?_) e) I.S.funs, I.S.frn, I.S.len, I.S.disj, fun i p c e1 e2 => ?_⟩
    · rcases ok b hm with ⟨f, _⟩ | ⟨j, hj, _, hz⟩
      · rw [f.2.2.2.1] at e; cases e
      · have : X.G.base.get? b = none := by
          rcases hz with ⟨hz, _⟩ | hz <;> exact (I.S.nbase j _ _ hj hz rfl).1
        rw [this] at e; cases e
    · rcases ok L hm with ⟨f, _⟩ | ⟨j, hj, _⟩
      · exact f.2.2.1 hL
      · exact ((I.S.frn L hL).get hj).1 rfl
    · have out : (p.1 ∉ W ∧ p.2 ∉ W) ∨ p.2 = p.1 ∧ ((c = .zb ∧ ∃ a1 a2, IsTupOf2 h' p.1 a1 a2) ∨ c = .zd) := by
        have one : ∀ b, b = p.1 ∨ b = p.2 → b ∈ W → p.2 = p.1 ∧ ((c = .zb ∧ ∃ a1 a2, IsTupOf2 h' p.1 a1 a2) ∨ c = .zd) := fun b hb hm => by
          rcases ok b hm with ⟨f, _⟩ | ⟨j, hj, _, hz⟩
          · have := f.1.get e1
            rcases hb with hb | hb
            · exact absurd hb this.1
            · exact absurd hb this.2
          · have : i = j := Classical.byContradiction fun ne => by
              have := I.S.disj i j p _ ne e1 hj
              rcases hb with hb | hb
              · exact this.1 hb.symm
              · exact this.2.2.1 hb.symm
            subst this
            rw [e1] at hj; cases hj
            refine ⟨rfl, ?_⟩
            rcases hz with ⟨hz, g⟩ | hz
            · rw [e2] at hz; cases hz
              exact .inl ⟨rfl, g⟩
            · rw [e2] at hz; cases hz
              exact .inr rfl
        by_cases h1 : p.1 ∈ W
        · exact .inr (one _ (.inl rfl) h1)
        · by_cases h2 : p.2 ∈ W
          · exact .inr (one _ (.inr rfl) h2)
          · exact .inl ⟨h1, h2⟩
      rcases out with ⟨h1, h2⟩ | ⟨g1, ⟨ec, g2⟩ | ec⟩
      · refine (I.S.cel i p c e1 e2).stay (RhoK.refl ρ) K.tups (fun b o hb e => k b o (fun hm => ?_) e) K.codes sz
        rcases hb with hb | hb
        · exact h1 (hb ▸ hm)
        · exact h2 (hb ▸ hm)
      · subst ec
        exact ⟨g1, g2⟩
      · subst ec
        exact ⟨g1, Nat.lt_of_lt_of_le (I.S.cel i p _ e1 e2).2 sz⟩
  have cW : ∀ {y c}, X.env.cells.lookup y = some c → NotIn ρ c → c ∉ W := fun e n hm => by
    rcases ok _ hm with ⟨f, _⟩ | ⟨j, hj, _⟩
    · exact f.2.2.2.2.2 _ _ e rfl
    · exact (n.get hj).1 rfl
  have lW : X.env.locals ∉ W := fun hm => by
    rcases ok _ hm with ⟨f, _⟩ | ⟨j, hj, _⟩
    · exact f.2.2.2.2.1 rfl
    · exact (I.ln.get hj).1 rfl
  have ck : ∀ {y c v}, X.env.cells.lookup y = some c → NotIn ρ c → s.heap.IsCell c v → h'.IsCell c v := fun e n ⟨o, g, d⟩ => ⟨o, k _ o (cW e n) g, d⟩
  refine ⟨⟨I.ok, S, fun y c e n => ?_, ?_, I.ln, I.slen, I.low, I.lowle⟩, K⟩
  · obtain ⟨v, q⟩ := I.cell y c e n
    exact ⟨v, ck e n q⟩
  · obtain ⟨mm, ⟨o, es, ep, ho, r⟩, hl⟩ := I.loc
    exact ⟨mm, ⟨o, es, ep, k _ o lW ho, r⟩, fun i y sl e1 e2 => (hl i y sl e1 e2).mono (RhoK.refl ρ) K.tups (fun _ _ n => n) fun c v e n ic => ck e n ic⟩
/-- what was written is younger than the start -/
theorem Kp.young {fs : List Addr} {ex ex2 : Addr → Prop} {ρ2 : Rho} {s2 : Shared} (a : Kp fs ex ρ ρ1 s s1) (b : Kp fs ex2 ρ1 ρ2 s1 s2) (h : ∀ c, ex2 c → ex c ∨ s.heap.objs.size ≤ c) : Kp fs ex ρ ρ2 s s2 := by
  have nx : ∀ {c o}, s.heap.get? c = some o → ¬ ex c → ¬ ex2 c := fun e n z => by
    rcases h _ z with q | q
    · exact n q
    · exact absurd (Nat.lt_of_lt_of_le (Heap.lt_size e) q) (Nat.lt_irrefl _)
  obtain ⟨l, e1, f⟩ := id a.sub
  obtain ⟨l2, e2, g⟩ := id b.sub
  refine ⟨⟨l ++ l2, by rw [e2, e1, List.append_assoc], fun p hp => ?_⟩, Nat.le_trans a.sz b.sz, a.tups.trans b.tups, fun cv q x => b.codes _ _ (a.codes _ _ x), fun c o e n nx' hf => b.keep c o (a.keep c o e n nx' hf) (a.stays e n) (nx e nx') hf, fun c o e n nx' => ?_⟩
  · rcases List.mem_append.mp hp with q | q
    · exact f p q
    · exact ⟨Nat.le_trans a.sz (g p q).1, Nat.le_trans a.sz (g p q).2⟩
  · obtain ⟨sl, e1⟩ := a.slot c o e n nx'
    obtain ⟨sl2, e2⟩ := b.slot c _ e1 (a.stays e n) (nx e nx')
    exact ⟨sl2, e2⟩

/-! ### turns -/
/-- an iterator at it: its objects fp, its state tn, the values hd that it was made of -/
structure Turn (G : Gl) (tg : Expr) (J : It) (fp : List Addr) (hd : List (D × Value)) (it : Addr) (tn : Nat → Heap → Prop) : Prop where
  obj : ∀ i h, tn i h → ∀ b ∈ fp, ∃ o, h.get? b = some o
  keep : ∀ i h h', tn i h → (∀ b ∈ fp, ∀ o, h.get? b = some o → h'.get? b = some o) → tn i h'
  item : ∀ (X : Cx), X.G = G → X.calm = true → ∀ i x σ m ρ s (Q : Value → Shared → Prop) (E : Value → Shared → Prop), Inv X σ m ρ s → (∀ b ∈ fp, FpOk X ρ b) → (∀ p ∈ hd, RV ρ s.heap p.1 p.2) → tn i s.heap → J.on i m = some (some x) →
    (∀ u s', Inv X σ m ρ s' → Kp X.fs (fun b => b ∈ fp) ρ ρ s s' → RV ρ s'.heap x u → tn (i + 1) s'.heap → Q u s') →
    wpAny (model G.P G.w) X.A (pyNext (.ref it)) (fun r s1 => ∃ v, r = some v ∧ wpAny (model G.P G.w) X.A (letOwnedTupleGo tg (.ref it) v) (fun _ s2 => Q v s2) E s1) E s
  done : ∀ (X : Cx), X.G = G → X.calm = true → ∀ i σ m ρ s (Q : Shared → Prop) (E : Value → Shared → Prop), Inv X σ m ρ s → (∀ b ∈ fp, FpOk X ρ b) → (∀ p ∈ hd, RV ρ s.heap p.1 p.2) → tn i s.heap → J.on i m = some none →
    (∀ s', Inv X σ (J.fin m) ρ s' → Kp X.fs (fun b => b ∈ fp) ρ ρ s s' → Q s') →
    wpAny (model G.P G.w) X.A (pyNext (.ref it)) (fun r s1 => r = none ∧ Q s1) E s
  self : ∀ (A : Around) (i : Nat) (s : Shared) (Q : Value → Shared → Prop) (E : Value → Shared → Prop), tn i s.heap → Q (.ref it) s → wpAny (model G.P G.w) A (pyIter (.ref it)) Q E s
theorem Kp.ex {fs : List Addr} {ex ex2 : Addr → Prop} (a : Kp fs ex ρ ρ' s s') (h : ∀ b, ex b → ex2 b ∨ ¬ NotIn ρ b) : Kp fs ex2 ρ ρ' s s' :=
  ⟨a.sub, a.sz, a.tups, a.codes, fun b o e n nx hf => a.keep b o e n (fun z => (h b z).elim nx fun q => q n) hf, fun b o e n nx => a.slot b o e n fun z => (h b z).elim nx fun q => q n⟩
theorem next_hz {M : Model} {A : Around} {tg : Expr} {it : Value} {s : Shared} {Q : Value → Shared → Prop} {E : Value → Shared → Prop} (h : wpAny M A (pyNext it) (fun r s1 => ∃ v, r = some v ∧ wpAny M A (letOwnedTupleGo tg it v) (fun _ s2 => s.heap.objs.size ≤ s2.heap.objs.size → Q v s2) E s1) E s) :
    wpAny M A (pyNext it) (fun r s1 => ∃ v, r = some v ∧ wpAny M A (letOwnedTupleGo tg it v) (fun _ s2 => Q v s2) E s1) E s := by
  refine wpAny_hz (wpAny_mono h (fun r s1 ⟨v, e, q⟩ z => ⟨v, e, ?_⟩) fun _ _ q _ => q)
  exact wpAny_hz (wpAny_mono q (fun _ s2 w z2 => w (Nat.le_trans z z2)) fun _ _ q _ => q)
theorem done_hz {M : Model} {A : Around} {it : Value} {s : Shared} {Q : Shared → Prop} {E : Value → Shared → Prop} (h : wpAny M A (pyNext it) (fun r s1 => r = none ∧ (s.heap.objs.size ≤ s1.heap.objs.size → Q s1)) E s) : wpAny M A (pyNext it) (fun r s1 => r = none ∧ Q s1) E s :=
  wpAny_hz (wpAny_mono h (fun _ _ ⟨e, q⟩ z => ⟨e, q z⟩) fun _ _ q _ => q)
/-- the items of a list, of a tuple -/
def src (m : Store) : D → Option (List D)
  | .tup xs => some xs
  | .ref j => m.seq? j
  | _ => none
def isRef : D → Bool
  | .ref _ => true
  | _ => false
def BIt (k : Bool) (h : Heap) (it l : Addr) (i : Nat) : Prop := if k = true then h.IsListIter it l i else h.IsTupleIter it l i
theorem BIt.at {k : Bool} {h h' : Heap} {it l : Addr} {i : Nat} (x : BIt k h it l i) (hk : ∀ o, h.get? it = some o → h'.get? it = some o) : BIt k h' it l i := by
  unfold BIt at *
  split
  · rename_i e
    rw [if_pos e] at x
    obtain ⟨o, g, r⟩ := x
    exact ⟨o, hk o g, r⟩
  · rename_i e
    rw [if_neg e] at x
    obtain ⟨o, g, r⟩ := x
    exact ⟨o, hk o g, r⟩
theorem BIt.ob {k : Bool} {h : Heap} {it l : Addr} {i : Nat} (x : BIt k h it l i) : (∃ c, ∃ o, h.get? it = some o ∧ o.cls = .type c ∧ o.data = .fields #[.ref l, .int i 0] ∧ (["enumerate", "zip", "dict_itemiterator", "dict_reverseitemiterator", "odict_iterator", "itertools.zip_longest", "itertools.pairwise"].contains c) = false) ∧ NoCode h it := by
  unfold BIt at x
  split at x
  · obtain ⟨o, g, c, d⟩ := x
    exact ⟨⟨_, o, g, c, d, by decide⟩, NoCode.fields g d fun q t z => by simp at z⟩
  · obtain ⟨o, g, c, d⟩ := x
    exact ⟨⟨_, o, g, c, d, by decide⟩, NoCode.fields g d fun q t z => by simp at z⟩
/-- what a base iterator draws, at a state -/
theorem draws_src (I : Inv X σ m ρ s) (hc : X.calm = true) {v : D} {l it : Addr} {xs : List D} {i : Nat} (rv : RV ρ s.heap v (.ref l)) (e : src m v = some xs) (f : FpOk X ρ it) (b : BIt (isRef v) s.heap it l i) :
    ∃ (us : Array Value) (St : Nat → Heap → Prop), RVs ρ s.heap xs us.toList ∧ us.size = xs.length ∧ Draws X.G.P X.G.w X.A.in1 it [it, l] us.size (fun i v => us[i]? = some v) St ∧ St i s.heap ∧ (∀ j h', St j h' → BIt (isRef v) h' it l j) ∧ l ≠ it := by
  have hh : X.A.in1.handled = none := I.ok.hd hc
  cases v with
  | tup ys =>
    cases e
    simp only [RV] at rv
    obtain ⟨a, us, e1, ⟨t, nt⟩, hz, r⟩ := rv
    cases e1
    have hl := r.len
    have b' : s.heap.IsTupleIter it l i := by simpa [BIt, isRef] using b
    have ne : l ≠ it := fun z => by
      subst z
      obtain ⟨o, g, c, _⟩ := t
      obtain ⟨o', g', c', _⟩ := b'
      rw [g] at g'; cases g'
      rw [c] at c'
      injection c' with c'
      exact absurd c' (by decide)
    exact ⟨us.toArray, _, by simpa using r, by simp [hl], Draws.tuple hh it l ne us.toArray, ⟨b', t⟩, fun j h' st => by simpa [BIt, isRef] using st.1, ne⟩
  | ref j =>
    obtain ⟨p, us, n, hp, _, hz, r, g⟩ := I.S.seq e
    have el := RV.ref_of hp rv
    cases el
    have hl := r.len
    have b' : s.heap.IsListIter it p.1 i := by simpa [BIt, isRef] using b
    have ne : p.1 ≠ it := fun z => (f.1.get hp).1 z.symm
    exact ⟨us.toArray, _, by simpa using r, by simp [hl], Draws.list hh it p.1 ne us.toArray, ⟨b', ⟨_, g, rfl, n, rfl⟩⟩, fun j h' st => by simpa [BIt, isRef] using st.1, ne⟩
  | _ => cases e
theorem goes_src (I : Inv X σ m ρ s) (hc : X.calm = true) (tg : Expr) {v : D} {l it : Addr} {xs : List D} {i : Nat} (rv : RV ρ s.heap v (.ref l)) (e : src m v = some xs) (f : FpOk X ρ it) (b : BIt (isRef v) s.heap it l i) :
    ∃ (us : Array Value) (St : Nat → Heap → Prop), RVs ρ s.heap xs us.toList ∧ us.size = xs.length ∧ Goes X.G.P X.G.w X.A tg it [it, l] [it] us.size (fun i v _ => us[i]? = some v) St ∧ St i s.heap ∧ (∀ j h', St j h' → BIt (isRef v) h' it l j) := by
  have hh : X.A.handled = none := I.ok.hd hc
  obtain ⟨us, St, r, hl, _, st, back, ne⟩ := draws_src I hc rv e f b
  cases v with
  | tup ys =>
    cases e
    simp only [RV] at rv
    obtain ⟨a, us, e1, ⟨t, nt⟩, hz, r⟩ := rv
    cases e1
    have hl := r.len
    have b' : s.heap.IsTupleIter it l i := by simpa [BIt, isRef] using b
    exact ⟨us.toArray, _, by simpa using r, by simp [hl], Goes.tuple hh it l ne us.toArray, ⟨b', t⟩, fun j h' st => by simpa [BIt, isRef] using st.1⟩
  | ref j =>
    obtain ⟨p, us, n, hp, _, hz, r, g⟩ := I.S.seq e
    have el := RV.ref_of hp rv
    cases el
    have hl := r.len
    have b' : s.heap.IsListIter it p.1 i := by simpa [BIt, isRef] using b
    exact ⟨us.toArray, _, by simpa using r, by simp [hl], Goes.list hh it p.1 ne us.toArray, ⟨b', ⟨_, g, rfl, n, rfl⟩⟩, fun j h' st => by simpa [BIt, isRef] using st.1⟩
  | _ => cases e
theorem done_src (I : Inv X σ m ρ s) (hc : X.calm = true) {v : D} {l it : Addr} {xs : List D} {i : Nat} {Q : Shared → Prop} {E : Value → Shared → Prop} (rv : RV ρ s.heap v (.ref l)) (e : src m v = some xs) (f : FpOk X ρ it) (b : BIt (isRef v) s.heap it l i) (hge : xs.length ≤ i)
    (hQ : ∀ s', Inv X σ m ρ s' → Kp X.fs (fun b => b ∈ [it]) ρ ρ s s' → Q s') : wpAny (model X.G.P X.G.w) X.A (pyNext (.ref it)) (fun r s1 => r = none ∧ Q s1) E s := by
  have hh : X.A.handled = none := I.ok.hd hc
  have fin : ∀ (h' : Heap), Heap.ExtBut it s.heap h' → s.heap.objs.size ≤ h'.objs.size → Q { s with heap := h' } := fun h' k z => by
    obtain ⟨I', K'⟩ := I.turned (W := [it]) (t := s.toks) (fun b o hb e => k b o (by simpa using hb) e) z fun y hy => by
      rw [List.mem_singleton.mp hy]; exact .inl ⟨f, b.ob.2⟩
    exact hQ _ I' K'
  obtain ⟨us, St, r, hl, _, st, back, ne⟩ := draws_src I hc rv e f b
  refine done_hz ?_
  cases v with
  | tup ys =>
    cases e
    simp only [RV] at rv
    obtain ⟨a, us, e1, ⟨t, nt⟩, hz, r⟩ := rv
    cases e1
    have hl := r.len
    have b' : s.heap.IsTupleIter it l i := by simpa [BIt, isRef] using b
    exact wpAny_pyNext_tuple_end hh b' t (by simp; omega) fun h' eb => ⟨rfl, fun z => fin h' eb z⟩
  | ref j =>
    obtain ⟨p, us, n, hp, _, hz, r, g⟩ := I.S.seq e
    have el := RV.ref_of hp rv
    cases el
    have hl := r.len
    have b' : s.heap.IsListIter it p.1 i := by simpa [BIt, isRef] using b
    exact wpAny_pyNext_list_end hh b' ⟨_, g, rfl, n, rfl⟩ (by simp; omega) fun h' eb => ⟨rfl, fun z => fin h' eb z⟩
  | _ => cases e
/-- iter(v) of a base source -/
theorem begins_src (I : Inv X σ m ρ s) {v : D} {u : Value} {xs : List D} (rv : RV ρ s.heap v u) (e : src m v = some xs) : ∃ (l : Addr) (o : Obj) (H : Heap → Prop), u = .ref l ∧ Begins u o H ∧ H s.heap ∧ o.isFreed = false ∧ ∀ h' it, h'.get? it = some o → BIt (isRef v) h' it l 0 := by
  cases v with
  | tup ys =>
    simp only [RV] at rv
    obtain ⟨a, us, rfl, ⟨t, nt⟩, hz, r⟩ := rv
    exact ⟨a, _, _, rfl, begins_tuple a us.toArray, t, rfl, fun h' it g => by unfold BIt; rw [if_neg (by show ¬ (false = true); decide)]; exact ⟨_, g, rfl, rfl⟩⟩
  | ref j =>
    obtain ⟨p, us, n, hp, _, hz, r, g⟩ := I.S.seq e
    obtain rfl := RV.ref_of hp rv
    exact ⟨p.1, _, _, rfl, begins_list p.1 us.toArray, ⟨_, g, rfl, n, rfl⟩, rfl, fun h' it g => by unfold BIt; rw [if_pos (by rfl)]; exact ⟨_, g, rfl, rfl⟩⟩
  | _ => cases e
/-- the items, one by one -/
def seqIt (v : D) : It := { on := fun i m => match src m v with | some xs => some xs[i]? | none => none }
theorem turn_seq {G : Gl} {tg : Expr} (v : D) (l it : Addr) : Turn G tg (seqIt v) [it] [(v, .ref l)] it (fun i h => BIt (isRef v) h it l i) where
  obj := fun i h st b hb => by
    rw [List.mem_singleton.mp hb]
    obtain ⟨⟨_, o, g, _⟩, _⟩ := st.ob
    exact ⟨o, g⟩
  keep := fun i h h' st k => st.at fun o e => k it (by simp) o e
  item := by
    intro X hG hc i x σ m ρ s Q E I hf hd st hj hQ
    subst hG
    simp only [seqIt] at hj
    cases e : src m v with
    | none => rw [e] at hj; cases hj
    | some xs =>
      rw [e] at hj
      have hx : xs[i]? = some x := Option.some.inj hj
      have rv := hd (v, .ref l) (by simp)
      obtain ⟨us, St, r, hl, W, st0, back⟩ := goes_src I hc tg rv e (hf it (by simp)) st
      have hlt : i < us.size := by rw [hl]; exact (List.getElem?_eq_some_iff.mp hx).1
      obtain ⟨u, hu, ru⟩ := r.get hx
      have hu : us[i]? = some u := by simpa using hu
      refine next_hz (W.goes i s _ E hlt st0 fun v' h' tk hy st' k _ z => ?_)
      rw [hu] at hy; cases hy
      obtain ⟨I', K'⟩ := I.turned (W := [it]) (t := tk) (fun b o hb e => k b o hb e) z fun b hb => by
        rw [List.mem_singleton.mp hb]; exact .inl ⟨hf it (by simp), st.ob.2⟩
      exact hQ _ _ I' K' (RV.mono K'.rho K'.tups _ _ ru) (back _ _ st')
  done := by
    intro X hG hc i σ m ρ s Q E I hf hd st hj hQ
    subst hG
    simp only [seqIt] at hj
    cases e : src m v with
    | none => rw [e] at hj; cases hj
    | some xs =>
      rw [e] at hj
      have hx : xs[i]? = none := Option.some.inj hj
      have rv := hd (v, .ref l) (by simp)
      have hge := List.getElem?_eq_none_iff.mp hx
      exact done_src I hc rv e (hf it (by simp)) st hge hQ
  self := fun A i s Q E st h => by
    unfold BIt at st
    split at st
    · exact wpAny_pyIter_listiter st h
    · exact wpAny_pyIter_tupleiter st h
end
end Z

set_option Elab.async false
set_option linter.all false
set_option maxRecDepth 100000
/-! the engine, part R: range, zip, enumerate -/
namespace Z
open PySem PySem.Spec PyProof.Rows
open L2 (frs)

def rngIt (lo : Int) (c : Int) (n : Nat) : It := { on := fun i _ => if i < n then some (some (.int (lo + i * c))) else if i = n then some none else none }
def zipIt (v w : D) (jz : Nat) : It := { fin := fun m => m.put jz .zd, on := fun i m => match src m v, src m w, m.cs[jz]? with
  | some xs, some ys, some .zb => match xs[i]?, ys[i]? with
    | some x, some y => some (some (.tup [x, y]))
    | _, _ => if i = min xs.length ys.length then some none else none
  | _, _, _ => none }
def enIt (k0 : Int) (v : D) : It := { on := fun i m => match src m v with
  | some xs => match xs[i]? with
    | some x => some (some (.tup [.int (k0 + i), x]))
    | none => if i = xs.length then some none else none
  | none => none }
section
variable {X : Cx} {σ σ' : Sl} {m m' : Store} {ρ ρ1 ρ' : Rho} {s s1 s' : Shared}
theorem turn_rng {G : Gl} {tg : Expr} (it : Addr) (lo c : Int) (n : Nat) : Turn G tg (rngIt lo c n) [it] [] it (fun i h => IsRangeIter h it (lo + (i : Nat) * c) ((n : Int) - (i : Nat)) c) where
  obj := fun i h st b hb => by
    rw [List.mem_singleton.mp hb]; exact ⟨_, st⟩
  keep := fun i h h' st k => k it (by simp) _ st
  item := by
    intro X hG hc i x σ m ρ s Q E I hf hd st hj hQ
    subst hG
    simp only [rngIt] at hj
    split at hj
    · rename_i hlt
      cases hj
      refine next_hz ((Goes.range (I.ok.hd hc) it lo c n).goes i s _ E hlt st fun v' h' tk hy st' k _ z => ?_)
      obtain ⟨t, rfl⟩ := hy
      obtain ⟨I', K'⟩ := I.turned (W := [it]) (t := tk) (fun b o hb e => k b o hb e) z fun b hb => by
        rw [List.mem_singleton.mp hb]; exact .inl ⟨hf it (by simp), NoCode.fields st rfl fun q t z => by simp [rawInt] at z⟩
      exact hQ _ _ I' K' ⟨t, rfl⟩ st'
    · split at hj
      · cases hj
      · cases hj
  done := by
    intro X hG hc i σ m ρ s Q E I hf hd st hj hQ
    subst hG
    simp only [rngIt] at hj
    split at hj
    · cases hj
    · split at hj
      · rename_i _ e
        subst e
        refine done_hz ((Goes.range (target := tg) (I.ok.hd hc) it lo c i).stops s _ E st fun h' tk k _ z => ?_)
        obtain ⟨I', K'⟩ := I.turned (W := [it]) (t := tk) (fun b o hb e => k b o hb e) z fun b hb => by
          rw [List.mem_singleton.mp hb]; exact .inl ⟨hf it (by simp), NoCode.fields st rfl fun q t z => by simp [rawInt] at z⟩
        exact hQ _ I' K'
      · cases hj
  self := fun A i s Q E st h => wpAny_pyIter_rangeiter st h
/-- a source's object is none of an iterator's -/
theorem src_ne (I : Inv X σ m ρ s) {v : D} {l b : Addr} {xs : List D} (rv : RV ρ s.heap v (.ref l)) (e : src m v = some xs) (h : (NotIn ρ b ∧ NoCode s.heap b) ∨ ∃ j : Nat, m.cs[j]? = some .zb ∧ ρ[j]? = some (b, b)) : b ≠ l := fun z => by
  subst z
  cases v with
  | tup ys =>
    simp only [RV] at rv
    obtain ⟨a, us, e1, ⟨⟨o, g, cc, n, d⟩, nt⟩, _⟩ := rv
    cases e1
    rcases h with ⟨_, o', g', c', _⟩ | ⟨j, _, hj⟩
    · rw [g] at g'; cases g'
      rcases c' with c' | c'
      · exact c' cc
      · exact c' _ _ d
    · exact (nt.get hj).1 rfl
  | ref j =>
    obtain ⟨p, us, n, hp, _, hz, r, g⟩ := I.S.seq e
    have el := RV.ref_of hp rv
    cases el
    rcases h with ⟨nn, _⟩ | ⟨j', hc, hj⟩
    · exact (nn.get hp).1 rfl
    · by_cases h2 : j = j'
      · subst h2
        have e2 : m.seq? j = some xs := e
        unfold Store.seq? at e2
        rw [hc] at e2; cases e2
      · exact (I.S.disj j j' p _ h2 hp hj).1 rfl
  | _ => cases e
/-- a zip's buffer is of no more use -/
theorem Inv.zdead {b : Addr} {j : Nat} (I : Inv X σ m ρ s) (hj : ρ[j]? = some (b, b)) (hz : m.cs[j]? = some .zb) : Inv X σ (m.put j .zd) ρ s := by
  have hl := (List.getElem?_eq_some_iff.mp hz).1
  have lt := (I.S.lt hj).1
  refine ⟨I.ok, ⟨I.S.os, I.S.bare, I.S.base, fun i p c e1 e2 hw => ?_, I.S.funs, I.S.frn, by simp [Store.put, I.S.len], I.S.disj, fun i p c e1 e2 => ?_⟩, I.cell, I.loc, I.ln, I.slen, fun i hi => ?_, ?_⟩
  · by_cases h : i = j
    · subst h
      exact I.S.nbase i p .zb e1 hz rfl
    · simp only [Store.put, List.getElem?_set_ne (Ne.symm h)] at e2
      exact I.S.nbase i p c e1 e2 hw
  · by_cases h : i = j
    · subst h
      rw [hj] at e1; cases e1
      simp only [Store.put, List.getElem?_set_self hl, Option.some.injEq] at e2
      subst e2
      exact ⟨rfl, lt⟩
    · simp only [Store.put, List.getElem?_set_ne (Ne.symm h)] at e2
      exact I.S.cel i p c e1 e2
  · have h1 : i < m.low := Nat.lt_of_lt_of_le hi (Nat.min_le_left _ _)
    have h2 : i < j := Nat.lt_of_lt_of_le hi (Nat.min_le_right _ _)
    show (m.cs.set j .zd)[i]? = _
    rw [List.getElem?_set_ne (by omega)]
    exact I.low i h1
  · show min m.low j ≤ (m.cs.set j .zd).length
    rw [List.length_set]
    exact Nat.le_trans (Nat.min_le_left _ _) I.lowle
theorem turn_zip {G : Gl} {elts : List Expr} {x1 : Nat} {pos : Pos} {v w : D} {jz : Nat} {l1 l2 z TI TO i1 i2 : Addr} (d1 : TI ≠ z) (d2 : TI ≠ i1) (d3 : TI ≠ i2) (d4 : z ≠ i1) (d5 : z ≠ i2) (d6 : i1 ≠ i2) :
    Turn G (.Tuple elts x1 pos) (zipIt v w jz) [z, TI, i1, i2] [(v, .ref l1), (w, .ref l2), (.ref jz, .ref TO)] z (fun i h => IsZip h z TI TO .none ∧ IsTupOf2 h TI (.ref i1) (.ref i2) ∧ BIt (isRef v) h i1 l1 i ∧ BIt (isRef w) h i2 l2 i) where
  obj := fun i h ⟨a, b, c, d⟩ y hy => by
    simp only [List.mem_cons, List.mem_nil_iff, or_false] at hy
    rcases hy with rfl | rfl | rfl | rfl
    · exact ⟨_, a⟩
    · exact ⟨_, b⟩
    · obtain ⟨⟨_, o, g, _⟩, _⟩ := c.ob; exact ⟨o, g⟩
    · obtain ⟨⟨_, o, g, _⟩, _⟩ := d.ob; exact ⟨o, g⟩
  keep := fun i h h' ⟨a, b, c, d⟩ k => ⟨k z (by simp) _ a, k TI (by simp) _ b, c.at fun o e => k i1 (by simp) o e, d.at fun o e => k i2 (by simp) o e⟩
  item := by
    intro X hG hc i x σ m ρ s Q E I hf hd st hj hQ
    subst hG
    obtain ⟨t1, t2, t3, t4⟩ := st
    simp only [zipIt] at hj
    split at hj
    · rename_i xs ys e1 e2 e3
      split at hj
      · rename_i x' y' hx hy
        cases hj
        have r1 := hd (v, .ref l1) (by simp)
        have r2 := hd (w, .ref l2) (by simp)
        obtain ⟨TO', dz, hz, eTO⟩ := hd (.ref jz, .ref TO) (by simp)
        cases eTO
        obtain ⟨ez, a1, a2, gTO⟩ := I.S.cel jz _ _ hz e3
        have ez : dz = TO := ez
        subst ez
        have gTO : IsTupOf2 s.heap dz a1 a2 := gTO
        obtain ⟨us, St1, ru, hl1, D1, st1, back1, ne1⟩ := draws_src I hc r1 e1 (hf i1 (by simp)) t3
        obtain ⟨ws, St2, rw2, hl2, D2, st2, back2, ne2⟩ := draws_src I hc r2 e2 (hf i2 (by simp)) t4
        have nz : NoCode s.heap z := NoCode.fields t1 rfl fun q t y => by simp at y
        have zbO : ∃ j : Nat, m.cs[j]? = some .zb ∧ ρ[j]? = some (dz, dz) := ⟨jz, e3, hz⟩
        have TOne : ∀ b, NotIn ρ b → dz ≠ b := fun b n q => (n.get hz).1 q.symm
        have S : ZipSep2 z TI dz i1 i2 [i1, l1] [i2, l2] := by
          refine ⟨d1, TOne z (hf z (by simp)).1, fun q => TOne TI (hf TI (by simp)).1 q.symm, d2, by simp, ?_, ?_, d3, by simp, ?_, ?_, ?_, ?_⟩
          · simp only [List.mem_cons, List.mem_nil_iff, or_false, not_or]; exact ⟨d4, src_ne I r1 e1 (.inl ⟨(hf z (by simp)).1, nz⟩)⟩
          · simp only [List.mem_cons, List.mem_nil_iff, or_false, not_or]; exact ⟨TOne i1 (hf i1 (by simp)).1, src_ne I r1 e1 (.inr zbO)⟩
          · simp only [List.mem_cons, List.mem_nil_iff, or_false, not_or]; exact ⟨d5, src_ne I r2 e2 (.inl ⟨(hf z (by simp)).1, nz⟩)⟩
          · simp only [List.mem_cons, List.mem_nil_iff, or_false, not_or]; exact ⟨TOne i2 (hf i2 (by simp)).1, src_ne I r2 e2 (.inr zbO)⟩
          · simp only [List.mem_cons, List.mem_nil_iff, or_false, not_or]; exact ⟨d6, src_ne I r2 e2 (.inl ⟨(hf i1 (by simp)).1, t3.ob.2⟩)⟩
          · simp only [List.mem_cons, List.mem_nil_iff, or_false, not_or]; exact ⟨Ne.symm d6, src_ne I r1 e1 (.inl ⟨(hf i2 (by simp)).1, t4.ob.2⟩)⟩
        have W := GoesN.zip2 (elts := elts) (x1 := x1) (pos := pos) S D1 D2
        have hlt : i < min us.size ws.size := by
          have h1 := (List.getElem?_eq_some_iff.mp hx).1
          have h2 := (List.getElem?_eq_some_iff.mp hy).1
          rw [hl1, hl2]; omega
        refine next_hz (W.goes i s _ E hlt ⟨t1, t2, ⟨a1, a2, gTO⟩, st1, st2⟩ fun v' h' tk hY st' k _ zz => ?_)
        obtain ⟨T, x2, y2, rfl, hT, p1, p2, iT⟩ := hY
        obtain ⟨z1, z2, ⟨b1, b2, z3⟩, z4, z5⟩ := st'
        obtain ⟨I', K'⟩ := I.turned (W := [z, dz, i1, i2]) (t := tk) (fun b o hb e => k b o hb e) zz fun b hb => by
          simp only [List.mem_cons, List.mem_nil_iff, or_false] at hb
          rcases hb with rfl | rfl | rfl | rfl
          · exact .inl ⟨hf _ (by simp), nz⟩
          · exact .inr ⟨jz, hz, ⟨_, gTO, fun vs q => by cases q⟩, .inl ⟨e3, b1, b2, z3⟩⟩
          · exact .inl ⟨hf _ (by simp), t3.ob.2⟩
          · exact .inl ⟨hf _ (by simp), t4.ob.2⟩
        obtain ⟨u1, h1, q1⟩ := ru.get hx
        obtain ⟨u2, h2, q2⟩ := rw2.get hy
        have h1 : us[i]? = some u1 := by simpa using h1
        have h2 : ws[i]? = some u2 := by simpa using h2
        rw [h1] at p1; cases p1
        rw [h2] at p2; cases p2
        refine hQ _ _ I' (K'.ex fun b hb => ?_) ?_ ⟨z1, z2, back1 _ _ z4, back2 _ _ z5⟩
        · simp only [List.mem_cons, List.mem_nil_iff, or_false] at hb ⊢
          rcases hb with rfl | rfl | rfl | rfl
          · exact .inl (.inl rfl)
          · exact .inr fun n => (n.get hz).1 rfl
          · exact .inl (.inr (.inr (.inl rfl)))
          · exact .inl (.inr (.inr (.inr rfl)))
        · simp only [RV]
          exact ⟨T, [_, _], rfl, ⟨iT, I.S.fresh hT⟩, by show 2 ≤ sizeLine; decide, RVs.cons (RV.mono K'.rho K'.tups _ _ q1) (RVs.cons (RV.mono K'.rho K'.tups _ _ q2) RVs.nil)⟩
      · split at hj <;> cases hj
    · cases hj
  done := by
    intro X hG hc i σ m ρ s Q E I hf hd st hj hQ
    subst hG
    obtain ⟨t1, t2, t3, t4⟩ := st
    simp only [zipIt] at hj
    split at hj
    · rename_i xs ys e1 e2 e3
      split at hj
      · cases hj
      · split at hj
        · rename_i ei
          have r1 := hd (v, .ref l1) (by simp)
          have r2 := hd (w, .ref l2) (by simp)
          obtain ⟨TO', dz, hz, eTO⟩ := hd (.ref jz, .ref TO) (by simp)
          cases eTO
          obtain ⟨ez, a1, a2, gTO⟩ := I.S.cel jz _ _ hz e3
          have ez : dz = TO := ez
          subst ez
          have gTO : IsTupOf2 s.heap dz a1 a2 := gTO
          obtain ⟨us, St1, ru, hl1, D1, st1, back1, ne1⟩ := draws_src I hc r1 e1 (hf i1 (by simp)) t3
          obtain ⟨ws, St2, rw2, hl2, D2, st2, back2, ne2⟩ := draws_src I hc r2 e2 (hf i2 (by simp)) t4
          have nz : NoCode s.heap z := NoCode.fields t1 rfl fun q t y => by simp at y
          have zbO : ∃ j : Nat, m.cs[j]? = some .zb ∧ ρ[j]? = some (dz, dz) := ⟨jz, e3, hz⟩
          have TOne : ∀ b, NotIn ρ b → dz ≠ b := fun b n q => (n.get hz).1 q.symm
          have S : ZipSep2 z TI dz i1 i2 [i1, l1] [i2, l2] := by
            refine ⟨d1, TOne z (hf z (by simp)).1, fun q => TOne TI (hf TI (by simp)).1 q.symm, d2, by simp, ?_, ?_, d3, by simp, ?_, ?_, ?_, ?_⟩
            · simp only [List.mem_cons, List.mem_nil_iff, or_false, not_or]; exact ⟨d4, src_ne I r1 e1 (.inl ⟨(hf z (by simp)).1, nz⟩)⟩
            · simp only [List.mem_cons, List.mem_nil_iff, or_false, not_or]; exact ⟨TOne i1 (hf i1 (by simp)).1, src_ne I r1 e1 (.inr zbO)⟩
            · simp only [List.mem_cons, List.mem_nil_iff, or_false, not_or]; exact ⟨d5, src_ne I r2 e2 (.inl ⟨(hf z (by simp)).1, nz⟩)⟩
            · simp only [List.mem_cons, List.mem_nil_iff, or_false, not_or]; exact ⟨TOne i2 (hf i2 (by simp)).1, src_ne I r2 e2 (.inr zbO)⟩
            · simp only [List.mem_cons, List.mem_nil_iff, or_false, not_or]; exact ⟨d6, src_ne I r2 e2 (.inl ⟨(hf i1 (by simp)).1, t3.ob.2⟩)⟩
            · simp only [List.mem_cons, List.mem_nil_iff, or_false, not_or]; exact ⟨Ne.symm d6, src_ne I r1 e1 (.inl ⟨(hf i2 (by simp)).1, t4.ob.2⟩)⟩
          have W := GoesN.zip2 (elts := elts) (x1 := x1) (pos := pos) S D1 D2
          have en : i = min us.size ws.size := by rw [hl1, hl2]; exact ei
          refine done_hz (W.stops s _ E (by rw [← en]; exact ⟨t1, t2, ⟨a1, a2, gTO⟩, st1, st2⟩) fun h' tk k _ zz => ?_)
          have Id : Inv X σ (m.put jz .zd) ρ s := I.zdead hz e3
          obtain ⟨I', K'⟩ := Id.turned (W := [z, dz, i1, i2]) (t := tk) (fun b o hb e => k b o hb e) zz fun b hb => by
            simp only [List.mem_cons, List.mem_nil_iff, or_false] at hb
            rcases hb with rfl | rfl | rfl | rfl
            · exact .inl ⟨hf _ (by simp), nz⟩
            · exact .inr ⟨jz, hz, ⟨_, gTO, fun vs q => by cases q⟩, .inr (by simp [Store.put, (List.getElem?_eq_some_iff.mp e3).1])⟩
            · exact .inl ⟨hf _ (by simp), t3.ob.2⟩
            · exact .inl ⟨hf _ (by simp), t4.ob.2⟩
          refine hQ _ I' (K'.ex fun b hb => ?_)
          simp only [List.mem_cons, List.mem_nil_iff, or_false] at hb ⊢
          rcases hb with rfl | rfl | rfl | rfl
          · exact .inl (.inl rfl)
          · exact .inr fun n => (n.get hz).1 rfl
          · exact .inl (.inr (.inr (.inl rfl)))
          · exact .inl (.inr (.inr (.inr rfl)))
        · cases hj
    · cases hj
  self := fun A i s Q E st h => wpAny_pyIter_zip st.1 h
end
end Z

set_option Elab.async false
set_option linter.all false
set_option maxRecDepth 100000
/-! the engine, part S: what is walked; for -/
namespace Z
open PySem PySem.Spec PyProof.Rows
open L2 (frs)

section
variable {X : Cx} {σ σ' : Sl} {m m' : Store} {ρ ρ1 ρ' : Rho} {s s1 s' : Shared} {a b c : Expr} {f g : EV} {E : Value → Shared → Prop} {pos : Pos} {tg iter : Expr}
/-- new objects, one of them a cell -/
theorem Inv.laid {h' : Heap} {t : Nat} {a : Addr} {c : Cel} (I : Inv X σ m ρ s) (k : ∀ b o, s.heap.get? b = some o → h'.get? b = some o) (sz : s.heap.objs.size ≤ h'.objs.size) (ha : s.heap.objs.size ≤ a) (ok : CelOk X.G (ρ ++ [(a, a)]) h' (a, a) c) :
    Inv X σ (m.push c) (ρ ++ [(a, a)]) { s with heap := h', toks := t } ∧ Kp X.fs noex ρ (ρ ++ [(a, a)]) s { s with heap := h', toks := t } := by
  have lf : ∀ p ∈ [(a, a)], s.heap.objs.size ≤ p.1 ∧ s.heap.objs.size ≤ p.2 := fun p hp => by
    rw [List.mem_singleton.mp hp]; exact ⟨ha, ha⟩
  have K : Kp X.fs noex ρ (ρ ++ [(a, a)]) s { s with heap := h', toks := t } := Kp.all k sz lf
  have S := I.S.more (ls := [c]) K (fun b o _ e => k b o e) rfl I.S.bare rfl lf (fun i j p q ne e1 e2 => by
    have h1 : i < 1 := (List.getElem?_eq_some_iff.mp e1).1
    have h2 : j < 1 := (List.getElem?_eq_some_iff.mp e2).1
    omega) (fun i p c' e1 e2 => by
    have h1 : i < 1 := (List.getElem?_eq_some_iff.mp e1).1
    obtain rfl : i = 0 := by omega
    simp at e1 e2
    subst e1; subst e2
    exact ok)
  refine ⟨I.go K S (fun i hi => ?_) (by show m.low ≤ (m.cs ++ [c]).length; rw [List.length_append]; exact Nat.le_trans I.lowle (Nat.le_add_right _ _)), K⟩
  have hl := Nat.lt_of_lt_of_le hi I.lowle
  show (m.cs ++ [c])[i]? = _
  rw [List.getElem?_append_left hl]; exact I.low i hi
/-- an iterator has come -/
abbrev IP (X : Cx) (tg : Expr) (σ : Sl) (ρ : Rho) (s : Shared) (R : Value → Shared → Prop) : It → Store → Prop := fun J m' => ∀ it fp hd tn s' ρ', Turn X.G tg J fp hd it tn → tn 0 s'.heap → (∀ b ∈ fp, FpOk X ρ' b ∧ s.heap.objs.size ≤ b) → (∀ p ∈ hd, RV ρ' s'.heap p.1 p.2) → Inv X σ m' ρ' s' → Kp X.fs noex ρ ρ' s s' → R (.ref it) s'
theorem IP.rel {R : Value → Shared → Prop} {J : It} (K : Kp X.fs noex ρ ρ1 s s1) (h : IP X tg σ ρ s R J m) : IP X tg σ ρ1 s1 R J m := fun it fp hd tn s2 ρ2 T t0 f hh I2 K2 => h it fp hd tn s2 ρ2 T t0 (fun b hb => ⟨(f b hb).1, Nat.le_trans K.sz (f b hb).2⟩) hh I2 (K.trans K2)
structure SI (X : Cx) (tg iter : Expr) (wi : Sl → Store → Res It) : Prop where
  run : ∀ σ m ρ s (R : Value → Shared → Prop) (E : Value → Shared → Prop), Inv X σ m ρ s → (wi σ m).sat (IP X tg σ ρ s R) (EP X noex σ ρ s E) → wpAny (model X.G.P X.G.w) X.A (eval iter X.env) (fun v s1 => wpAny (model X.G.P X.G.w) X.A (pyIter v) R E s1) E s
/-- over a value -/
def iVal (f : EV) : Sl → Store → Res It := fun σ m => (f σ m).bind fun v m1 => match src m1 v with
  | some _ => .ok (seqIt v) m1
  | none => .bad
theorem si_val (hc : X.calm = true) (ha : SE X a f) : SI X tg a (iVal f) := by
  refine ⟨fun σ m ρ s R E I h => ?_⟩
  refine ha.bd I h fun v m1 u s1 ρ1 I1 K1 r1 h1 => ?_
  cases e : src m1 v with
  | none => rw [e] at h1; exact h1.elim
  | some xs =>
    rw [e] at h1
    obtain ⟨l, o, H, rfl, B, hH, fr, mk⟩ := begins_src I1 r1 e
    refine B.iter _ _ _ _ _ _ hH ?_
    obtain ⟨I2, K2⟩ := I1.kept (h' := s1.heap.push o) (t := s1.toks) (fun b u e => Heap.get?_push_of_some _ e) (by simp)
    refine h1 s1.heap.objs.size [s1.heap.objs.size] [(v, .ref l)] _ _ ρ1 (turn_seq v l _) (mk _ _ (Heap.get?_push_size _ fr)) (fun b hb => ?_) (fun p hp => ?_) I2 (K1.trans K2)
    · rw [List.mem_singleton.mp hb]
      exact ⟨FpOk.fresh I1 (Nat.le_refl _), K1.sz⟩
    · rw [List.mem_singleton.mp hp]
      exact RV.mono K2.rho K2.tups _ _ r1
/-- over what a built-in's call gives -/
structure OIt (X : Cx) (tg : Expr) (u : Value) (r : List D → Store → Res It) : Prop where
  run : ∀ σ m ρ s (vs : List D) (us : List Value) (R : Value → Shared → Prop) (E : Value → Shared → Prop), Inv X σ m ρ s → RVs ρ s.heap vs us → (r vs m).sat (IP X tg σ ρ s R) (EP X noex σ ρ s E) → wpAny (model X.G.P X.G.w) X.A (call u us) (fun v s1 => wpAny (model X.G.P X.G.w) X.A (pyIter v) R E s1) E s
def iCall (fa : LV) (r : List D → Store → Res It) : Sl → Store → Res It := fun σ m => (fa σ m).bind fun vs m1 => (lNil σ m1).bind fun _ m2 => r vs m2
theorem si_call {x : Str} {n : String} {e : Expr} {es : List Expr} {fa : LV} {r : List D → Store → Res It} {np : Pos} (hx : Nam X x (.type n)) (hp : plainEs (e :: es) = true) (ha : SA X (e :: es) fa) (ho : OIt X tg (.type n) r) : SI X tg (.Call (.Name x np) (e :: es) [] pos) (iCall fa r) := by
  refine ⟨fun σ m ρ s R E I h => ?_⟩
  refine wpAny_Call_Name_kw (hx.ld σ m ρ s np _ E I ?_)
  refine call_go (first := []) (kk := fun vs _ m2 => r vs m2) hp rfl ha sk_nil I h fun vs zs m2 us ws s2 ρ2 I2 K2 r1 r2 h2 => ⟨kpr_ty, ?_⟩
  exact ho.run σ m2 ρ2 s2 vs us R E I2 r1 (h2.mono (fun _ _ q => IP.rel K2 q) fun _ _ q => q)
def rRng : List D → Store → Res It := fun vs m => match vs with
  | [.int n] => if -(2 ^ 62) ≤ n ∧ n < 2 ^ 62 then .ok (rngIt 0 1 n.toNat) m else .bad
  | [.int a, .int b] => if (-(2 ^ 62) ≤ a ∧ a < 2 ^ 62) ∧ (-(2 ^ 62) ≤ b ∧ b < 2 ^ 62) then .ok (rngIt a 1 (b - a).toNat) m else .bad
  | _ => .bad
theorem range_go {lo hi : Int} {t u v : Tok} {tk : Nat} {R : Value → Shared → Prop} (I : Inv X σ m ρ s) (h1 : -(2 ^ 62) ≤ lo) (h2 : lo < 2 ^ 62) (h3 : -(2 ^ 62) ≤ hi) (h4 : hi < 2 ^ 62) (h : IP X tg σ ρ s R (rngIt lo 1 (hi - lo).toNat) m) :
    wpAny (model X.G.P X.G.w) X.A (pyIter (.ref s.heap.objs.size)) R E { s with heap := s.heap.push { cls := .type "range", data := .fields #[.int lo t, .int hi u, .int 1 v] }, toks := tk } := by
  refine wpAny_pyIter_range (IsRange.new ..) (small_one h1 h2 h3 h4) ?_
  obtain ⟨I1, K1⟩ := I.kept (h' := s.heap.push { cls := .type "range", data := .fields #[.int lo t, .int hi u, .int 1 v] }) (t := tk) (fun b o e => Heap.get?_push_of_some _ e) (by simp)
  obtain ⟨I2, K2⟩ := I1.kept (h' := (s.heap.push { cls := .type "range", data := .fields #[.int lo t, .int hi u, .int 1 v] }).push { cls := .type "range_iterator", data := .fields #[rawInt lo, rawInt (Builtin.Range.rangeSize lo hi 1), rawInt 1] }) (t := tk) (fun b o e => Heap.get?_push_of_some _ e) (by simp)
  refine h _ [_] [] _ _ ρ (turn_rng _ lo 1 (hi - lo).toNat) ?_ (fun b hb => ?_) (fun p hp => nomatch hp) I2 (K1.trans K2)
  · have e1 : lo + ((0 : Nat) : Int) * 1 = lo := by simp
    have e2 : (((hi - lo).toNat : Nat) : Int) - ((0 : Nat) : Int) = Builtin.Range.rangeSize lo hi 1 := by rw [rangeSize_one]; split <;> omega
    rw [e1, e2]
    exact Heap.get?_push_size _ rfl
  · rw [List.mem_singleton.mp hb]
    exact ⟨FpOk.fresh I1 (Nat.le_refl _), K1.sz⟩
theorem it_range : OIt X tg (.type "range") rRng := by
  refine ⟨fun σ m ρ s vs us R E I r h => ?_⟩
  unfold rRng at h
  split at h
  · split at h
    · rename_i n hn
      simp only [RVs] at r
      obtain ⟨u, q, rfl, ⟨t, rfl⟩, rfl⟩ := r
      have e : (n - 0).toNat = n.toNat := by simp
      exact call_range_1 (range_go I (by omega) (by omega) hn.1 hn.2 (by rw [e]; exact h))
    · exact h.elim
  · split at h
    · rename_i a b hn
      simp only [RVs] at r
      obtain ⟨u, q, rfl, ⟨t, rfl⟩, u2, q2, rfl, ⟨t2, rfl⟩, rfl⟩ := r
      exact call_range_2 (range_go I hn.1.1 hn.1.2 hn.2.1 hn.2.2 h)
    · exact h.elim
  · exact h.elim
def rZip : List D → Store → Res It := fun vs m => match vs with
  | [v, w] => match src m v, src m w with
    | some _, some _ => .ok (zipIt v w m.nx) (m.push .zb)
    | _, _ => .bad
  | _ => .bad
theorem it_zip {elts : List Expr} {x1 : Nat} {tp : Pos} : OIt X (.Tuple elts x1 tp) (.type "zip") rZip := by
  refine ⟨fun σ m ρ s vs us R E I r h => ?_⟩
  unfold rZip at h
  split at h
  · rename_i v w
    split at h
    · rename_i xs ys e1 e2
      simp only [RVs] at r
      obtain ⟨u, q, rfl, r1, u2, q2, rfl, r2, rfl⟩ := r
      obtain ⟨l1, o1, H1, rfl, B1, hH1, fr1, mk1⟩ := begins_src I r1 e1
      obtain ⟨l2, o2, H2, rfl, B2, hH2, fr2, mk2⟩ := begins_src I r2 e2
      refine zip_begins2 B1 B2 hH1 hH2 fun h' z1 z2 z3 g1 g2 sz k => wpAny_pyIter_zip z1 ?_
      have szl : s.heap.objs.size ≤ h'.objs.size := by rw [sz]; exact Nat.le_add_right _ _
      obtain ⟨I1, K1⟩ := I.laid (h' := h') (t := s.toks) (a := s.heap.objs.size + 3) (c := .zb) k szl (Nat.le_add_right _ _) ⟨rfl, _, _, z3⟩
      have nne : ∀ j k : Nat, j ≠ k → (s.heap.objs.size + j : Addr) ≠ s.heap.objs.size + k := fun j k h q => h (Nat.add_left_cancel q)
      have nn : ∀ j : Nat, j ≠ 3 → FpOk X (ρ ++ [(s.heap.objs.size + 3, s.heap.objs.size + 3)]) (s.heap.objs.size + j) := fun j hj => by
        have := FpOk.fresh I (b := s.heap.objs.size + j) (Nat.le_add_right _ _)
        refine ⟨NotIn.app.mpr ⟨this.1, fun p hp => ?_⟩, this.2⟩
        rw [List.mem_singleton.mp hp]
        have ne : s.heap.objs.size + j ≠ s.heap.objs.size + 3 := fun q => hj (Nat.add_left_cancel q)
        exact ⟨ne, ne⟩
      refine h _ [s.heap.objs.size + 4, s.heap.objs.size + 2, s.heap.objs.size + 0, s.heap.objs.size + 1] [(v, .ref l1), (w, .ref l2), (.ref m.nx, .ref (s.heap.objs.size + 3))] _ _ _ (turn_zip (nne 2 4 (by decide)) (nne 2 0 (by decide)) (nne 2 1 (by decide)) (nne 4 0 (by decide)) (nne 4 1 (by decide)) (nne 0 1 (by decide))) ⟨z1, z2, mk1 _ _ g1, mk2 _ _ g2⟩ (fun b hb => ?_) (fun p hp => ?_) I1 K1
      · simp only [List.mem_cons, List.mem_nil_iff, or_false] at hb
        rcases hb with rfl | rfl | rfl | rfl
        · exact ⟨nn 4 (by decide), Nat.le_add_right _ _⟩
        · exact ⟨nn 2 (by decide), Nat.le_add_right _ _⟩
        · exact ⟨nn 0 (by decide), Nat.le_add_right _ _⟩
        · exact ⟨nn 1 (by decide), Nat.le_add_right _ _⟩
      · simp only [List.mem_cons, List.mem_nil_iff, or_false] at hp
        rcases hp with rfl | rfl | rfl
        · exact RV.mono K1.rho K1.tups _ _ r1
        · exact RV.mono K1.rho K1.tups _ _ r2
        · exact ⟨_, _, nx_rho I, rfl⟩
    · exact h.elim
  · exact h.elim

/-! ### for -/
def forL (J : It) (g : GV) (tb : SV) : Nat → Nat → SV
  | 0, _ => fun _ _ => .bad
  | n + 1, i => fun σ m => match J.on i m with
    | none => .bad
    | some none => .nxt σ (J.fin m)
    | some (some x) => (g x σ m).next fun σ1 m1 => match tb σ1 m1 with
      | .nxt σ2 m2 => forL J g tb n (i + 1) σ2 m2
      | .cnt σ2 m2 => forL J g tb n (i + 1) σ2 m2
      | .brk σ2 m2 => .nxt σ2 m2
      | r => r
def sFor (wi : Sl → Store → Res It) (g : GV) (tb : SV) (n : Nat) : SV := fun σ m => (wi σ m).toS σ fun J m1 => forL J g tb n 0 σ m1
theorem ss_for {body : List Stmt} {wi : Sl → Store → Res It} {g : GV} {tb : SV} (n : Nat) (tp : Top X) (hc : X.calm = true) (hi : SI X tg iter wi) (hg : SG X tg g) (hb : SB X body tb) (hs : ∀ x, foldedSetIterable iter X.env x = pure x) :
    SS X (.For tg iter body [] pos) (sFor wi g tb n) := by
  refine ⟨fun σ m ρ s Q E I h => ?_⟩
  refine wpAny_For (hi.run σ m ρ s _ E I ?_) hs
  unfold sFor at h
  cases ew : wi σ m with
  | bad => rw [ew] at h; exact h.elim
  | exc x m1 => rw [ew] at h; exact fun u s1 z => h u s1 (z.weak fun _ w => w.elim)
  | ok J m1 =>
    rw [ew] at h
    dsimp only [Res.toS] at h
    intro it fp hd tn s0 ρ0 T t0 f0 h0 I0 K0
    refine codeAny_forLoop_any (fun k s' => ∃ i σ' m' ρ', Inv X σ' m' ρ' s' ∧ Kp X.fs X.wr ρ ρ' s s' ∧ tn i s'.heap ∧ (∀ b ∈ fp, FpOk X ρ' b) ∧ (∀ p ∈ hd, RV ρ' s'.heap p.1 p.2) ∧ (forL J g tb k i σ' m').sat X ρ s Q E) ?_ n ⟨0, σ, m1, ρ0, I0, K0.any, t0, fun b hb => (f0 b hb).1, h0, h⟩
    rintro k s1 ⟨i, σ1, m1', ρ1, I1, K1, t1, f1, hd1, h1⟩
    cases k with
    | zero => exact h1.elim
    | succ k =>
      have noted : ∀ {r : SR} {ρ2 s2}, Kp X.fs X.wr ρ ρ2 s s2 → r.sat X ρ s Q E → ∀ x σ' m' u s', r = .exc x σ' m' → Air X X.wr σ' m' ρ2 s2 x u s' → notedBy (model X.G.P X.G.w) X.A X.env (cameBackBy (model X.G.P X.G.w) X.A X.env E) u s' := fun {r ρ2 s2} K2 hr x σ' m' u s' e z => by
        subst e
        exact air_noted I.ok.frames tp.stk tp.fr (z.after K2) hr
      simp only [forL] at h1
      cases ej : J.on i m1' with
      | none => rw [ej] at h1; exact h1.elim
      | some y =>
        cases y with
        | none =>
          rw [ej] at h1
          refine wpAny_mono (T.done X rfl hc i σ1 m1' ρ1 s1 _ _ I1 f1 hd1 t1 ej fun s2 I2 K2 => (h1 s2 ρ1 I2 (K1.young K2 fun c hc => .inr ((f0 c hc).2)))) (fun r s2 ⟨hr, q⟩ => ?_) fun _ _ q => q
          subst hr
          exact wpAny_execs_nil q
        | some x =>
          rw [ej] at h1
          dsimp only at h1
          refine wpAny_mono (T.item X rfl hc i x σ1 m1' ρ1 s1 (fun v s2 => wpAny (model X.G.P X.G.w) X.A (assign tg X.env v) (fun _ s3 => wpAny (model X.G.P X.G.w) X.A (execs body X.env) (fun f s4 => match f with
            | .next | .cont => ∃ m, m < k + 1 ∧ ∃ i σ' m' ρ', Inv X σ' m' ρ' s4 ∧ Kp X.fs X.wr ρ ρ' s s4 ∧ tn i s4.heap ∧ (∀ b ∈ fp, FpOk X ρ' b) ∧ (∀ p ∈ hd, RV ρ' s4.heap p.1 p.2) ∧ (forL J g tb m i σ' m').sat X ρ s Q E
            | .brk => Q .next s4
            | .ret v => Q (.ret v) s4) (notedBy (model X.G.P X.G.w) X.A X.env (cameBackBy (model X.G.P X.G.w) X.A X.env E)) s3) (notedBy (model X.G.P X.G.w) X.A X.env (cameBackBy (model X.G.P X.G.w) X.A X.env E)) s2) _ I1 f1 hd1 t1 ej fun u s2 I2 K2 r2 t2 => ?_) (fun r s2 ⟨v, hr, q⟩ => ?_) fun _ _ q => q
          · have K12 : Kp X.fs X.wr ρ ρ1 s s2 := K1.young K2 fun c hc => .inr ((f0 c hc).2)
            have keep : ∀ {ρ3 s3}, Kp X.fs X.wr ρ1 ρ3 s2 s3 → tn (i + 1) s3.heap ∧ (∀ b ∈ fp, FpOk X ρ3 b) ∧ (∀ p ∈ hd, RV ρ3 s3.heap p.1 p.2) := fun {ρ3 s3} K3 => by
              refine ⟨T.keep _ _ _ t2 fun b hb o e => K3.keep b o e (f1 b hb).1 (f1 b hb).2.1 (f1 b hb).2.2.1, fun b hb => ?_, fun p hp => RV.mono (K2.rho.trans K3.rho) (K2.tups.trans K3.tups) _ _ (hd1 p hp)⟩
              obtain ⟨o, e⟩ := T.obj _ _ t2 b hb
              exact (f1 b hb).on K3 e
            refine hg.run σ1 m1' ρ1 s2 x u _ _ I2 r2 ?_
            cases eg : g x σ1 m1' with
            | bad => rw [eg] at h1; exact h1.elim
            | exc x2 σ2 m2 => rw [eg] at h1; exact fun u2 s' z => noted K12 (r := .exc x2 σ2 m2) h1 x2 σ2 m2 u2 s' rfl z
            | ret v2 m2 => exact fun _ _ _ _ _ _ _ e => nomatch e
            | brk σ2 m2 => exact fun _ _ _ _ e => nomatch e
            | cnt σ2 m2 => exact fun _ _ _ _ e => nomatch e
            | nxt σ2 m2 =>
              rw [eg] at h1
              dsimp only [SR.next] at h1
              intro s3 ρ3 I3 K3 _
              have K13 := K12.trans K3
              refine hb.run σ2 m2 ρ3 s3 _ _ I3 ?_
              cases eb : tb σ2 m2 with
              | bad => rw [eb] at h1; exact h1.elim
              | exc x2 σ4 m4 => rw [eb] at h1; exact fun u2 s' z => noted K13 (r := .exc x2 σ4 m4) h1 x2 σ4 m4 u2 s' rfl z
              | ret v2 m4 => rw [eb] at h1; exact fun u2 s4 ρ4 σ4 I4 K4 r4 => h1 u2 s4 ρ4 σ4 I4 (K13.trans K4) r4
              | brk σ4 m4 => rw [eb] at h1; exact fun s4 ρ4 I4 K4 => h1 s4 ρ4 I4 (K13.trans K4)
              | nxt σ4 m4 =>
                rw [eb] at h1
                intro s4 ρ4 I4 K4
                obtain ⟨q1, q2, q3⟩ := keep (K3.trans K4)
                exact ⟨k, Nat.lt_succ_self _, i + 1, σ4, m4, ρ4, I4, K13.trans K4, q1, q2, q3, h1⟩
              | cnt σ4 m4 =>
                rw [eb] at h1
                intro s4 ρ4 I4 K4
                obtain ⟨q1, q2, q3⟩ := keep (K3.trans K4)
                exact ⟨k, Nat.lt_succ_self _, i + 1, σ4, m4, ρ4, I4, K13.trans K4, q1, q2, q3, h1⟩
          · subst hr
            exact q
end
end Z

set_option Elab.async false
set_option linter.all false
set_option maxRecDepth 100000
/-! the engine, part T: comprehensions -/
namespace Z
open PySem PySem.Spec PyProof.Rows
open L2 (frs cloFrom cloFrom_mem cloFrom_has cells_mem cells_acc cells_has cells_inj mem_lookup closure_ok newEnv_comp lookup_relS relS)

/-- the context of a comprehension's block at C -/
abbrev Cx.blk (X : Cx) (scope : Scope) (Nb : List Str) (cl : List (Str × Addr)) (C : Addr) : Cx := { X with env := compEnvC scope cl C X.env, N := Nb, own := fun x => decide (scope.names.lookup x = some .cell) }
/-- the block's names: its own, or captured from slot i -/
structure Blk (X : Cx) (scope : Scope) (Nb : List Str) (from_ : List (Option Nat)) : Prop where
  kind : scope.kind = .function
  uniq : ∀ y ∈ scope.names, scope.names.lookup y.1 = some y.2
  free : ∀ y ∈ scope.names, y.2 = .free → CF X.env y.1
  nd : Nb.Nodup
  len : from_.length = Nb.length
  cap : ∀ (i j : Nat) x, Nb[i]? = some x → from_[i]? = some (some j) → scope.names.lookup x = some .free ∧ X.N[j]? = some x
  own : ∀ (i : Nat) x, Nb[i]? = some x → from_[i]? = some none → scope.names.lookup x = some .local ∨ scope.names.lookup x = some .cell
/-- the slots at the start -/
def blkS (from_ : List (Option Nat)) (σ : Sl) : Sl := from_.map fun f => match f with
  | none => .un
  | some i => (σ[i]?).getD .un
section
variable {X : Cx} {σ σ' : Sl} {m m' : Store} {ρ ρ1 ρ' : Rho} {s s1 s' : Shared}
theorem blk_start {scope : Scope} {Nb : List Str} {fr : List (Option Nat)} (I : Inv X σ m ρ s) (ok : Blk X scope Nb fr) :
    Inv (X.blk scope Nb (cellsFrom (s.heap.objs.size + 1) scope.names (cloFrom X.env.cells scope.names [])) s.heap.objs.size) (blkS fr σ) m ρ { s with heap := pushCells (s.heap.push { cls := .type "dict", data := .dict #[] }) scope.names } ∧
      Kp X.fs noex ρ ρ s { s with heap := pushCells (s.heap.push { cls := .type "dict", data := .dict #[] }) scope.names } ∧
      (∀ b, (X.blk scope Nb (cellsFrom (s.heap.objs.size + 1) scope.names (cloFrom X.env.cells scope.names [])) s.heap.objs.size).wr b → s.heap.objs.size ≤ b) ∧
      ∀ b, FpOk X ρ b → b < s.heap.objs.size → FpOk (X.blk scope Nb (cellsFrom (s.heap.objs.size + 1) scope.names (cloFrom X.env.cells scope.names [])) s.heap.objs.size) ρ b := by
  have hfree : ∀ y ∈ scope.names, y.2 = .free → ∃ c, X.env.cells.lookup y.1 = some c := fun y hy e => I.ok.has _ (ok.free y hy e)
  have kp : ∀ b o, s.heap.get? b = some o → (pushCells (s.heap.push { cls := .type "dict", data := .dict #[] }) scope.names).get? b = some o := fun b o e => pushCells_keeps _ _ _ _ (Heap.get?_push_of_some _ e)
  have szl : s.heap.objs.size ≤ (pushCells (s.heap.push { cls := .type "dict", data := .dict #[] }) scope.names).objs.size := Nat.le_trans (by rw [Heap.size_push]; exact Nat.le_succ _) (L2.pushCells_size _ _)
  obtain ⟨I1, K1⟩ := I.kept (t := s.toks) kp szl
  obtain ⟨cl, hcl⟩ : ∃ cl, cl = cellsFrom (s.heap.objs.size + 1) scope.names (cloFrom X.env.cells scope.names []) := ⟨_, rfl⟩
  rw [← hcl]
  have hcl2 : cl = cellsFrom (s.heap.push { cls := .type "dict", data := .dict #[] }).objs.size scope.names (cloFrom X.env.cells scope.names []) := by rw [hcl, Heap.size_push]
  have fr' : ∀ b, s.heap.objs.size ≤ b → NotIn ρ b := fun b h => I.S.fresh h
  -- a captured cell, or a new one
  have ltC : ∀ {y c}, X.env.cells.lookup y = some c → c < s.heap.objs.size := fun {y c} e => by
    by_cases n : NotIn ρ c
    · obtain ⟨v, z⟩ := I.cell y c e n; exact z.lt
    · exact Classical.byContradiction fun h => n (fr' c (Nat.le_of_not_lt h))
  have cm : ∀ {y c}, (y, c) ∈ cloFrom X.env.cells scope.names [] → X.env.cells.lookup y = some c ∧ c < s.heap.objs.size := fun {y c} hm => by
    rcases cloFrom_mem hm with hm | ⟨h1, rfl⟩
    · cases hm
    · obtain ⟨c, hc⟩ := hfree _ h1 rfl
      have hc : X.env.cells.lookup y = some c := hc
      rw [hc]
      exact ⟨rfl, ltC hc⟩
  have mem : ∀ {y c}, cl.lookup y = some c → (X.env.cells.lookup y = some c ∧ c < s.heap.objs.size ∧ (y, NameKind.free) ∈ scope.names) ∨ (s.heap.objs.size + 1 ≤ c ∧ (y, NameKind.cell) ∈ scope.names ∧ (pushCells (s.heap.push { cls := .type "dict", data := .dict #[] }) scope.names).IsCell c none) := fun {y c} e => by
    rw [hcl2] at e
    rcases cells_mem (PySem.mem_of_lookup e) with hm | ⟨h1, h2, h3⟩
    · rcases cloFrom_mem hm with hm' | ⟨h1, _⟩
      · cases hm'
      · exact .inl ⟨(cm hm).1, (cm hm).2, h1⟩
    · rw [Heap.size_push] at h2; exact .inr ⟨h2, h1, h3⟩
  have look : ∀ {y}, scope.names.lookup y = some .free → ∃ c, cl.lookup y = some c ∧ X.env.cells.lookup y = some c := fun {y} hl => by
    have hy : (y, NameKind.free) ∈ scope.names := PySem.mem_of_lookup hl
    obtain ⟨c', e'⟩ := mem_lookup (cells_acc (names := scope.names) (n := (s.heap.push { cls := .type "dict", data := .dict #[] }).objs.size) (cloFrom_has (cells := X.env.cells) (acc := []) hy))
    rw [← hcl2] at e'
    refine ⟨c', e', ?_⟩
    rcases mem e' with ⟨h1, _⟩ | ⟨_, h2, _⟩
    · exact h1
    · have := ok.uniq _ h2
      dsimp only at this
      rw [hl] at this; cases this
  have kindB : ∀ {y k}, (compEnvC scope cl s.heap.objs.size X.env).kindOf y = some k → ∃ k', scope.names.lookup y = some k' ∧ (k = k' ∨ (k' = .free ∧ k = .cell)) := fun {y k} h => lookup_relS (sc := X.env.scope) h
  have kindF : ∀ {y}, scope.names.lookup y = some .free → CF (compEnvC scope cl s.heap.objs.size X.env) y := fun {y} h => by
    have hs : (compEnvC scope cl s.heap.objs.size X.env).kindOf y ≠ none := by
      intro z
      have : ∀ (names : List (Str × NameKind)), names.lookup y = some .free → (names.map fun (n, k) => if (k == NameKind.free && X.env.scope.kind == .function && X.env.scope.names.lookup n == some .cell) then (n, NameKind.cell) else (n, k)).lookup y ≠ none := by
        intro names
        induction names with
        | nil => intro h; cases h
        | cons p r ih =>
          obtain ⟨n, k⟩ := p
          intro h
          rw [List.lookup_cons] at h
          rw [List.map_cons]
          cases hb : y == n with
          | true =>
            dsimp only
            split <;> (rw [List.lookup_cons, hb]; simp)
          | false =>
            rw [hb] at h
            dsimp only
            split <;> (rw [List.lookup_cons, hb]; exact ih h)
      exact this _ h z
    cases e : (compEnvC scope cl s.heap.objs.size X.env).kindOf y with
    | none => exact absurd e hs
    | some k =>
      obtain ⟨k', e', r⟩ := kindB e
      rw [h] at e'; cases e'
      rcases r with rfl | ⟨_, rfl⟩
      · exact .inr e
      · exact .inl e
  have injB : ∀ y z c, cl.lookup y = some c → cl.lookup z = some c → y = z := fun y z c e1 e2 => by
    rw [hcl2] at e1 e2
    refine cells_inj (fun p hp => ?_) (fun y z c a b => I.ok.inj y z c (cm a).1 (cm b).1) (PySem.mem_of_lookup e1) (PySem.mem_of_lookup e2)
    rw [Heap.size_push]
    exact Nat.lt_succ_of_lt (cm (y := p.1) (c := p.2) hp).2
  have okB : (X.blk scope Nb cl s.heap.objs.size).Ok := by
    refine ⟨I.ok.G, ok.kind, I.ok.glob, I.ok.blt, fun y z c e1 e2 => injB y z c e1 e2, fun y hy => ?_, I.ok.hd, I.ok.hu, I.ok.frames, I.S.bfresh (Nat.le_refl _), fun y c e => ?_, ok.nd⟩
    · have key : ∀ k, (compEnvC scope cl s.heap.objs.size X.env).kindOf y = some k → (k = .cell ∨ k = .free) → ∃ c, cl.lookup y = some c := fun k hk hk' => by
        obtain ⟨k', e, r⟩ := kindB hk
        have : k' = .cell ∨ k' = .free := by
          rcases r with rfl | ⟨rfl, _⟩
          · exact hk'
          · exact .inr rfl
        rcases this with rfl | rfl
        · obtain ⟨c, hm⟩ := cells_has (n := (s.heap.push { cls := .type "dict", data := .dict #[] }).objs.size) (acc := cloFrom X.env.cells scope.names []) (PySem.mem_of_lookup e)
          obtain ⟨c', e'⟩ := mem_lookup hm
          exact ⟨c', by rw [hcl2]; exact e'⟩
        · obtain ⟨c, h1, _⟩ := look e
          exact ⟨c, h1⟩
      rcases hy with hy | hy
      · exact key _ hy (.inl rfl)
      · exact key _ hy (.inr rfl)
    · rcases mem e with ⟨h1, _⟩ | ⟨h1, _⟩
      · exact I.ok.cbase y c h1
      · exact I.S.bfresh (Nat.le_of_succ_le h1)
  have nsC : (pushCells (s.heap.push { cls := .type "dict", data := .dict #[] }) scope.names).Ns s.heap.objs.size fun _ => none := Heap.Ns.keeps (Heap.Ns.new ..) fun b o e => pushCells_keeps _ _ _ _ e
  have wrB : ∀ b, (X.blk scope Nb cl s.heap.objs.size).wr b → s.heap.objs.size ≤ b := fun b hb => by
    rcases hb with rfl | ⟨x, c, ho, e, rfl⟩
    · exact Nat.le_refl _
    · have ho : scope.names.lookup x = some .cell := of_decide_eq_true ho
      rcases mem e with ⟨_, _, h3⟩ | ⟨h1, _⟩
      · have := ok.uniq _ h3
        dsimp only at this
        rw [ho] at this; cases this
      · exact Nat.le_of_succ_le h1
  refine ⟨⟨okB, I1.S, fun y c e n => ?_, ⟨fun _ => none, nsC, fun i y sl e1 e2 => ?_⟩, fr' _ (Nat.le_refl _), ?_, I.low, I.lowle⟩, K1, wrB, fun b f hlt => ⟨f.1, fun w => absurd (Nat.lt_of_lt_of_le hlt (wrB b w)) (Nat.lt_irrefl _), f.2.2.1, f.2.2.2.1, Nat.ne_of_lt hlt, fun x c e z => ?_⟩⟩
  · rcases mem e with ⟨h1, _⟩ | ⟨_, _, z⟩
    · obtain ⟨w, z⟩ := I.cell y c h1 n
      exact ⟨w, z.keeps kp⟩
    · exact ⟨_, z⟩
  · have e2' : (fr.map fun f => match f with | none => Slot.un | some i => (σ[i]?).getD .un)[i]? = some sl := e2
    rw [List.getElem?_map] at e2'
    cases ef : fr[i]? with
    | none => rw [ef] at e2'; cases e2'
    | some f =>
      rw [ef] at e2'
      cases f with
      | none =>
        simp only [Option.map_some, Option.some.injEq] at e2'
        subst e2'
        intro cf c hc
        rcases mem hc with ⟨h1, _, h3⟩ | ⟨h1, _⟩
        · have := ok.uniq _ h3
          dsimp only at this
          rcases ok.own i y e1 ef with k | k <;> rw [k] at this <;> cases this
        · exact fr' _ (Nat.le_of_succ_le h1)
      | some j =>
        simp only [Option.map_some, Option.some.injEq] at e2'
        obtain ⟨hf, hj⟩ := ok.cap i j y e1 ef
        obtain ⟨c, h1, h2⟩ := look hf
        obtain ⟨mm, hn, hl⟩ := I.loc
        have hjl : j < σ.length := by rw [I.slen]; exact (List.getElem?_eq_some_iff.mp hj).1
        rw [List.getElem?_eq_getElem hjl] at e2'
        simp only [Option.getD_some] at e2'
        have so := hl j y σ[j] hj (List.getElem?_eq_getElem hjl)
        have cfo := ok.free _ (PySem.mem_of_lookup hf) rfl
        rw [e2'] at so
        cases sl with
        | un =>
          intro _ c' hc'
          have hc' : cl.lookup y = some c' := hc'
          rw [h1] at hc'; cases hc'
          exact so cfo c h2
        | val v =>
          obtain ⟨u, rv, q⟩ := so
          refine ⟨u, RV.mono K1.rho K1.tups _ _ rv, .inr ⟨kindF hf, c, h1, ?_⟩⟩
          rcases q with ⟨k, _⟩ | ⟨_, c', e', z, n⟩
          · rcases cfo with k' | k' <;> rw [k] at k' <;> cases k'
          · rw [h2] at e'; cases e'
            exact ⟨z.keeps kp, n⟩
        | box b =>
          obtain ⟨_, c', e', hb⟩ := so
          rw [h2] at e'; cases e'
          exact ⟨kindF hf, c, h1, hb⟩
  · show (blkS fr σ).length = Nb.length
    unfold blkS
    rw [List.length_map, ok.len]
  · rcases mem e with ⟨h1, _⟩ | ⟨h1, _⟩
    · exact f.2.2.2.2.2 x c h1 z
    · rw [z] at h1
      exact absurd (Nat.lt_of_lt_of_le hlt (Nat.le_of_succ_le h1)) (Nat.lt_irrefl _)
end
end Z

set_option Elab.async false
set_option linter.all false
set_option maxRecDepth 100000
/-! the engine, part U: list comprehensions -/
namespace Z
open PySem PySem.Spec PyProof.Rows
open L2 (frs cloFrom closure_ok newEnv_comp)

section
variable {X : Cx} {σ σ' : Sl} {m m' : Store} {ρ ρ1 ρ' : Rho} {s s1 s' : Shared} {a b c : Expr} {f g : EV} {E : Value → Shared → Prop} {pos : Pos} {tg iter : Expr}
/-- an untracked object becomes a cell -/
theorem Inv.adopt {d : Addr} {c : Cel} (I : Inv X σ m ρ s) (f : FpOk X ρ d) (nc : NoCode s.heap d) (ok : TupK ρ (ρ ++ [(d, d)]) s.heap s.heap → CelOk X.G (ρ ++ [(d, d)]) s.heap (d, d) c) :
    Inv X σ (m.push c) (ρ ++ [(d, d)]) s ∧ TupK ρ (ρ ++ [(d, d)]) s.heap s.heap := by
  have ni : ∀ b, b ≠ d → NotIn ρ b → NotIn (ρ ++ [(d, d)]) b := fun b h n => NotIn.app.mpr ⟨n, fun p hp => by
    rw [List.mem_singleton.mp hp]; exact ⟨h, h⟩⟩
  have tk : TupK ρ (ρ ++ [(d, d)]) s.heap s.heap := fun b us ⟨t, n⟩ => ⟨t, ni b (fun z => by
    subst z
    obtain ⟨o, e, c, k, dd⟩ := t
    obtain ⟨o', e', c', _⟩ := nc
    rw [e] at e'; cases e'
    rcases c' with c' | c'
    · exact c' c
    · exact c' _ _ dd) n⟩
  have rk := RhoK.app ρ [(d, d)]
  have lastρ : ∀ {i : Nat} {p : Addr × Addr}, (ρ ++ [(d, d)])[i]? = some p → (i < ρ.length ∧ ρ[i]? = some p) ∨ (i = ρ.length ∧ p = (d, d)) := fun {i p} e => by
    by_cases h : i < ρ.length
    · rw [List.getElem?_append_left h] at e; exact .inl ⟨h, e⟩
    · rw [List.getElem?_append_right (by omega)] at e
      have h1 : i - ρ.length < 1 := (List.getElem?_eq_some_iff.mp e).1
      have h2 : i = ρ.length := by omega
      subst h2
      simp at e
      exact .inr ⟨rfl, e.symm⟩
  have cel : ∀ {i : Nat} {p : Addr × Addr} {c' : Cel}, (ρ ++ [(d, d)])[i]? = some p → (m.push c).cs[i]? = some c' → (ρ[i]? = some p ∧ m.cs[i]? = some c') ∨ (p = (d, d) ∧ c' = c) := fun {i p c'} e1 e2 => by
    rcases lastρ e1 with ⟨h, e1⟩ | ⟨h, rfl⟩
    · rw [show (m.push c).cs = m.cs ++ [c] from rfl, List.getElem?_append_left (by rw [← I.S.len]; exact h)] at e2
      exact .inl ⟨e1, e2⟩
    · subst h
      rw [show (m.push c).cs = m.cs ++ [c] from rfl, I.S.len, List.getElem?_append_right (Nat.le_refl _)] at e2
      simp at e2
      exact .inr ⟨rfl, e2.symm⟩
  have S : SInv X.G X.stk (m.push c) (ρ ++ [(d, d)]) s := by
    refine ⟨I.S.os, I.S.bare, I.S.base, fun i p c' e1 e2 hw => ?_, I.S.funs, fun b hb => ni b (fun z => f.2.2.1 (z ▸ hb)) (I.S.frn b hb), by simp [Store.push, I.S.len], fun i j p q ne e1 e2 => ?_, fun i p c' e1 e2 => ?_⟩
    · rcases cel e1 e2 with ⟨e1, e2⟩ | ⟨rfl, _⟩
      · exact I.S.nbase i p c' e1 e2 hw
      · exact ⟨f.2.2.2.1, f.2.2.2.1⟩
    · rcases lastρ e1 with ⟨h1, e1⟩ | ⟨h1, rfl⟩ <;> rcases lastρ e2 with ⟨h2, e2⟩ | ⟨h2, rfl⟩
      · exact I.S.disj i j p q ne e1 e2
      · have := f.1.get e1
        exact ⟨Ne.symm this.1, Ne.symm this.1, Ne.symm this.2, Ne.symm this.2⟩
      · have := f.1.get e2
        exact ⟨this.1, this.2, this.1, this.2⟩
      · omega
    · rcases cel e1 e2 with ⟨e1, e2⟩ | ⟨rfl, rfl⟩
      · exact (I.S.cel i p c' e1 e2).stay rk tk (fun _ _ _ e => e) (fun _ _ q => q) (Nat.le_refl _)
      · exact ok tk
  refine ⟨⟨I.ok, S, fun y c e n => I.cell y c e (NotIn.app.mp n).1, ?_, ni _ (Ne.symm f.2.2.2.2.1) I.ln, I.slen, fun i hi => ?_, ?_⟩, tk⟩
  · obtain ⟨mm, hn, hl⟩ := I.loc
    exact ⟨mm, hn, fun i y sl e1 e2 => (hl i y sl e1 e2).mono rk tk (fun c e n => ni c (f.2.2.2.2.2 y c e) n) fun c v _ _ ic => ic⟩
  · have hlt := Nat.lt_of_lt_of_le hi I.lowle
    show (m.cs ++ [_])[i]? = _
    rw [List.getElem?_append_left hlt]; exact I.low i hi
  · show m.low ≤ (m.cs ++ [_]).length
    rw [List.length_append]; exact Nat.le_trans I.lowle (Nat.le_add_right _ _)
theorem FpOk.ni {d : Addr} (f : FpOk X ρ d) (n : NotIn ρ' d) : FpOk X ρ' d := ⟨n, f.2⟩

/-- a clause's tests -/
structure STs (X : Cx) (ifs : List Expr) (t : TV) : Prop where
  run : ∀ σ m ρ s (Q : Bool → Shared → Prop) (E : Value → Shared → Prop), Inv X σ m ρ s → (t σ m).sat (QT X σ ρ s Q) (EP X noex σ ρ s E) → wpAny (model X.G.P X.G.w) X.A (testsOf ifs X.env) Q E s
def tYes : TV := fun _ m => .ok true m
theorem sts_nil : STs X [] tYes := ⟨fun σ m ρ s Q E I h => wpAny_tests_nil (h s ρ I Kp.refl)⟩
theorem sts_one {t : TV} (h : ST X a t) : STs X [a] t := ⟨fun σ m ρ s Q E I hw => wpAny_tests_one (h.run σ m ρ s Q E I hw)⟩
def lcL (J : It) (g : GV) (t : TV) (f : EV) : Nat → Nat → Sl → List D → Store → Res (List D)
  | 0, _, _, _, _ => .bad
  | n + 1, i, σ, acc, m => match J.on i m with
    | none => .bad
    | some none => .ok acc (J.fin m)
    | some (some x) => match g x σ m with
      | .nxt σ1 m1 => match t σ1 m1 with
        | .ok true m2 => match f σ1 m2 with
          | .ok y m3 => if acc.length ≤ 16777216 then lcL J g t f n (i + 1) σ1 (acc ++ [y]) m3 else .bad
          | _ => .bad
        | .ok false m2 => lcL J g t f n (i + 1) σ1 acc m2
        | _ => .bad
      | _ => .bad
def eLc (wi : Sl → Store → Res It) (fr : List (Option Nat)) (g : GV) (t : TV) (f : EV) (n : Nat) : EV := fun σ m => (wi σ m).bind fun J m1 => (lcL J g t f n 0 (blkS fr σ) [] m1).bind fun acc m2 => if acc.length ≤ 16777216 then .ok (.ref m2.nx) (m2.push (.lst acc)) else .bad
theorem lcL_noexc {J : It} {g : GV} {t : TV} {f : EV} {x : Ex} {mx : Store} : ∀ (n i : Nat) (σ : Sl) (acc : List D) (m : Store), lcL J g t f n i σ acc m ≠ .exc x mx
  | 0, _, _, _, _ => fun h => nomatch h
  | n + 1, i, σ, acc, m => by
    unfold lcL
    split
    · exact fun h => nomatch h
    · exact fun h => nomatch h
    · split
      · split
        · split
          · split
            · exact lcL_noexc n _ _ _ _
            · exact fun h => nomatch h
          · exact fun h => nomatch h
        · exact lcL_noexc n _ _ _ _
        · exact fun h => nomatch h
      · exact fun h => nomatch h
theorem lc_core {elt : Expr} {ifs : List Expr} {scope : Scope} {Nb : List Str} {fr : List (Option Nat)} {wi : Sl → Store → Res It} {g : GV} {t : TV} {f : EV} {use : Option (Value → Sem Unit)} {Qf : Value → Shared → Prop} {pos' : Pos} {KV : D → Store → Prop} (n : Nat)
    (hc : X.calm = true) (I : Inv X σ m ρ s) (hi : SI X tg iter wi) (ok : Blk X scope Nb fr)
    (hg : ∀ cl C, SG (X.blk scope Nb cl C) tg g) (ht : ∀ cl C, STs (X.blk scope Nb cl C) ifs t) (he : ∀ cl C, SE (X.blk scope Nb cl C) elt f) (hs : ∀ x, foldedSetIterable iter X.env x = pure x)
    (h : (eLc wi fr g t f n σ m).sat KV (EP X noex σ ρ s E))
    (hR : ∀ v D C s' m' ρ' mm, Inv X σ m' ρ' s' → Kp X.fs noex ρ ρ' s s' → RV ρ' s'.heap v (.ref D) → KV v m' → s'.heap.Ns C mm → FpOk X ρ' C → s.heap.objs.size ≤ C → compPost (model X.G.P X.G.w) X.A E use Qf (.ref D) C (.ok .next) s') :
    wpAny (model X.G.P X.G.w) X.A (comprehension (.ListComp elt [⟨tg, iter, ifs, 0⟩] scope pos) scope X.env pos' (newList []) false (eval iter X.env) use) Qf E s := by
  have hfree : ∀ y ∈ scope.names, y.2 = .free → ∃ c, X.env.cells.lookup y.1 = some c := fun y hy e => I.ok.has _ (ok.free y hy e)
  refine wpAny_comprehension_free (use := use) rfl hs (closure_ok hfree) ok.kind (fun y hy e => by rw [ok.uniq y hy, e]) (hi.run σ m ρ s _ E I ?_)
  unfold eLc at h
  cases ew : wi σ m with
  | bad => rw [ew] at h; exact h.elim
  | exc x m1 => rw [ew] at h; exact h
  | ok J m1 =>
    rw [ew] at h
    dsimp only [Res.bind] at h
    intro it fp hd tn s0 ρ0 T t0 f0 h0 I0 K0
    refine wpAny_newObj_type (newEnv_comp ?_) (by show 0 ≤ sizeLine; decide)
    -- the new list, untracked
    obtain ⟨I1, K1⟩ := I0.kept (h' := s0.heap.push { cls := .type "list", data := .seq ([] : List Value).toArray }) (t := s0.toks) (fun b o e => Heap.get?_push_of_some _ e) (by simp)
    have fD : FpOk X ρ0 s0.heap.objs.size := FpOk.fresh I0 (Nat.le_refl _)
    have fpD : ∀ b ∈ fp, b ≠ s0.heap.objs.size := fun b hb => by
      obtain ⟨o, e⟩ := T.obj _ _ t0 b hb
      exact Nat.ne_of_lt (Heap.lt_size e)
    have gD : (s0.heap.push { cls := .type "list", data := .seq ([] : List Value).toArray }).get? s0.heap.objs.size = some { cls := .type "list", data := .seq ([] : List Value).toArray } := Heap.get?_push_size _ rfl
    have sD : s.heap.objs.size ≤ s0.heap.objs.size := K0.sz
    generalize hs1 : ({ s0 with heap := s0.heap.push { cls := .type "list", data := .seq ([] : List Value).toArray } } : Shared) = s1 at I1 K1
    have hh1 : s1.heap = s0.heap.push { cls := .type "list", data := .seq ([] : List Value).toArray } := by rw [← hs1]
    rw [← hh1] at gD
    generalize s0.heap.objs.size = D at fD gD sD fpD ⊢
    obtain ⟨I2, K2, wrC, fpC⟩ := blk_start I1 ok
    have hDC : D < s1.heap.objs.size := Heap.lt_size gD
    have fp2 : ∀ b ∈ fp, b < s1.heap.objs.size := fun b hb => by
      obtain ⟨o, e⟩ := T.obj _ _ t0 b hb
      exact Nat.lt_of_lt_of_le (Heap.lt_size e) K1.sz
    have fC : FpOk X ρ0 s1.heap.objs.size := FpOk.fresh I1 (Nat.le_refl _)
    have sC : s.heap.objs.size ≤ s1.heap.objs.size := Nat.le_trans K0.sz K1.sz
    have t1 : tn 0 s1.heap := T.keep _ _ _ t0 fun b hb o e => by rw [hh1]; exact Heap.get?_push_of_some _ e
    have kp2 : ∀ b o, s1.heap.get? b = some o → (pushCells (s1.heap.push { cls := .type "dict", data := .dict #[] }) scope.names).get? b = some o := fun b o e => pushCells_keeps _ _ _ _ (Heap.get?_push_of_some _ e)
    have t2 : tn 0 (pushCells (s1.heap.push { cls := .type "dict", data := .dict #[] }) scope.names) := T.keep _ _ _ t1 fun b hb o e => kp2 b o e
    have gD2 := kp2 _ _ gD
    have hd2 : ∀ p ∈ hd, RV ρ0 (pushCells (s1.heap.push { cls := .type "dict", data := .dict #[] }) scope.names) p.1 p.2 := fun p hp => RV.mono (K1.trans K2).rho (K1.trans K2).tups _ _ (h0 p hp)
    have K02 := (K0.trans K1).trans K2
    subst hs1
    show codeAny _ _ (.compStart (.ListComp elt [⟨tg, iter, ifs, 0⟩] scope pos) 0 (.ref it) (.ref D) (compEnvC scope (cellsFrom ((s0.heap.push { cls := .type "list", data := .seq ([] : List Value).toArray }).objs.size + 1) scope.names (cloFrom X.env.cells scope.names [])) (s0.heap.push { cls := .type "list", data := .seq ([] : List Value).toArray }).objs.size X.env)) (compPost (model X.G.P X.G.w) X.A E use Qf (.ref D) (s0.heap.push { cls := .type "list", data := .seq ([] : List Value).toArray }).objs.size) { s0 with heap := pushCells ((s0.heap.push { cls := .type "list", data := .seq ([] : List Value).toArray }).push { cls := .type "dict", data := .dict #[] }) scope.names }
    dsimp only at I2 K2 wrC fpC hDC fp2 fC sC t2 gD2 hd2 K02 gD
    generalize (s0.heap.push { cls := .type "list", data := .seq ([] : List Value).toArray }).objs.size = C at I2 K2 wrC fpC hDC fp2 fC sC t2 gD2 hd2 K02 ⊢
    generalize pushCells ((s0.heap.push { cls := .type "list", data := .seq ([] : List Value).toArray }).push { cls := .type "dict", data := .dict #[] }) scope.names = h2 at I2 K2 t2 gD2 hd2 K02 ⊢
    generalize cellsFrom (C + 1) scope.names (cloFrom X.env.cells scope.names []) = cl at I2 wrC fpC ⊢
    have fDb := fpC D fD hDC
    have ffp : ∀ b ∈ fp, FpOk (X.blk scope Nb cl C) ρ0 b := fun b hb => fpC b (f0 b hb).1 (fp2 b hb)
    have young : ∀ b, (X.blk scope Nb cl C).wr b → noex b ∨ s.heap.objs.size ≤ b := fun b w => .inr (Nat.le_trans sC (wrC b w))
    have youngF : ∀ b, b ∈ fp → noex b ∨ s.heap.objs.size ≤ b := fun b hb => .inr (f0 b hb).2
    have loop : codeAny (model X.G.P X.G.w) X.A (.compLoop (.ListComp elt [⟨tg, iter, ifs, 0⟩] scope pos) 0 (.ref it) (.ref D) (compEnvC scope cl C X.env)) (compPost (model X.G.P X.G.w) X.A E use Qf (.ref D) C) { s0 with heap := h2 } := by
      refine L2.compLoop_any (fun k s' => ∃ i σ' acc m' ρ' us nn, Inv (X.blk scope Nb cl C) σ' m' ρ' s' ∧ Kp X.fs noex ρ ρ' s s' ∧ tn i s'.heap ∧ (∀ b ∈ fp, FpOk (X.blk scope Nb cl C) ρ' b) ∧ FpOk (X.blk scope Nb cl C) ρ' D ∧ (∀ p ∈ hd, RV ρ' s'.heap p.1 p.2) ∧ RVs ρ' s'.heap acc us ∧
        s'.heap.get? D = some { cls := .type "list", data := .seq us.toArray nn } ∧ ((lcL J g t f k i σ' acc m').bind fun acc m2 => if acc.length ≤ 16777216 then (Res.ok (Z.D.ref m2.nx) (m2.push (.lst acc)) : Res Z.D) else .bad).sat KV (EP X noex σ ρ s E)) ?_ n ⟨0, blkS fr σ, [], m1, ρ0, [], 0, I2, K02, t2, ffp, fDb, hd2, RVs.nil, gD2, h⟩
      rintro k s3 ⟨i, σ3, acc, m3, ρ3, us, nn, I3, K3, t3, f3, d3, hd3, ra, g3, h3⟩
      cases k with
      | zero => exact h3.elim
      | succ k =>
        simp only [lcL] at h3
        have lenA := ra.len
        cases ej : J.on i m3 with
        | none => rw [ej] at h3; exact h3.elim
        | some y =>
          cases y with
          | none =>
            rw [ej] at h3
            dsimp only [Res.bind] at h3
            split at h3
            · rename_i hz
              refine wpAny_mono (T.done (X.blk scope Nb cl C) rfl hc i σ3 m3 ρ3 s3 (fun s4 => compPost (model X.G.P X.G.w) X.A E use Qf (.ref D) C (.ok .next) s4) _ I3 f3 hd3 t3 ej fun s4 I4 K4 => ?_) (fun r s4 ⟨hr, q⟩ => ?_) fun _ _ q => q
              · have K34 : Kp X.fs noex ρ ρ3 s s4 := K3.young K4 youngF
                have I5 : Inv X σ (J.fin m3) ρ3 s4 := I.go K34 I4.S I4.low I4.lowle
                have D4 : s4.heap.get? D = some { cls := .type "list", data := .seq us.toArray nn } := K4.keep D _ g3 d3.1 (fun hm => fpD D hm rfl) d3.2.2.1
                obtain ⟨I6, tk6⟩ := I5.adopt (c := .lst acc) (fD.ni d3.1) (NoCode.seq D4 (by simp) rfl) fun tk => ⟨rfl, by rw [sizeLine_eq]; exact hz, us, nn, RVs.mono (RhoK.app _ _) tk _ _ (RVs.mono K4.rho K4.tups _ _ ra), D4⟩
                obtain ⟨mm, hn, _⟩ := I4.loc
                obtain ⟨l0, e0, q0⟩ := id K34.sub
                refine hR (.ref (J.fin m3).nx) D C s4 _ _ mm I6 ⟨⟨l0 ++ [(D, D)], by rw [e0, List.append_assoc], fun p hp => ?_⟩, K34.sz, K34.tups.trans tk6, K34.codes, K34.keep, K34.slot⟩ ⟨D, D, nx_rho I5, rfl⟩ h3 hn ((fC.ni (NotIn.app.mpr ⟨I4.ln, fun p hp => ?_⟩))) sC
                · rcases List.mem_append.mp hp with q | q
                  · exact q0 p q
                  · rw [List.mem_singleton.mp q]; exact ⟨sD, sD⟩
                · rw [List.mem_singleton.mp hp]
                  have : C ≠ D := Ne.symm (Nat.ne_of_lt hDC)
                  exact ⟨this, this⟩
              · subst hr; exact q
            · exact h3.elim
          | some x =>
            rw [ej] at h3
            dsimp only at h3
            refine wpAny_mono (T.item (X.blk scope Nb cl C) rfl hc i x σ3 m3 ρ3 s3 ?Q _ I3 f3 hd3 t3 ej ?hq) ?hm fun _ _ q => q
            case hm =>
              rintro r s4 ⟨v, hr, q⟩
              subst hr
              exact q
            case hq =>
              intro u s4 I4 K4 r4 t4
              have K34 : Kp X.fs noex ρ ρ3 s s4 := K3.young K4 youngF
              -- what stays through the turn
              have keep : ∀ {ρ5 s5}, Kp X.fs (X.blk scope Nb cl C).wr ρ3 ρ5 s4 s5 → Kp X.fs noex ρ ρ5 s s5 ∧ tn (i + 1) s5.heap ∧ (∀ b ∈ fp, FpOk (X.blk scope Nb cl C) ρ5 b) ∧ FpOk (X.blk scope Nb cl C) ρ5 D ∧ (∀ p ∈ hd, RV ρ5 s5.heap p.1 p.2) ∧ RVs ρ5 s5.heap acc us ∧ s5.heap.get? D = some { cls := .type "list", data := .seq us.toArray nn } := fun {ρ5 s5} K5 => by
                have gD4 : s4.heap.get? D = some { cls := .type "list", data := .seq us.toArray nn } := K4.keep D _ g3 d3.1 (fun hm => fpD D hm rfl) d3.2.2.1
                refine ⟨K34.young K5 young, T.keep _ _ _ t4 fun b hb o e => K5.keep b o e (f3 b hb).1 (f3 b hb).2.1 (f3 b hb).2.2.1, fun b hb => ?_, d3.on K5 gD4, fun p hp => RV.mono (K4.rho.trans K5.rho) (K4.tups.trans K5.tups) _ _ (hd3 p hp), RVs.mono (K4.rho.trans K5.rho) (K4.tups.trans K5.tups) _ _ ra, K5.keep D _ gD4 d3.1 d3.2.1 d3.2.2.1⟩
                obtain ⟨o, e⟩ := T.obj _ _ t4 b hb
                exact (f3 b hb).on K5 e
              refine (hg cl C).run σ3 m3 ρ3 s4 x u _ _ I4 r4 ?_
              cases eg : g x σ3 m3 with
              | bad => rw [eg] at h3; exact h3.elim
              | exc x2 σ4 m4 => rw [eg] at h3; exact h3.elim
              | ret v2 m4 => rw [eg] at h3; exact h3.elim
              | brk σ4 m4 => rw [eg] at h3; exact h3.elim
              | cnt σ4 m4 => rw [eg] at h3; exact h3.elim
              | nxt σ4 m4 =>
                rw [eg] at h3
                dsimp only at h3
                intro s5 ρ5 I5 K5 _
                refine (ht cl C).run σ4 m4 ρ5 s5 _ _ I5 ?_
                cases et : t σ4 m4 with
                | bad => rw [et] at h3; exact h3.elim
                | exc x2 m5 => rw [et] at h3; exact h3.elim
                | ok bb m5 =>
                  rw [et] at h3
                  intro s6 ρ6 I6 K6
                  cases bb with
                  | false =>
                    dsimp only at h3
                    rw [if_neg Bool.false_ne_true]
                    obtain ⟨q1, q2, q3, q4, q5, q6, q7⟩ := keep (K5.trans K6.any)
                    exact ⟨k, Nat.lt_succ_self _, i + 1, σ4, acc, m5, ρ6, us, nn, I6, q1, q2, q3, q4, q5, q6, q7, h3⟩
                  | true =>
                    dsimp only at h3
                    rw [if_pos rfl]
                    refine (he cl C).run σ4 m5 ρ6 s6 _ _ I6 ?_
                    cases ef : f σ4 m5 with
                    | bad => rw [ef] at h3; exact h3.elim
                    | exc x2 m6 => rw [ef] at h3; exact h3.elim
                    | ok yv m6 =>
                      rw [ef] at h3
                      dsimp only at h3
                      split at h3
                      case isFalse => exact h3.elim
                      rename_i hza
                      intro uy s7 ρ7 I7 K7 r7
                      obtain ⟨q1, q2, q3, q4, q5, q6, q7⟩ := keep (K5.trans (K6.trans K7).any)
                      by_cases hz : us.length ≤ sizeLine
                      · refine append_at (hsz := by simpa using hz) q7 fun h8 sb go8 => ?_
                        obtain ⟨I8, K8⟩ := I7.turned (W := [D]) (h' := h8) (t := s7.toks) (fun b o hb e => (sb.2 b (by simpa using hb)).trans e) (Nat.le_of_eq sb.1.symm) fun b hb => by
                          rw [List.mem_singleton.mp hb]; exact .inl ⟨q4, NoCode.seq q7 (by simp) rfl⟩
                        have nD : ∀ b ∈ fp, b ∉ [D] := fun b hb hm => fpD b hb (by simpa using hm)
                        refine ⟨k, Nat.lt_succ_self _, i + 1, σ4, acc ++ [yv], m6, ρ7, us ++ [uy], nn + 1, I8, q1.young K8 fun c hc => .inr (by rw [List.mem_singleton.mp hc]; exact sD), T.keep _ _ _ q2 fun b hb o e => K8.keep b o e (q3 b hb).1 (nD b hb) (q3 b hb).2.2.1, q3, q4, fun p hp => RV.mono K8.rho K8.tups _ _ (q5 p hp), (RVs.mono K8.rho K8.tups _ _ q6).app (RVs.cons (RV.mono K8.rho K8.tups _ _ r7) RVs.nil), ?_, h3⟩
                        rw [go8]
                        simp
                      · exact absurd (by rw [← lenA, sizeLine_eq]; exact hza) hz
    exact codeAny_compStart_list loop (T.self X.A 0 _ _ _ t2 loop)
theorem se_lc {elt : Expr} {ifs : List Expr} {scope : Scope} {Nb : List Str} {fr : List (Option Nat)} {wi : Sl → Store → Res It} {g : GV} {t : TV} {f : EV} (n : Nat) (hc : X.calm = true) (hi : SI X tg iter wi) (ok : Blk X scope Nb fr)
    (hg : ∀ cl C, SG (X.blk scope Nb cl C) tg g) (ht : ∀ cl C, STs (X.blk scope Nb cl C) ifs t) (he : ∀ cl C, SE (X.blk scope Nb cl C) elt f) (hs : ∀ x, foldedSetIterable iter X.env x = pure x) : SE X (.ListComp elt [⟨tg, iter, ifs, 0⟩] scope pos) (eLc wi fr g t f n) := by
  refine ⟨fun σ m ρ s Q E I h => ?_⟩
  rw [eval_ListComp]
  refine lc_core (use := none) n hc I hi ok hg ht he hs h fun v D C s' m' ρ' mm I' K' r' q hn fC sC => ⟨mm, hn, fun h'' sb => ?_⟩
  obtain ⟨I2, K2⟩ := I'.turned (W := [C]) (h' := h'') (t := s'.toks) (fun b o hb e => (sb.2 b (by simpa using hb)).trans e) (Nat.le_of_eq sb.1.symm) fun b hb => by
    rw [List.mem_singleton.mp hb]
    obtain ⟨o, es, ep, e, dd, _⟩ := hn
    exact .inl ⟨fC, o, e, .inr (fun vs k z => by rw [dd] at z; cases z), fun vs z => by rw [dd] at z; cases z⟩
  exact q _ _ _ I2 (K'.young K2 fun c hc => .inr (by rw [List.mem_singleton.mp hc]; exact sC)) (RV.mono K2.rho K2.tups _ _ r')
/-- y = [..] on one line, y a local name -/
theorem ss_setLc {i : Nat} {y : Str} {py spos : Pos} {elt : Expr} {ifs : List Expr} {scope : Scope} {Nb : List Str} {fr : List (Option Nat)} {wi : Sl → Store → Res It} {g : GV} {t : TV} {f : EV} (n : Nat) (hc : X.calm = true) (hy : X.N[i]? = some y) (hyl : X.env.kindOf y = some .local)
    (hsw : swapsWith (.ListComp elt [⟨tg, iter, ifs, 0⟩] scope pos) (some (.Name y py)) spos.line X.env = pure true) (hi : SI X tg iter wi) (ok : Blk X scope Nb fr)
    (hg : ∀ cl C, SG (X.blk scope Nb cl C) tg g) (ht : ∀ cl C, STs (X.blk scope Nb cl C) ifs t) (he : ∀ cl C, SE (X.blk scope Nb cl C) elt f) (hs : ∀ x, foldedSetIterable iter X.env x = pure x) :
    SS X (.Assign [.Name y py] (.ListComp elt [⟨tg, iter, ifs, 0⟩] scope pos) spos) (sAsg (eLc wi fr g t f n) (gName i)) := by
  refine ⟨fun σ m ρ s Q E I h => ?_⟩
  rw [exec_Assign_Name_used _ _ _ _ hsw]
  refine wpAny_bind (wpAny_standAt (wpAny_bind ?_))
  show wpAny _ X.A (do let _ ← comprehension (.ListComp elt [⟨tg, iter, ifs, 0⟩] scope pos) scope X.env (firstIterPos [⟨tg, iter, ifs, 0⟩] pos) (newList []) false (eval iter X.env) (some (assign (.Name y py) X.env))) _ _ s
  have h2 : (eLc wi fr g t f n σ m).sat (fun v m1 => (gName i v σ m1).sat X ρ s Q E) (EP X noex σ ρ s E) := by
    have h : ((eLc wi fr g t f n σ m).toS σ fun v m1 => gName i v σ m1).sat X ρ s Q E := h
    cases e : eLc wi fr g t f n σ m with
    | ok v m1 => rw [e] at h; exact h
    | exc x m1 => rw [e] at h; exact fun u s1 z => h u s1 (z.weak fun _ w => w.elim)
    | bad => rw [e] at h; exact h
  refine wpAny_bind (wpAny_mono (lc_core (use := some (assign (.Name y py) X.env)) (Qf := fun _ s' => Q .next s') n hc I hi ok hg ht he hs h2 fun v D C s' m' ρ' mm I' K' r' q hn fC sC => ?_) (fun _ s' hq => wpAny_pure (wpAny_pure hq)) fun _ _ q => q)
  show wpAny _ _ (assign (.Name y py) X.env (.ref D)) _ _ _
  have q : (gName i v σ m').sat X ρ s Q E := q
  unfold gName at q
  cases e : setS i v σ m' with
  | none => rw [e] at q; exact q.elim
  | some p =>
    obtain ⟨σ', m2⟩ := p
    rw [e] at q
    refine wpAny_assign_Name (store_z I' hy (.inl hyl) r' e fun s2 I2 K2 => ?_)
    obtain ⟨o, es, ep, eC, dC, r1, r2⟩ := hn
    have g2 := K2.keep C o eC fC.1 fC.2.1 fC.2.2.1
    refine ⟨mm, ⟨o, es, ep, g2, dC, r1, r2⟩, fun h'' sb => ?_⟩
    have fC2 := fC.on K2 eC
    obtain ⟨I3, K3⟩ := I2.turned (W := [C]) (h' := h'') (t := s2.toks) (fun b o hb e => (sb.2 b (by simpa using hb)).trans e) (Nat.le_of_eq sb.1.symm) fun b hb => by
      rw [List.mem_singleton.mp hb]
      exact .inl ⟨fC2, o, g2, .inr (fun vs k z => by rw [dC] at z; cases z), fun vs z => by rw [dC] at z; cases z⟩
    exact q _ _ I3 ((K'.any.trans K2).young K3 fun c hc => .inr (by rw [List.mem_singleton.mp hc]; exact sC))
end
end Z

set_option Elab.async false
set_option linter.all false
set_option maxRecDepth 100000
/-! the engine, part V: calls of built-ins -/
namespace Z
open PySem PySem.Spec PyProof.Rows
open L2 (frs)

/-- the built-in type of a value -/
def tyOf (m : Store) : D → Option String
  | .non => some "NoneType"
  | .bl _ => some "bool"
  | .int _ => some "int"
  | .str _ => some "str"
  | .tup _ => some "tuple"
  | .ref i => match m.cs[i]? with
    | some (.lst _) => some "list"
    | some (.frz _) => some "list"
    | some (.dct _) => some "dict"
    | _ => none
  | _ => none
/-- is the type t beneath c -/
def subT (t c : String) : Option Bool :=
  if t == c then some true
  else if kitTys.contains c && tys.contains t then some (t == "bool" && c == "int") else none
where
  kitTys : List String := ["int", "bool", "list", "tuple", "dict", "str"]
  tys : List String := ["NoneType", "bool", "int", "str", "tuple", "list", "dict"]
def subAny (t : String) : List D → Option Bool
  | [] => some false
  | .ty c :: r => match subT t c with
    | some true => some true
    | some false => subAny t r
    | none => none
  | _ :: _ => none
theorem kit_of {K : PySem.W.Frag} {t c : String} {b : Bool} (h : subT t c = some b) : PySem.W.kitOne K (.type t) (.type c) = some b := by
  unfold subT at h
  unfold PySem.W.kitOne
  by_cases e : t = c
  · subst e
    simp only [beq_self_eq_true, if_true, Option.some.injEq] at h ⊢
    exact h
  · have e1 : (t == c) = false := beq_eq_false_iff_ne.mpr e
    have e2 : ((Value.type t : Value) == .type c) = false := beq_eq_false_iff_ne.mpr fun z => e (Value.type.inj z)
    rw [e1] at h
    rw [e2]
    simp only [Bool.false_eq_true, if_false] at h ⊢
    split at h
    · rename_i hk
      simp only [Bool.and_eq_true, List.contains_iff_mem] at hk
      cases h
      obtain ⟨h1, h2⟩ := hk
      simp only [subT.kitTys, subT.tys, List.mem_cons, List.mem_nil_iff, or_false] at h1 h2
      rcases h1 with rfl | rfl | rfl | rfl | rfl | rfl <;> rcases h2 with rfl | rfl | rfl | rfl | rfl | rfl | rfl <;> first | exact absurd rfl e | (show (PySem.W.kitCls K _ _) = _; kernel_rfl) | rfl
    · cases h
section
variable {X : Cx} {σ : Sl} {m m' : Store} {ρ ρ1 ρ' : Rho} {s s1 s' : Shared} {a b c : Expr} {f g k : EV} {E : Value → Shared → Prop} {pos : Pos}
theorem kitx_of_ty (I : Inv X σ m ρ s) {v : D} {u : Value} {t : String} (r : RV ρ s.heap v u) (h : tyOf m v = some t) : ∃ H : Heap → Prop, PySem.W.KitX X.G.K u (.type t) H ∧ H s.heap ∧ u ≠ .builtin "__main__.__loader__#opaque" := by
  cases v with
  | non => cases h; cases r; exact ⟨_, PySem.W.kitx_none, trivial, by simp⟩
  | bl b => cases h; cases r; exact ⟨_, PySem.W.kitx_bool, trivial, by simp⟩
  | int i => cases h; obtain ⟨t, rfl⟩ := r; exact ⟨_, PySem.W.kitx_int, trivial, by simp⟩
  | str x => cases h; obtain ⟨t, rfl⟩ := r; exact ⟨_, PySem.W.kitx_str, trivial, by simp⟩
  | tup vs =>
    cases h
    simp only [RV] at r
    obtain ⟨a, us, rfl, ⟨⟨o, e1, e2, _⟩, _⟩, _⟩ := r
    exact ⟨_, PySem.W.kitx_tuple, ⟨o, e1, e2⟩, by simp⟩
  | ref i =>
    simp only [tyOf] at h
    cases e : m.cs[i]? with
    | none => rw [e] at h; cases h
    | some c =>
      rw [e] at h
      obtain ⟨p, hp, ck⟩ := I.S.at e
      obtain rfl := RV.ref_of hp r
      cases c with
      | lst ws => cases h; obtain ⟨_, _, us, n, _, d⟩ := ck; exact ⟨_, PySem.W.kitx_list, ⟨_, d, rfl⟩, by simp⟩
      | frz ws => cases h; obtain ⟨_, _, us, n, _, d⟩ := ck; exact ⟨_, PySem.W.kitx_list, ⟨_, d, rfl⟩, by simp⟩
      | dct kvs =>
        cases h
        obtain ⟨_, _, _, d⟩ := ck
        rcases d with ⟨ys, ⟨o, es, ep, q, ex, _⟩, _⟩ | ⟨xs, ⟨o, es, ep, q, ex, _⟩, _⟩
        · exact ⟨_, PySem.W.kitx_dict, ⟨_, q, ex.1⟩, by simp⟩
        · exact ⟨_, PySem.W.kitx_dict, ⟨_, q, ex.1⟩, by simp⟩
      | _ => cases h
  | _ => cases h
def rIsi : List D → Store → Res D := fun vs m => match vs with
  | [v, .ty c] => (match tyOf m v with
    | some t => (match subT t c with | some b => .ok (.bl b) m | none => .bad)
    | none => .bad)
  | [v, .tup cs] => (match tyOf m v with
    | some t => (match subAny t cs with | some b => .ok (.bl b) m | none => .bad)
    | none => .bad)
  | _ => .bad
theorem subAny_kit {K : PySem.W.Frag} {ρ : Rho} {h : Heap} {t : String} : ∀ {cs : List D} {us : List Value} {b : Bool}, RVs ρ h cs us → subAny t cs = some b → PySem.W.kitAny K (.type t) us = some b
  | [], us, b, r, e => by simp only [RVs] at r; subst r; cases e; rfl
  | v :: cs, us, b, r, e => by
    simp only [RVs] at r
    obtain ⟨u, q, rfl, r1, r2⟩ := r
    cases v with
    | ty c =>
      obtain rfl := (show u = .type c from r1)
      unfold subAny at e
      unfold PySem.W.kitAny
      split at e
      · rename_i e1; cases e; rw [kit_of e1]
      · rename_i e1; rw [kit_of e1]; exact subAny_kit r2 e
      · cases e
    | _ => cases e
theorem o_isi : O1s X (.builtin "isinstance") rIsi := ⟨fun σ m ρ s vs us Q E I rs h => by
  unfold rIsi at h
  split at h
  · rename_i v c
    simp only [RVs] at rs
    obtain ⟨u, q, rfl, r1, u2, q2, rfl, r2, rfl⟩ := rs
    obtain rfl := (show u2 = .type c from r2)
    split at h
    · rename_i t e1
      split at h
      · rename_i b e2
        obtain ⟨H, z, p, ne⟩ := kitx_of_ty I r1 e1
        exact PySem.W.kia_one z I.kIn p (kit_of e2) ne fun tk => h _ _ ρ (I.tok _) (Kp.tok _) rfl
      · exact h.elim
    · exact h.elim
  · rename_i v cs
    simp only [RVs] at rs
    obtain ⟨u, q, rfl, r1, u2, q2, rfl, r2, rfl⟩ := rs
    split at h
    · rename_i t e1
      split at h
      · rename_i b e2
        obtain ⟨H, z, p, ne⟩ := kitx_of_ty I r1 e1
        simp only [RV] at r2
        obtain ⟨a, us, rfl, ⟨⟨o, g1, g2, n, g3⟩, _⟩, _, rs⟩ := r2
        obtain ⟨oc, od, dd, sl⟩ := o
        dsimp only at g2 g3
        subst g2; subst g3
        exact PySem.W.kia_tup z I.kIn p g1 (subAny_kit rs e2) ne fun tk => h _ _ ρ (I.tok _) (Kp.tok _) rfl
      · exact h.elim
    · exact h.elim
  · exact h.elim⟩

/-! ### len -/
def lenOf (m : Store) : D → Option Nat
  | .str x => if x.length ≤ 16777216 then some x.length else none
  | .tup vs => some vs.length
  | .ref i => match m.cs[i]? with
    | some (.lst vs) => some vs.length
    | some (.frz vs) => some vs.length
    | some (.dct kvs) => some kvs.length
    | _ => none
  | _ => none
def rLen : List D → Store → Res D := fun vs m => match vs with
  | [v] => (match lenOf m v with | some n => .ok (.int n) m | none => .bad)
  | _ => .bad
theorem RVs.one {ρ : Rho} {h : Heap} {v : D} {us : List Value} (r : RVs ρ h [v] us) : ∃ u, us = [u] ∧ RV ρ h v u := by
  simp only [RVs] at r
  obtain ⟨u, q, rfl, r1, rfl⟩ := r
  exact ⟨u, rfl, r1⟩
theorem RVs.two {ρ : Rho} {h : Heap} {v w : D} {us : List Value} (r : RVs ρ h [v, w] us) : ∃ u x, us = [u, x] ∧ RV ρ h v u ∧ RV ρ h w x := by
  simp only [RVs] at r
  obtain ⟨u, q, rfl, r1, u2, q2, rfl, r2, rfl⟩ := r
  exact ⟨u, u2, rfl, r1, r2⟩
theorem o_len : O1s X (.builtin "len") rLen := ⟨fun σ m ρ s vs us Q E I rs h => by
  have hn := line63
  unfold rLen at h
  split at h
  · rename_i v
    obtain ⟨u, rfl, r⟩ := rs.one
    cases e : lenOf m v with
    | none => rw [e] at h; exact h.elim
    | some n =>
      rw [e] at h
      have fin : ∀ tk t, Q (.int n t) { s with toks := tk } := fun tk t => h _ _ ρ (I.tok _) (Kp.tok _) ⟨t, rfl⟩
      cases v with
      | str x =>
        simp only [lenOf] at e
        split at e
        · rename_i hz
          cases e
          obtain ⟨t, rfl⟩ := r
          have hl : (Nm.s x).length = x.length := nm_len x
          refine len_str (by rw [hl]; omega) ?_
          rw [hl]
          exact fin _ _
        · cases e
      | tup ws =>
        cases e
        simp only [RV] at r
        obtain ⟨a, us, rfl, ⟨it, _⟩, hz, rr⟩ := r
        have hl := rr.len
        refine len_tuple it (by rw [List.size_toArray, ← hl]; omega) ?_
        rw [List.size_toArray, ← hl]
        exact fin _ _
      | ref i =>
        simp only [lenOf] at e
        have lst : ∀ {ws : List D}, m.seq? i = some ws → ws.length = n → wpAny (model X.G.P X.G.w) X.A (call (.builtin "len") [u]) Q E s := fun {ws} e1 e2 => by
          obtain ⟨p, us, k, hp, _, hz, rr, g⟩ := I.S.seq e1
          obtain rfl := RV.ref_of hp r
          have hl := rr.len
          refine Calls.call_len_list ⟨_, g, rfl, k, rfl⟩ (by rw [List.size_toArray, ← hl]; omega) ?_
          rw [List.size_toArray, ← hl, e2]
          exact fin _ _
        cases e1 : m.cs[i]? with
        | none => rw [e1] at e; cases e
        | some c =>
          rw [e1] at e
          cases c with
          | lst ws => exact lst (by unfold Store.seq?; rw [e1]; rfl) (Option.some.inj e)
          | frz ws => exact lst (by unfold Store.seq?; rw [e1]; rfl) (Option.some.inj e)
          | dct kvs =>
            cases e
            obtain ⟨p, rfl, hp, z, hd, d⟩ := I.dct e1 r
            rcases d with ⟨ys, dd, pr⟩ | ⟨xs, dd, pr⟩
            · have hl := pr.length
              refine call_len_dict hd dd (by rw [← hl]; omega) ?_
              rw [← hl]
              exact fin _ _
            · have hl := pr.length
              refine call_len_dictH hd dd (by rw [← hl]; omega) ?_
              rw [← hl]
              exact fin _ _
          | _ => cases e
      | _ => cases e
  · exact h.elim⟩

/-! ### int, abs, bool -/
def rInt : List D → Store → Res D := fun vs m => match vs with
  | [.int i] => .ok (.int i) m
  | [.bl b] => .ok (.int (if b then 1 else 0)) m
  | _ => .bad
theorem o_int : O1s X (.type "int") rInt := ⟨fun σ m ρ s vs us Q E I rs h => by
  unfold rInt at h
  split at h
  · obtain ⟨u, rfl, t, rfl⟩ := rs.one
    exact call_int_int (h _ _ ρ I Kp.refl ⟨_, rfl⟩)
  · obtain ⟨u, rfl, r⟩ := rs.one
    cases r
    exact call_int_bool (h _ _ ρ (I.tok _) (Kp.tok _) ⟨_, rfl⟩)
  · exact h.elim⟩
def rAbs : List D → Store → Res D := fun vs m => match vs with
  | [.int i] => .ok (.int (if i < 0 then -i else i)) m
  | _ => .bad
theorem o_abs : O1s X (.builtin "abs") rAbs := ⟨fun σ m ρ s vs us Q E I rs h => by
  unfold rAbs at h
  split at h
  · obtain ⟨u, rfl, t, rfl⟩ := rs.one
    exact call_abs_int fun u tk => h _ _ ρ (I.tok _) (Kp.tok _) ⟨_, rfl⟩
  · exact h.elim⟩

/-! ### list(x), tuple(x) of lists and tuples -/
theorem src_at (I : Inv X σ m ρ s) {v : D} {u : Value} {xs : List D} (r : RV ρ s.heap v u) (e : src m v = some xs) : xs.length ≤ sizeLine ∧ ∃ l us n, RVs ρ s.heap xs us ∧ u = .ref l ∧
    ((v = .tup xs ∧ s.heap.IsTuple l us.toArray) ∨ (∃ i, v = .ref i ∧ s.heap.get? l = some { cls := .type "list", data := .seq us.toArray n })) := by
  cases v with
  | tup ys =>
    cases e
    simp only [RV] at r
    obtain ⟨a, us, rfl, ⟨it, _⟩, hz, rr⟩ := r
    exact ⟨hz, a, us, 0, rr, rfl, .inl ⟨rfl, it⟩⟩
  | ref i =>
    obtain ⟨p, us, k, hp, _, hz, rr, g⟩ := I.S.seq e
    exact ⟨hz, p.1, us, k, rr, RV.ref_of hp r, .inr ⟨i, rfl, g⟩⟩
  | _ => cases e
/-- a new list in the store -/
theorem Inv.newlist (I : Inv X σ m ρ s) {xs : List D} {us : List Value} {h' : Heap} {t n : Nat} (k : ∀ b o, s.heap.get? b = some o → h'.get? b = some o) (sz : s.heap.objs.size ≤ h'.objs.size) {l : Addr} (hl : s.heap.objs.size ≤ l) (r : RVs ρ s.heap xs us) (hz : xs.length ≤ sizeLine)
    (g : h'.get? l = some { cls := .type "list", data := .seq us.toArray n }) : Inv X σ (m.push (.lst xs)) (ρ ++ [(l, l)]) { s with heap := h', toks := t } ∧ Kp X.fs noex ρ (ρ ++ [(l, l)]) s { s with heap := h', toks := t } :=
  I.laid k sz hl ⟨rfl, hz, us, n, RVs.mono (RhoK.app _ _) (TupK.app k fun p hp => by rw [List.mem_singleton.mp hp]; exact ⟨hl, hl⟩) _ _ r, g⟩
def rLst : List D → Store → Res D := fun vs m => match vs with
  | [v] => (match src m v with | some xs => .ok (.ref m.nx) (m.push (.lst xs)) | none => .bad)
  | _ => .bad
theorem o_lst : O1s X (.type "list") rLst := ⟨fun σ m ρ s vs us Q E I rs h => by
  unfold rLst at h
  split at h
  · rename_i v
    obtain ⟨u, rfl, r⟩ := rs.one
    cases e : src m v with
    | none => rw [e] at h; exact h.elim
    | some xs =>
      rw [e] at h
      obtain ⟨hz, l, us, n, rr, rfl, c⟩ := src_at I r e
      have hl := rr.len
      have fin : ∀ (h' : Heap) (c' : Nat), (∀ b o, s.heap.get? b = some o → h'.get? b = some o) → h'.get? s.heap.objs.size = some { cls := .type "list", dict := none, data := .seq us.toArray c', slots := #[] } → s.heap.objs.size ≤ h'.objs.size → Q (.ref s.heap.objs.size) { s with heap := h' } := fun h' c' k g sz => by
        obtain ⟨I1, K1⟩ := I.newlist (t := s.toks) k sz (Nat.le_refl _) rr hz g
        exact h _ _ _ I1 K1 ⟨_, _, nx_rho I, rfl⟩
      refine wpAny_hz ?_
      rcases c with ⟨_, o, ho, hc, k, hd⟩ | ⟨_, _, g⟩
      · exact call_list_seq l (.inr rfl) ho hc hd (fun h' c' k g sz => fin h' c' k g sz) (by rw [List.size_toArray, ← hl]; exact hz)
      · exact call_list_seq l (.inl rfl) g rfl rfl (fun h' c' k g sz => fin h' c' k g sz) (by rw [List.size_toArray, ← hl]; exact hz)
  · exact h.elim⟩
/-- tuple(l): the heap behind it is no smaller -/
theorem tup_meets {l : Addr} {ob : Obj} {u0 : List Value} {n : Nat} (hc : ob.cls = .type "list" ∧ ob.data = .seq u0.toArray n) (hz : u0.length ≤ sizeLine) :
    Meets (Builtin.«tuple.__new__» ⟨[.type "tuple", .ref l], []⟩) (fun _ R st => st.heap.get? l = some ob ∧ ∀ hx : Heap, (∀ b o', st.heap.get? b = some o' → hx.get? b = some o') → st.heap.objs.size ≤ hx.objs.size →
      R (.ok (.ret (.ref hx.objs.size))) { st with heap := hx.push { cls := .type "tuple", data := .seq u0.toArray } }) := .of_wp fun P w A R st q => by
  obtain ⟨hp, g, d, tk, os⟩ := st
  obtain ⟨h1, h2⟩ := q
  have f1 := sub_tuple_self
  have f2 := init_tuple_lookup
  have f3 := madeHere_tuple
  have f4 : Shared.TypeIs ⟨hp, g, d, tk, os⟩ (.ref l) "list" := ⟨ob, h1, hc.1⟩
  have co : ∀ {A : Around} {E : Value → Shared → Prop} {Q : List Value → Shared → Prop}, (∀ hx : Heap, (∀ b o', hp.get? b = some o' → hx.get? b = some o') → hp.objs.size ≤ hx.objs.size → Q u0.toArray.toList ⟨hx, g, d, tk, os⟩) → wpAny (model P w) A (collect (.ref l)) Q E ⟨hp, g, d, tk, os⟩ := fun hq =>
    wpAny_hz (wpAny_collect_seq l (.inl rfl) h1 hc.1 hc.2 (fun hx k sz => hq hx k sz) (by rw [List.size_toArray]; exact hz))
  wp_walk using AutoSeq1.wpAny_loadPart' h1, wpAny_typeOf f4, co
  intro hx hk sz
  show wpAny _ _ (Builtin.Tuple.tupleExact u0.toArray.toList.toArray >>= fun y => ret y) _ _ _
  unfold Builtin.Tuple.tupleExact
  have el : u0.toArray.toList.toArray = u0.toArray := by simp
  rw [el]
  refine wpAny_bind (wpAny_newObj_type (wpAny_pure ⟨_, rfl, h2 hx hk sz⟩) (by show u0.toArray.size ≤ sizeLine; rw [List.size_toArray]; exact hz))
theorem tup_of_list {P : Program} {w : World} {A : Around} {st : Shared} {l : Addr} {ob : Obj} {u0 : List Value} {n : Nat} {Q : Value → Shared → Prop} (hg : st.heap.get? l = some ob ∧ ob = { cls := .type "list", data := .seq u0.toArray n })
    (hq : ∀ hx : Heap, (∀ b o', st.heap.get? b = some o' → hx.get? b = some o') → st.heap.objs.size ≤ hx.objs.size → Q (.ref hx.objs.size) { st with heap := hx.push { cls := .type "tuple", data := .seq u0.toArray } }) (hz : u0.length ≤ sizeLine) :
    wpAny (model P w) A (call (.type "tuple") [.ref l]) Q E st := by
  obtain ⟨g, rfl⟩ := hg
  exact callType_new F.called_tuple (by decide) (F.typeCall_tuple_1 _) (F.newCall_tuple_1 _) (fun y => F.args_object_init_2 y _) F.entry_tuple_new (tup_meets (n := n) ⟨rfl, rfl⟩ hz) ⟨g, fun hx hk sz => ⟨⟨_, Heap.get?_push_size _ rfl, rfl⟩, hq hx hk sz⟩⟩
/-- a new tuple -/
theorem Inv.newtup (I : Inv X σ m ρ s) {xs : List D} {us : List Value} {h' : Heap} {t : Nat} (k : ∀ b o, s.heap.get? b = some o → h'.get? b = some o) (sz : s.heap.objs.size ≤ h'.objs.size) {l : Addr} (hl : s.heap.objs.size ≤ l) (r : RVs ρ s.heap xs us) (hz : xs.length ≤ sizeLine)
    (g : h'.IsTuple l us.toArray) : Inv X σ m ρ { s with heap := h', toks := t } ∧ Kp X.fs noex ρ ρ s { s with heap := h', toks := t } ∧ RV ρ h' (.tup xs) (.ref l) := by
  obtain ⟨I1, K1⟩ := I.kept (h' := h') (t := t) k sz
  refine ⟨I1, K1, ?_⟩
  simp only [RV]
  exact ⟨l, us, rfl, ⟨g, I.S.fresh hl⟩, hz, RVs.mono K1.rho K1.tups _ _ r⟩
def rTup : List D → Store → Res D := fun vs m => match vs with
  | [v] => (match src m v with | some xs => .ok (.tup xs) m | none => .bad)
  | _ => .bad
theorem o_tup : O1s X (.type "tuple") rTup := ⟨fun σ m ρ s vs us Q E I rs h => by
  unfold rTup at h
  split at h
  · rename_i v
    obtain ⟨u, rfl, r⟩ := rs.one
    cases e : src m v with
    | none => rw [e] at h; exact h.elim
    | some xs =>
      rw [e] at h
      obtain ⟨hz, l, us, n, rr, rfl, c⟩ := src_at I r e
      have hl := rr.len
      rcases c with ⟨rfl, it⟩ | ⟨_, _, g⟩
      · exact call_tuple_same it (h _ s ρ I Kp.refl r)
      · refine tup_of_list (u0 := us) ⟨g, rfl⟩ (fun h' k sz => ?_) (by rw [← hl]; exact hz)
        obtain ⟨I1, K1, r1⟩ := I.newtup (h' := h'.push { cls := .type "tuple", data := .seq us.toArray }) (t := s.toks) (fun b o q => Heap.get?_push_of_some _ (k b o q)) (by rw [Heap.size_push]; exact Nat.le_succ_of_le sz) (l := h'.objs.size) sz rr hz ⟨_, Heap.get?_push_size _ rfl, rfl, 0, rfl⟩
        exact h _ _ _ I1 K1 r1
  · exact h.elim⟩

/-! ### all, any of a list of bools -/
def bls : List D → Option (List Bool)
  | [] => some []
  | .bl b :: r => (bls r).map (b :: ·)
  | _ :: _ => none
theorem bls_are {ρ : Rho} {h : Heap} : ∀ {xs : List D} {us : List Value} {bs : List Bool}, RVs ρ h xs us → bls xs = some bs → us = bs.map Value.bool
  | [], us, bs, r, e => by simp only [RVs] at r; subst r; cases e; rfl
  | v :: xs, us, bs, r, e => by
    simp only [RVs] at r
    obtain ⟨u, q, rfl, r1, r2⟩ := r
    cases v with
    | bl b =>
      simp only [bls, Option.map_eq_some_iff] at e
      obtain ⟨cs, e1, rfl⟩ := e
      cases r1
      rw [bls_are r2 e1]
      rfl
    | _ => cases e
def rAll : List D → Store → Res D := fun vs m => match vs with
  | [.ref i] => (match m.seq? i with
    | some xs => (match bls xs with | some bs => .ok (.bl (bs.all id)) m | none => .bad)
    | none => .bad)
  | _ => .bad
def rAny : List D → Store → Res D := fun vs m => match vs with
  | [.ref i] => (match m.seq? i with
    | some xs => (match bls xs with | some bs => .ok (.bl (bs.any id)) m | none => .bad)
    | none => .bad)
  | _ => .bad
theorem o_all (hc : X.calm = true) : O1s X (.builtin "all") rAll := ⟨fun σ m ρ s vs us Q E I rs h => by
  unfold rAll at h
  split at h
  · rename_i i
    obtain ⟨u, rfl, r⟩ := rs.one
    split at h
    · rename_i xs e1
      split at h
      · rename_i bs e2
        obtain ⟨p, us, k, hp, _, hz, rr, g⟩ := I.S.seq e1
        obtain rfl := RV.ref_of hp r
        have hb := bls_are rr e2
        refine wpAny_hz (call_all_walk (L2.iter_any ⟨_, g, rfl, k, rfl⟩ fun s₂ e2 st hne => ?_))
        subst e2
        refine ⟨_, _, _, _, _, _, _, rfl, Walks.list (A := X.A.in1) (I.ok.hd hc) _ p.1 hne us.toArray, st, L2.truth_bools hb, fun h' tk hk sz => ?_⟩
        obtain ⟨I1, K1⟩ := I.kept (h' := h') (t := tk) (fun b o eo => hk b o (fun hmem => by
          rcases List.mem_cons.mp hmem with e1 | hmem
          · exact absurd (e1 ▸ Heap.lt_size eo) (Nat.lt_irrefl _)
          · cases hmem) (Heap.get?_push_of_some _ eo)) sz
        refine h _ _ ρ I1 K1 ?_
        show Value.bool _ = Value.bool _
        rw [← L2.all_range, hb, List.size_toArray, List.length_map]
      · exact h.elim
    · exact h.elim
  · exact h.elim⟩
theorem o_any (hc : X.calm = true) : O1s X (.builtin "any") rAny := ⟨fun σ m ρ s vs us Q E I rs h => by
  unfold rAny at h
  split at h
  · rename_i i
    obtain ⟨u, rfl, r⟩ := rs.one
    split at h
    · rename_i xs e1
      split at h
      · rename_i bs e2
        obtain ⟨p, us, k, hp, _, hz, rr, g⟩ := I.S.seq e1
        obtain rfl := RV.ref_of hp r
        have hb := bls_are rr e2
        refine wpAny_hz (call_any_walk (L2.iter_any ⟨_, g, rfl, k, rfl⟩ fun s₂ e2 st hne => ?_))
        subst e2
        refine ⟨_, _, _, _, _, _, _, rfl, Walks.list (A := X.A.in1) (I.ok.hd hc) _ p.1 hne us.toArray, st, L2.truth_bools hb, fun h' tk hk sz => ?_⟩
        obtain ⟨I1, K1⟩ := I.kept (h' := h') (t := tk) (fun b o eo => hk b o (fun hmem => by
          rcases List.mem_cons.mp hmem with e1 | hmem
          · exact absurd (e1 ▸ Heap.lt_size eo) (Nat.lt_irrefl _)
          · cases hmem) (Heap.get?_push_of_some _ eo)) sz
        refine h _ _ ρ I1 K1 ?_
        show Value.bool _ = Value.bool _
        rw [← L2.any_range, hb, List.size_toArray, List.length_map]
      · exact h.elim
    · exact h.elim
  · exact h.elim⟩

/-! ### list * int -/
def rMul : D → D → Store → Res D := fun v w m => match v, w with
  | .int i, .int j => if sm64 i = true ∨ sm64 j = true then .ok (.int (i * j)) m else .bad
  | .ref i, .int k => (match m.seq? i with
    | some xs => if (-(2 ^ 63) ≤ k ∧ k < 2 ^ 63) ∧ xs.length * k.toNat ≤ 16777216 then .ok (.ref m.nx) (m.push (.lst (List.replicate k.toNat xs).flatten)) else .bad
    | none => .bad)
  | _, _ => .bad
theorem RVs.rep {ρ : Rho} {h : Heap} {xs : List D} {us : List Value} (r : RVs ρ h xs us) : ∀ k : Nat, RVs ρ h (List.replicate k xs).flatten (List.replicate k us).flatten
  | 0 => RVs.nil
  | k + 1 => by
    rw [List.replicate_succ, List.replicate_succ, List.flatten_cons, List.flatten_cons]
    exact RVs.app r (RVs.rep r k)
theorem bits64 {i : Int} (h : sm64 i = true) : Builtin.Int.intBits i ≤ 64 := by
  have h1 := nat64 h
  unfold Builtin.Int.intBits
  by_cases h0 : i = 0
  · rw [if_pos (by simp [h0])]; exact Nat.zero_le _
  · rw [if_neg (by simp [h0])]
    have := (Nat.log2_lt (n := i.natAbs) (k := 64) (by omega)).mpr h1
    omega
theorem o_mul : O2 X (binaryOp .Mult) rMul := ⟨fun σ m ρ s v w u x Q E I ru rx h => by
  unfold rMul at h
  split at h
  · split at h
    · rename_i hj
      exact o2_int (C := fun i j => sm64 i = true ∨ sm64 j = true) (g := fun i j => i * j) (fun i j _ _ _ _ _ hc q => mul_int q (hc.elim (fun z => .of_left (bits64 z)) fun z => .of_right (bits64 z))) I ru rx hj h
    · exact h.elim
  · rename_i i k
    split at h
    · rename_i xs e1
      split at h
      · rename_i hz
        obtain ⟨⟨h1, h2⟩, hz⟩ := hz
        obtain ⟨t, rfl⟩ := rx
        obtain ⟨p, its, n, hp, _, _, r, e⟩ := I.S.seq e1
        obtain rfl := RV.ref_of hp ru
        have hl := r.len
        have hlen : its.toArray.size * k.toNat ≤ sizeLine := by rw [List.size_toArray, ← hl, sizeLine_eq]; exact hz
        have hcap : ¬ its.toArray.size * k.toNat > (2 ^ 63 - 1) / 8 := by
          have : (sizeLine : Nat) ≤ (2 ^ 63 - 1) / 8 := by decide
          omega
        have hfit : ¬ (!Builtin.List.listFitsIndex k) = true := by
          rw [fitsIndex_both h1 h2]
          exact Bool.false_ne_true
        have hlong : ¬ Builtin.List.listTooLong (its.toArray.size * k.toNat) = true := by
          rw [L2.notLongL hlen]
          exact Bool.false_ne_true
        have hnew : List.foldl (fun x1 x2 => x1 ++ x2) #[] (List.replicate (if its.toArray.isEmpty = true then 0 else k.toNat) its.toArray) = (List.replicate k.toNat its).flatten.toArray := by
          have f0 : ∀ m : Nat, List.foldl (fun x1 x2 => x1 ++ x2) #[] (List.replicate m its.toArray) = (List.replicate m its).flatten.toArray := fun m => by
            have := L2.foldl_rep its m []
            rw [List.nil_append] at this
            exact this
          rw [f0]
          cases its with
          | nil => simp
          | cons a r' => rw [if_neg (by simp)]
        refine wpAny_binaryOp_repeat_ref (T := "list") (U := "int") (by decide) ⟨_, e, rfl⟩ (fun s' => typeIs_int s' k t) noFill_list_mul F.fills_int_mul F.slot_int_rmul repeat_list F.slot_int_index.lookup
          (call_meets F.slot_int_rmul (typeIs_int s k t) F.entry_int_rmul (F.args_int_rmul_2 _ _) (int___rmul___int_list k t p.1 its.toArray n)
            ⟨e, rfl, ⟨_, e, rfl⟩, call_meets F.slot_list_mul ⟨_, e, rfl⟩ F.entry_list_mul (F.args_list_mul_2 _ _) (AutoListH.list___mul___list_int_3 p.1 its.toArray n k t hfit hcap hlong) ⟨e, ?_⟩⟩)
        rw [hnew]
        obtain ⟨I1, K1⟩ := I.newlist (h' := s.heap.push { cls := .type "list", data := .seq (List.replicate k.toNat its).flatten.toArray }) (t := s.toks) (fun b o q => Heap.get?_push_of_some _ q) (by simp) (Nat.le_refl _) (r.rep k.toNat)
          (by rw [PyProof.Rows.lm_len_rep_flat, Nat.mul_comm, sizeLine_eq]; exact hz) (Heap.get?_push_size _ rfl)
        exact h _ _ _ I1 K1 ⟨_, _, nx_rho I, rfl⟩
      · exact h.elim
    · exact h.elim
  · exact h.elim⟩
end
end Z

set_option Elab.async false
set_option linter.all false
set_option maxRecDepth 100000
/-! the engine, part W: methods, stores into a list -/
namespace Z
open PySem PySem.Spec PyProof.Rows
open L2 (frs)

section
variable {X : Cx} {σ : Sl} {m m' : Store} {ρ ρ1 ρ' : Rho} {s s1 s' : Shared} {a b c o e : Expr} {es : List Expr} {f g k : EV} {fa : LV} {E : Value → Shared → Prop} {pos apos : Pos} {name : Str} {T id : String}
theorem ty_is (I : Inv X σ m ρ s) {v : D} {u : Value} (r : RV ρ s.heap v u) (h : tyOf m v = some T) (nt : T ≠ "tuple") : s.TypeIs u T ∧ ∀ a, u = .ref a → ∃ ob, s.heap.get? a = some ob ∧ ob.dict = none := by
  cases v with
  | non => cases h; cases r; exact ⟨by first | exact typeIs_none s | rfl | exact ⟨⟩, fun _ e => nomatch e⟩
  | bl b => cases h; cases r; exact ⟨by first | exact typeIs_bool s b | rfl | exact ⟨⟩, fun _ e => nomatch e⟩
  | int i => cases h; obtain ⟨t, rfl⟩ := r; exact ⟨typeIs_int s i t, fun _ e => nomatch e⟩
  | str x => cases h; obtain ⟨t, rfl⟩ := r; exact ⟨typeIs_str s _ t, fun _ e => nomatch e⟩
  | tup vs => cases h; exact absurd rfl nt
  | ref i =>
    simp only [tyOf] at h
    cases e : m.cs[i]? with
    | none => rw [e] at h; cases h
    | some c =>
      rw [e] at h
      obtain ⟨p, hp, ck⟩ := I.S.at e
      obtain rfl := RV.ref_of hp r
      cases c with
      | lst ws => cases h; obtain ⟨_, _, us, n, _, d⟩ := ck; exact ⟨⟨_, d, rfl⟩, fun a z => by cases z; exact ⟨_, d, rfl⟩⟩
      | frz ws => cases h; obtain ⟨_, _, us, n, _, d⟩ := ck; exact ⟨⟨_, d, rfl⟩, fun a z => by cases z; exact ⟨_, d, rfl⟩⟩
      | dct kvs =>
        cases h
        obtain ⟨_, _, _, d⟩ := ck
        rcases d with ⟨ys, ⟨o, es, ep, q, ex, _⟩, _⟩ | ⟨xs, ⟨o, es, ep, q, ex, _⟩, _⟩
        · exact ⟨⟨_, q, ex.1⟩, fun a z => by cases z; exact ⟨_, q, ex.2.1⟩⟩
        · exact ⟨⟨_, q, ex.1⟩, fun a z => by cases z; exact ⟨_, q, ex.2.1⟩⟩
      | _ => cases h
  | _ => cases h
/-- a call of a method by values -/
structure OM (X : Cx) (id : String) (r : D → List D → Store → Res D) : Prop where
  run : ∀ σ m ρ s (v : D) (vs : List D) (u : Value) (us : List Value) (Q : Value → Shared → Prop) (E : Value → Shared → Prop), Inv X σ m ρ s → RV ρ s.heap v u → RVs ρ s.heap vs us → (r v vs m).sat (QE X σ ρ s Q) (EP X noex σ ρ s E) → wpAny (model X.G.P X.G.w) X.A (call (.builtin id) (u :: us)) Q E s
def eMeth (T : String) (f : EV) (fa : LV) (r : D → List D → Store → Res D) : EV := fun σ m => (f σ m).bind fun v m0 => if tyOf m0 v = some T then (fa σ m0).bind fun vs m1 => (lNil σ m1).bind fun _ m2 => r v vs m2 else .bad
theorem se_meth {r : D → List D → Store → Res D} (pa : PlainAttrs T) (slot : PySem.Slot T name id) (hty : typeOf (.builtin id) = pure (.type "method_descriptor")) (nt : T ≠ "tuple") (ho : SE X o f) (hp : plainEs (e :: es) = true) (ha : SA X (e :: es) fa) (hm : OM X id r)
    (hbase : attributeBase o name X.env (eval o X.env) = eval o X.env)
    (hfew : ((backTo pos (starEach (e :: es) X.env)).all (fun x => !x.1) && (backToKw pos (keywordEach [] X.env)).all (fun x => x.1.isSome)
      && decide ((e :: es).length + ([] : List Keyword).length + (if ([] : List Keyword).isEmpty then 0 else 1) < 30)) = true)
    (hline : (apos.endLine == pos.line) = true) : SE X (.Call (.Attribute o name apos) (e :: es) [] pos) (eMeth T f fa r) := by
  refine ⟨fun σ m ρ s Q E I h => ?_⟩
  refine wpAny_Call_method_lateS hbase hfew hline ?_
  refine ho.bd I h fun v m0 u s0 ρ0 I0 K0 r0 h0 => ?_
  split at h0
  · rename_i ht
    obtain ⟨t1, t2⟩ := ty_is I0 r0 ht nt
    refine ⟨T, id, pa, slot, hty, t1, t2, ?_⟩
    refine call_go (first := [u]) (kws := []) (fk := lNil) (kk := fun vs _ m2 => r v vs m2) hp rfl ha sk_nil I0 h0 fun vs zs m2 us ws s2 ρ2 I2 K2 r1 r2 h2 => ⟨kpr_blt, ?_⟩
    exact hm.run σ m2 ρ2 s2 v vs u us Q E I2 (RV.mono K2.rho K2.tups _ _ r0) r1 (satE (K0.trans K2) h2)
  · exact h0.elim
theorem se_meth0 {r : D → List D → Store → Res D} (pa : PlainAttrs T) (slot : PySem.Slot T name id) (hty : typeOf (.builtin id) = pure (.type "method_descriptor")) (nt : T ≠ "tuple") (ho : SE X o f) (hm : OM X id r)
    (hbase : attributeBase o name X.env (eval o X.env) = eval o X.env) (hline : (apos.endLine == pos.line) = true) : SE X (.Call (.Attribute o name apos) [] [] pos) (eMeth T f lNil r) := by
  refine ⟨fun σ m ρ s Q E I h => ?_⟩
  refine wpAny_Call_method_lateS hbase rfl hline ?_
  refine ho.bd I h fun v m0 u s0 ρ0 I0 K0 r0 h0 => ?_
  split at h0
  · rename_i ht
    obtain ⟨t1, t2⟩ := ty_is I0 r0 ht nt
    refine ⟨T, id, pa, slot, hty, t1, t2, ?_⟩
    refine call_go0 (first := [u]) (kws := []) (fk := lNil) (kk := fun _ m2 => r v [] m2) rfl sk_nil I0 h0 fun zs m2 ws s2 ρ2 I2 K2 r2 h2 => ⟨kpr_blt, ?_⟩
    exact hm.run σ m2 ρ2 s2 v [] u [] Q E I2 (RV.mono K2.rho K2.tups _ _ r0) RVs.nil (satE (K0.trans K2) h2)
  · exact h0.elim

/-! ### lists are rewritten -/
theorem Inv.lat (I : Inv X σ m ρ s) {i : Nat} {xs : List D} {u : Value} (e : m.cs[i]? = some (.lst xs)) (r : RV ρ s.heap (.ref i) u) : xs.length ≤ sizeLine ∧ ∃ p us n, ρ[i]? = some (p, p) ∧ u = .ref p ∧ RVs ρ s.heap xs us ∧ xs.length = us.length ∧ s.heap.get? p = some { cls := .type "list", data := .seq us.toArray n } := by
  obtain ⟨p, hp, ck⟩ := I.S.at e
  obtain rfl := RV.ref_of hp r
  obtain ⟨p1, p2⟩ := p
  obtain ⟨e2, z, us, n, rr, g⟩ := ck
  dsimp only at e2
  subst e2
  exact ⟨z, _, us, n, hp, rfl, rr, rr.len, g⟩
theorem Inv.lput {i : Nat} {xs ys : List D} {us us' : List Value} {n t : Nat} {p : Addr} {F : Array Value → Array Value} (I : Inv X σ m ρ s) (hi : m.cs[i]? = some (.lst xs)) (hp : ρ[i]? = some (p, p)) (r : RVs ρ s.heap ys us') (hz : ys.length ≤ sizeLine)
    (g : s.heap.get? p = some { cls := .type "list", data := .seq us.toArray n }) (hF : F us.toArray = us'.toArray) : Inv X σ (m.put i (.lst ys)) ρ { s with heap := s.heap.update p (Obj.mapSeq F), toks := t } ∧ Kp X.fs noex ρ ρ s { s with heap := s.heap.update p (Obj.mapSeq F), toks := t } := by
  have q := PySem.IsL.update g F
  rw [hF] at q
  refine I.put hi hp rfl rfl (Heap.SameBut.update ..) rfl ⟨_, g, fun vs z => by cases z⟩ fun tk => ⟨rfl, hz, us', _, RVs.mono (RhoK.refl ρ) tk _ _ r, q⟩
def rAppend : D → List D → Store → Res D := fun v vs m => match v, vs with
  | .ref i, [y] => (match m.cs[i]? with
    | some (.lst xs) => if xs.length < 16777216 then .ok .non (m.put i (.lst (xs ++ [y]))) else .bad
    | _ => .bad)
  | _, _ => .bad
theorem m_append : OM X "list.append" rAppend := ⟨fun σ m ρ s v vs u us Q E I rx rs h => by
  unfold rAppend at h
  split at h
  · rename_i i y
    split at h
    · rename_i xs e1
      split at h
      · rename_i hz
        obtain ⟨w, rfl, rw'⟩ := rs.one
        obtain ⟨z, p, its, n, hp, rfl, r, hl, g⟩ := I.lat e1 rx
        refine call_meets F.slot_list_append ⟨_, g, rfl⟩ F.entry_list_append (F.args_list_append_2 _ _) (PySem.list_append p its.toArray n w (by rw [List.size_toArray]; omega)) ⟨g, ?_⟩
        obtain ⟨I1, K1⟩ := I.lput (us' := its ++ [w]) (t := s.toks) (F := fun xs => xs.push w) e1 hp (r.app (RVs.cons rw' RVs.nil)) (by rw [List.length_append, sizeLine_eq]; exact hz) g (by simp)
        exact h _ _ ρ I1 K1 rfl
      · exact h.elim
    · exact h.elim
  · exact h.elim⟩
def rPop : D → List D → Store → Res D := fun v vs m => match v, vs with
  | .ref i, [.int j] => (match m.cs[i]? with
    | some (.lst xs) => if -(2 ^ 63) ≤ j ∧ j < 2 ^ 63 then (match seqIndex? j xs.length with
      | some k => (match xs[k]? with
        | some y => .ok y (m.put i (.lst (xs.eraseIdx k)))
        | none => .bad)
      | none => .bad) else .bad
    | _ => .bad)
  | .ref i, [] => (match m.cs[i]? with
    | some (.lst xs) => (match xs[xs.length - 1]? with
      | some y => .ok y (m.put i (.lst xs.dropLast))
      | none => .bad)
    | _ => .bad)
  | _, _ => .bad
theorem RVs.eraseIdx {ρ : Rho} {h : Heap} : ∀ {vs : List D} {us : List Value} (i : Nat), RVs ρ h vs us → RVs ρ h (vs.eraseIdx i) (us.eraseIdx i)
  | [], us, i, x => by simp only [RVs] at x; subst x; exact RVs.nil
  | v :: vs, us, 0, x => by
    simp only [RVs] at x
    obtain ⟨u, q, rfl, a, b⟩ := x
    exact b
  | v :: vs, us, i + 1, x => by
    simp only [RVs] at x
    obtain ⟨u, q, rfl, a, b⟩ := x
    exact RVs.cons a (RVs.eraseIdx i b)
theorem RVs.dropLast {ρ : Rho} {h : Heap} : ∀ {vs : List D} {us : List Value}, RVs ρ h vs us → RVs ρ h vs.dropLast us.dropLast
  | [], us, x => by simp only [RVs] at x; subst x; exact RVs.nil
  | [v], us, x => by
    obtain ⟨u, rfl, _⟩ := x.one
    exact RVs.nil
  | v :: w :: vs, us, x => by
    have x2 := x
    simp only [RVs] at x
    obtain ⟨u, q, rfl, a, q2, q3, rfl, b, c⟩ := x
    exact RVs.cons a (RVs.dropLast (RVs.cons b c))
theorem m_pop : OM X "list.pop" rPop := ⟨fun σ m ρ s v vs u us Q E I rx rs h => by
  unfold rPop at h
  split at h
  · rename_i i j
    split at h
    · rename_i xs e1
      split at h
      · rename_i hj
        split at h
        · rename_i k e2
          split at h
          · rename_i y e3
            obtain ⟨w, rfl, t, rfl⟩ := rs.one
            obtain ⟨z, p, its, n, hp, rfl, r, hl, g⟩ := I.lat e1 rx
            obtain ⟨x, ex, rx'⟩ := r.get e3
            refine call_meets F.slot_list_pop ⟨_, g, rfl⟩ F.entry_list_pop (F.args_list_pop_2 _ _)
              (MeetsSeq.list_pop_at p its.toArray n j t k x (fitsIndex_both hj.1 hj.2) (by rw [List.size_toArray, ← hl]; exact e2) (by rw [← Array.getElem?_toList]; exact ex) (by rw [List.size_toArray]; omega)) ⟨g, ?_⟩
            obtain ⟨I1, K1⟩ := I.lput (us' := its.eraseIdx k) (t := s.toks) (F := fun xs => xs.eraseIdxIfInBounds k) e1 hp (r.eraseIdx k) (by have := L2.len_erase xs k; omega) g (by rw [List.eraseIdxIfInBounds_toArray])
            exact h _ _ ρ I1 K1 (RV.mono (RhoK.refl ρ) K1.tups _ _ rx')
          · exact h.elim
        · exact h.elim
      · exact h.elim
    · exact h.elim
  · rename_i i
    split at h
    · rename_i xs e1
      split at h
      · rename_i y e3
        simp only [RVs] at rs
        subst rs
        obtain ⟨z, p, its, n, hp, rfl, r, hl, g⟩ := I.lat e1 rx
        obtain ⟨x, ex, rx'⟩ := r.get e3
        have ey : its.toArray[its.toArray.size - 1]? = some x := by
          rw [List.size_toArray, ← Array.getElem?_toList, ← hl]; exact ex
        refine call_meets F.slot_list_pop ⟨_, g, rfl⟩ F.entry_list_pop (F.args_list_pop_1 _) (MeetsSeq.list_pop_last p its.toArray n x ey (by rw [List.size_toArray]; omega)) ⟨g, ?_⟩
        obtain ⟨I1, K1⟩ := I.lput (us' := its.dropLast) (t := s.toks) (F := fun xs => xs.eraseIdxIfInBounds (its.toArray.size - 1)) e1 hp r.dropLast (by rw [List.length_dropLast]; omega) g
          (by rw [List.size_toArray, List.eraseIdxIfInBounds_toArray, PyProof.Rows.Copied.eraseIdx_last])
        exact h _ _ ρ I1 K1 (RV.mono (RhoK.refl ρ) K1.tups _ _ rx')
      · exact h.elim
    · exact h.elim
  · exact h.elim⟩

/-! ### o[i] = v -/
def setAt (m : Store) (o i v : D) : Option Store := match o with
  | .ref j => (match m.cs[j]?, i with
    | some (.lst xs), .int k => if -(2 ^ 63) ≤ k ∧ k < 2 ^ 63 then
        (if 0 ≤ k then (if k.toNat < xs.length then some (m.put j (.lst (xs.set k.toNat v))) else none)
        else if -(xs.length : Int) ≤ k then some (m.put j (.lst (xs.set (k + xs.length).toNat v))) else none) else none
    | some (.dct kvs), i => if keyed kvs i = true ∧ kvs.length < 16777216 then some (m.put j (.dct (dput kvs i v))) else none
    | _, _ => none)
  | _ => none
theorem dput_len (kvs : List (D × D)) (k v : D) : (dput kvs k v).length ≤ kvs.length + 1 := by
  unfold dput
  split <;> simp
theorem Inv.dput {i : Nat} {kvs kvs' : List (D × D)} {t : Nat} {p : Addr} {h' : Heap} (I : Inv X σ m ρ s) (hi : m.cs[i]? = some (.dct kvs)) (hp : ρ[i]? = some (p, p)) (hs : Heap.SameBut p s.heap h') (hd : DctOk X.G.P X.G.w ρ s.heap p kvs)
    (ok : TupK ρ ρ s.heap h' → DctOk X.G.P X.G.w ρ h' p kvs') : Inv X σ (m.put i (.dct kvs')) ρ { s with heap := h', toks := t } ∧ Kp X.fs noex ρ ρ s { s with heap := h', toks := t } := by
  have ob : ∃ o, s.heap.get? p = some o ∧ ∀ vs, o.data ≠ .fields vs := by
    obtain ⟨_, _, d⟩ := hd
    rcases d with ⟨ys, ⟨o, es, ep, q, _, dd, _⟩, _⟩ | ⟨xs, ⟨o, es, ep, q, _, dd, _⟩, _⟩
    · exact ⟨o, q, fun vs z => by rw [dd] at z; cases z⟩
    · exact ⟨o, q, fun vs z => by rw [dd] at z; cases z⟩
  exact I.put hi hp rfl rfl hs rfl ob fun tk => ⟨rfl, ok tk⟩
theorem set_ok (I : Inv X σ m ρ s) {o i v : D} {ou iu u : Value} {Q : Unit → Shared → Prop} (ro : RV ρ s.heap o ou) (ri : RV ρ s.heap i iu) (r : RV ρ s.heap v u) (e : setAt m o i v = some m') (h : ∀ s', Inv X σ m' ρ s' → Kp X.fs noex ρ ρ s s' → Q () s') :
    wpAny (model X.G.P X.G.w) X.A (setItem ou iu u) Q E s := by
  cases o with
  | ref j =>
    simp only [setAt] at e
    split at e
    · rename_i xs k e1
      split at e
      · rename_i hk
        obtain ⟨t, rfl⟩ := ri
        obtain ⟨z, p, us, n, hp, rfl, rr, hl, g⟩ := I.lat e1 ro
        split at e
        · rename_i h0
          split at e
          · rename_i hlt
            cases e
            refine PySem.W.ki_setAt g h0 hk.2 (by rw [List.size_toArray]; omega) ?_
            obtain ⟨I1, K1⟩ := I.lput (us' := us.set k.toNat u) (t := s.toks) (F := fun x => x.setIfInBounds k.toNat u) e1 hp (RVs.set r k.toNat rr) (by rw [List.length_set]; exact z) g (by simp)
            exact h _ I1 K1
          · cases e
        · rename_i h0
          split at e
          · rename_i hge
            cases e
            refine PySem.W.ki_setBack g (by omega) (by rw [List.size_toArray]; omega) hk.1 ?_
            obtain ⟨I1, K1⟩ := I.lput (us' := us.set (k + xs.length).toNat u) (t := s.toks) (F := fun x => x.setIfInBounds (k + us.toArray.size).toNat u) e1 hp (RVs.set r _ rr) (by rw [List.length_set]; exact z) g (by rw [List.size_toArray, ← hl]; simp)
            exact h _ I1 K1
          · cases e
      · cases e
    · rename_i i _ _ kvs e1
      split at e
      · rename_i hk
        cases e
        obtain ⟨hk, hz⟩ := hk
        obtain ⟨p, rfl, hp, d⟩ := I.dct e1 ro
        have zl : (dput kvs i v).length ≤ sizeLine := by have := dput_len kvs i v; rw [sizeLine_eq]; omega
        rcases keyed_cases hk with ⟨h1, k, h2⟩ | ⟨h1, vs, k, rfl, h2, h3⟩
        · obtain ⟨ys, dd, fr⟩ := d.leaf h1
          have hl := fr.length
          refine wpAny_setItem_pairs (hsz := by rw [← hl, sizeLine_eq]; omega) (lk_is ri h2) dd fun h' dd' hs => ?_
          obtain ⟨I1, K1⟩ := I.dput (t := s.toks + 1) e1 hp hs d (kvs' := dput kvs i v) fun tk => ⟨zl, d.2.1, .inl ⟨_, dd', Paired.imp2 (LfR.put fr h2 r) fun a b q => ⟨q.1, RV.mono (RhoK.refl ρ) tk _ _ q.2⟩⟩⟩
          exact h _ I1 K1
        · obtain ⟨xs, dd, fr⟩ := d.tupd h1
          have hl := fr.length
          have ri' := ri
          simp only [RV] at ri'
          obtain ⟨b, us, rfl, _⟩ := ri'
          have ks : (nestedKind X.G.P X.G.w).is s.heap k b := ⟨nk_is _ _ _ ri h2, h3⟩
          refine wpAny_setItem_heap (hsz := by rw [← hl, sizeLine_eq]; omega) (room8 I) ks dd fun h' dd' hs => ?_
          obtain ⟨I1, K1⟩ := I.dput (t := s.toks + (nestedKind X.G.P X.G.w).draws k) e1 hp hs d (kvs' := dput kvs (.tup vs) v) fun tk => ⟨zl, d.2.1, .inr ⟨_, dd', Paired.imp2 (TpR.put fr h2 ri r) fun a b q => ⟨q.1, RV.mono (RhoK.refl ρ) tk _ _ q.2.1, RV.mono (RhoK.refl ρ) tk _ _ q.2.2⟩⟩⟩
          exact h _ I1 K1
      · cases e
    · cases e
  | _ => cases e
def gSub (f g : EV) : GV := fun v σ m => (f σ m).toS σ fun o m1 => (g σ m1).toS σ fun i m2 => match setAt m2 o i v with
  | some m3 => .nxt σ m3
  | none => .bad
theorem sg_sub {i : Expr} (ho : SE X o f) (hi : SE X i g)
    (ha : ∀ v, assign (.Subscript o i pos) X.env v = (do
      let x ← holding [v] (eval o X.env)
      let y ← holding [v, x] (eval i X.env)
      standAt pos
      holding [v, x, y] (setItem x y v)
      release [v, x, y] [])) : SG X (.Subscript o i pos) (gSub f g) := by
  refine ⟨fun σ m ρ s v u Q E I r h => ?_⟩
  rw [ha]
  refine wpAny_bind (wpAny_holding (ho.bdS I h fun x m1 xu s1 ρ1 I1 K1 r1 h1 => ?_))
  refine wpAny_bind (wpAny_holding (hi.bdS I1 h1 fun y m2 yu s2 ρ2 I2 K2 r2 h2 => ?_))
  refine wpAny_bind (wpAny_standAt (wpAny_bind (wpAny_holding ?_)))
  split at h2
  · rename_i m3 e3
    have rv := RV.mono (K1.trans K2).rho (K1.trans K2).tups _ _ r
    refine set_ok I2 (RV.mono K2.rho K2.tups _ _ r1) r2 rv e3 fun s3 I3 K3 => wpAny_release (h2 s3 ρ2 I3 K3.any rfl)
  · exact h2.elim
end
end Z

set_option Elab.async false
set_option linter.all false
set_option maxRecDepth 100000
/-! the engine, part X: dict comprehensions, {} -/
namespace Z
open PySem PySem.Spec PyProof.Rows
open L2 (frs cloFrom closure_ok newEnv_comp)

section
variable {X : Cx} {σ σ' : Sl} {m m' : Store} {ρ ρ1 ρ' : Rho} {s s1 s' : Shared} {a b c : Expr} {f g : EV} {E : Value → Shared → Prop} {pos : Pos} {tg iter : Expr}
theorem room8' (I : Inv X σ m ρ s) : (nestedKind X.G.P X.G.w).room X.A := by
  show X.A.units + 8 < cLine
  have := I.ok.hu
  omega
def dcL (J : It) (g : GV) (t : TV) (f fv : EV) : Nat → Nat → Sl → List (D × D) → Store → Res (List (D × D))
  | 0, _, _, _, _ => .bad
  | n + 1, i, σ, acc, m => match J.on i m with
    | none => .bad
    | some none => .ok acc (J.fin m)
    | some (some x) => match g x σ m with
      | .nxt σ1 m1 => match t σ1 m1 with
        | .ok true m2 => match f σ1 m2 with
          | .ok y m3 => match fv σ1 m3 with
            | .ok z m4 => if keyed acc y = true ∧ acc.length < 16777216 then dcL J g t f fv n (i + 1) σ1 (dput acc y z) m4 else .bad
            | _ => .bad
          | _ => .bad
        | .ok false m2 => dcL J g t f fv n (i + 1) σ1 acc m2
        | _ => .bad
      | _ => .bad
def eDc (wi : Sl → Store → Res It) (fr : List (Option Nat)) (g : GV) (t : TV) (f fv : EV) (n : Nat) : EV := fun σ m => (wi σ m).bind fun J m1 => (dcL J g t f fv n 0 (blkS fr σ) [] m1).bind fun acc m2 => .ok (.ref m2.nx) (m2.push (.dct acc))
/-- an untracked dict -/
theorem DctOk.noCode {P : Program} {w : World} {ρ : Rho} {h : Heap} {a : Addr} {kvs : List (D × D)} (x : DctOk P w ρ h a kvs) : NoCode h a ∧ ∃ o, h.get? a = some o := by
  obtain ⟨_, _, d⟩ := x
  rcases d with ⟨ys, ⟨o, es, ep, q, _, dd, _⟩, _⟩ | ⟨xs, ⟨o, es, ep, q, _, dd, _⟩, _⟩
  · exact ⟨⟨o, q, .inr (fun vs k z => by rw [dd] at z; cases z), fun vs z => by rw [dd] at z; cases z⟩, o, q⟩
  · exact ⟨⟨o, q, .inr (fun vs k z => by rw [dd] at z; cases z), fun vs z => by rw [dd] at z; cases z⟩, o, q⟩
theorem Inv.big (I : Inv X σ m ρ s) : sysModules < s.heap.objs.size := by
  obtain ⟨o, es, ep, e, _⟩ := I.G.glob
  have h := Heap.lt_size (I.S.base _ _ e)
  exact Nat.lt_trans (by decide) h
theorem dct_new (I : Inv X σ m ρ s) : DctOk X.G.P X.G.w ρ (s.heap.push { cls := .type "dict", data := .dict #[] }) s.heap.objs.size [] :=
  ⟨Nat.zero_le _, beq_eq_false_iff_ne.mpr (Ne.symm (Nat.ne_of_lt I.big)), .inl ⟨[], Heap.DictOf.new s.heap, .nil⟩⟩
/-- a store into an untracked dict -/
theorem dct_set (I : Inv X σ m ρ s) {d : Addr} {kvs : List (D × D)} {i v : D} {iu u : Value} {Q : Unit → Shared → Prop} (hd : DctOk X.G.P X.G.w ρ s.heap d kvs) (hk : keyed kvs i = true) (hz : kvs.length < 16777216) (ri : RV ρ s.heap i iu) (r : RV ρ s.heap v u)
    (h : ∀ h' t, Heap.SameBut d s.heap h' → (TupK ρ ρ s.heap h' → DctOk X.G.P X.G.w ρ h' d (dput kvs i v)) → Q () { s with heap := h', toks := t }) : wpAny (model X.G.P X.G.w) X.A (dictSet d iu u) Q E s := by
  have zl : (dput kvs i v).length ≤ sizeLine := by have := dput_len kvs i v; rw [sizeLine_eq]; omega
  rcases keyed_cases hk with ⟨h1, k, h2⟩ | ⟨h1, vs, k, rfl, h2, h3⟩
  · obtain ⟨ys, dd, fr⟩ := hd.leaf h1
    have hl := fr.length
    refine wpAny_dictSet_pairs (hsz := by rw [← hl, sizeLine_eq]; omega) (lk_is ri h2) dd fun h' dd' hs => h _ _ hs fun tk => ⟨zl, hd.2.1, .inl ⟨_, dd', Paired.imp2 (LfR.put fr h2 r) fun a b q => ⟨q.1, RV.mono (RhoK.refl ρ) tk _ _ q.2⟩⟩⟩
  · obtain ⟨xs, dd, fr⟩ := hd.tupd h1
    have hl := fr.length
    have ri' := ri
    simp only [RV] at ri'
    obtain ⟨b, us, rfl, _⟩ := ri'
    have ks : (nestedKind X.G.P X.G.w).is s.heap k b := ⟨nk_is _ _ _ ri h2, h3⟩
    refine wpAny_dictSet_heap (hsz := by rw [← hl, sizeLine_eq]; omega) (room8' I) ks dd fun h' dd' hs => h _ _ hs fun tk => ⟨zl, hd.2.1, .inr ⟨_, dd', Paired.imp2 (TpR.put fr h2 ri r) fun a b q => ⟨q.1, RV.mono (RhoK.refl ρ) tk _ _ q.2.1, RV.mono (RhoK.refl ρ) tk _ _ q.2.2⟩⟩⟩
theorem dc_core {elt vx : Expr} {ifs : List Expr} {scope : Scope} {Nb : List Str} {fr : List (Option Nat)} {wi : Sl → Store → Res It} {g : GV} {t : TV} {f fv : EV} {use : Option (Value → Sem Unit)} {Qf : Value → Shared → Prop} {pos' : Pos} {KV : D → Store → Prop} (n : Nat)
    (hc : X.calm = true) (I : Inv X σ m ρ s) (hi : SI X tg iter wi) (ok : Blk X scope Nb fr)
    (hg : ∀ cl C, SG (X.blk scope Nb cl C) tg g) (ht : ∀ cl C, STs (X.blk scope Nb cl C) ifs t) (he : ∀ cl C, SE (X.blk scope Nb cl C) elt f) (hv : ∀ cl C, SE (X.blk scope Nb cl C) vx fv) (hs : ∀ x, foldedSetIterable iter X.env x = pure x)
    (h : (eDc wi fr g t f fv n σ m).sat KV (EP X noex σ ρ s E))
    (hR : ∀ v D C s' m' ρ' mm, Inv X σ m' ρ' s' → Kp X.fs noex ρ ρ' s s' → RV ρ' s'.heap v (.ref D) → KV v m' → s'.heap.Ns C mm → FpOk X ρ' C → s.heap.objs.size ≤ C → compPost (model X.G.P X.G.w) X.A E use Qf (.ref D) C (.ok .next) s') :
    wpAny (model X.G.P X.G.w) X.A (comprehension (.DictComp elt vx [⟨tg, iter, ifs, 0⟩] scope pos) scope X.env pos' newDict false (eval iter X.env) use) Qf E s := by
  have hfree : ∀ y ∈ scope.names, y.2 = .free → ∃ c, X.env.cells.lookup y.1 = some c := fun y hy e => I.ok.has _ (ok.free y hy e)
  refine wpAny_comprehension_free (use := use) rfl hs (closure_ok hfree) ok.kind (fun y hy e => by rw [ok.uniq y hy, e]) (hi.run σ m ρ s _ E I ?_)
  unfold eDc at h
  cases ew : wi σ m with
  | bad => rw [ew] at h; exact h.elim
  | exc x m1 => rw [ew] at h; exact h
  | ok J m1 =>
    rw [ew] at h
    dsimp only [Res.bind] at h
    intro it fp hd tn s0 ρ0 T t0 f0 h0 I0 K0
    refine wpAny_newObj_type (newEnv_comp ?_) 
    -- the new list, untracked
    obtain ⟨I1, K1⟩ := I0.kept (h' := s0.heap.push { cls := .type "dict", data := .dict #[] }) (t := s0.toks) (fun b o e => Heap.get?_push_of_some _ e) (by simp)
    have fD : FpOk X ρ0 s0.heap.objs.size := FpOk.fresh I0 (Nat.le_refl _)
    have fpD : ∀ b ∈ fp, b ≠ s0.heap.objs.size := fun b hb => by
      obtain ⟨o, e⟩ := T.obj _ _ t0 b hb
      exact Nat.ne_of_lt (Heap.lt_size e)
    have gD : (s0.heap.push { cls := .type "dict", data := .dict #[] }).get? s0.heap.objs.size = some { cls := .type "dict", data := .dict #[] } := Heap.get?_push_size _ rfl
    have sD : s.heap.objs.size ≤ s0.heap.objs.size := K0.sz
    generalize hs1 : ({ s0 with heap := s0.heap.push { cls := .type "dict", data := .dict #[] } } : Shared) = s1 at I1 K1
    have hh1 : s1.heap = s0.heap.push { cls := .type "dict", data := .dict #[] } := by rw [← hs1]
    have gDo : s1.heap.get? s0.heap.objs.size = some { cls := .type "dict", data := .dict #[] } := by rw [hh1]; exact gD
    have gD : DctOk X.G.P X.G.w ρ0 s1.heap s0.heap.objs.size [] := by rw [hh1]; exact dct_new I0
    generalize s0.heap.objs.size = D at fD gD gDo sD fpD ⊢
    obtain ⟨I2, K2, wrC, fpC⟩ := blk_start I1 ok
    have hDC : D < s1.heap.objs.size := Heap.lt_size gDo
    have fp2 : ∀ b ∈ fp, b < s1.heap.objs.size := fun b hb => by
      obtain ⟨o, e⟩ := T.obj _ _ t0 b hb
      exact Nat.lt_of_lt_of_le (Heap.lt_size e) K1.sz
    have fC : FpOk X ρ0 s1.heap.objs.size := FpOk.fresh I1 (Nat.le_refl _)
    have sC : s.heap.objs.size ≤ s1.heap.objs.size := Nat.le_trans K0.sz K1.sz
    have t1 : tn 0 s1.heap := T.keep _ _ _ t0 fun b hb o e => by rw [hh1]; exact Heap.get?_push_of_some _ e
    have kp2 : ∀ b o, s1.heap.get? b = some o → (pushCells (s1.heap.push { cls := .type "dict", data := .dict #[] }) scope.names).get? b = some o := fun b o e => pushCells_keeps _ _ _ _ (Heap.get?_push_of_some _ e)
    have t2 : tn 0 (pushCells (s1.heap.push { cls := .type "dict", data := .dict #[] }) scope.names) := T.keep _ _ _ t1 fun b hb o e => kp2 b o e
    have gD2 := gD.stay (RhoK.refl _) K2.tups fun o e => kp2 _ o e
    have hd2 : ∀ p ∈ hd, RV ρ0 (pushCells (s1.heap.push { cls := .type "dict", data := .dict #[] }) scope.names) p.1 p.2 := fun p hp => RV.mono (K1.trans K2).rho (K1.trans K2).tups _ _ (h0 p hp)
    have K02 := (K0.trans K1).trans K2
    subst hs1
    show codeAny _ _ (.compStart (.DictComp elt vx [⟨tg, iter, ifs, 0⟩] scope pos) 0 (.ref it) (.ref D) (compEnvC scope (cellsFrom ((s0.heap.push { cls := .type "dict", data := .dict #[] }).objs.size + 1) scope.names (cloFrom X.env.cells scope.names [])) (s0.heap.push { cls := .type "dict", data := .dict #[] }).objs.size X.env)) (compPost (model X.G.P X.G.w) X.A E use Qf (.ref D) (s0.heap.push { cls := .type "dict", data := .dict #[] }).objs.size) { s0 with heap := pushCells ((s0.heap.push { cls := .type "dict", data := .dict #[] }).push { cls := .type "dict", data := .dict #[] }) scope.names }
    dsimp only at I2 K2 wrC fpC hDC fp2 fC sC t2 gD2 hd2 K02
    generalize (s0.heap.push { cls := .type "dict", data := .dict #[] }).objs.size = C at I2 K2 wrC fpC hDC fp2 fC sC t2 gD2 hd2 K02 ⊢
    generalize pushCells ((s0.heap.push { cls := .type "dict", data := .dict #[] }).push { cls := .type "dict", data := .dict #[] }) scope.names = h2 at I2 K2 t2 gD2 hd2 K02 ⊢
    generalize cellsFrom (C + 1) scope.names (cloFrom X.env.cells scope.names []) = cl at I2 wrC fpC ⊢
    have fDb := fpC D fD hDC
    have ffp : ∀ b ∈ fp, FpOk (X.blk scope Nb cl C) ρ0 b := fun b hb => fpC b (f0 b hb).1 (fp2 b hb)
    have young : ∀ b, (X.blk scope Nb cl C).wr b → noex b ∨ s.heap.objs.size ≤ b := fun b w => .inr (Nat.le_trans sC (wrC b w))
    have youngF : ∀ b, b ∈ fp → noex b ∨ s.heap.objs.size ≤ b := fun b hb => .inr (f0 b hb).2
    have loop : codeAny (model X.G.P X.G.w) X.A (.compLoop (.DictComp elt vx [⟨tg, iter, ifs, 0⟩] scope pos) 0 (.ref it) (.ref D) (compEnvC scope cl C X.env)) (compPost (model X.G.P X.G.w) X.A E use Qf (.ref D) C) { s0 with heap := h2 } := by
      refine L2.compLoop_anyD (fun k s' => ∃ i σ' acc m' ρ', Inv (X.blk scope Nb cl C) σ' m' ρ' s' ∧ Kp X.fs noex ρ ρ' s s' ∧ tn i s'.heap ∧ (∀ b ∈ fp, FpOk (X.blk scope Nb cl C) ρ' b) ∧ FpOk (X.blk scope Nb cl C) ρ' D ∧ (∀ p ∈ hd, RV ρ' s'.heap p.1 p.2) ∧ DctOk X.G.P X.G.w ρ' s'.heap D acc ∧
        ((dcL J g t f fv k i σ' acc m').bind fun acc m2 => (Res.ok (Z.D.ref m2.nx) (m2.push (.dct acc)) : Res Z.D)).sat KV (EP X noex σ ρ s E)) ?_ n ⟨0, blkS fr σ, [], m1, ρ0, I2, K02, t2, ffp, fDb, hd2, gD2, h⟩
      rintro k s3 ⟨i, σ3, acc, m3, ρ3, I3, K3, t3, f3, d3, hd3, g3, h3⟩
      cases k with
      | zero => exact h3.elim
      | succ k =>
        simp only [dcL] at h3
        cases ej : J.on i m3 with
        | none => rw [ej] at h3; exact h3.elim
        | some y =>
          cases y with
          | none =>
            rw [ej] at h3
            dsimp only [Res.bind] at h3
            refine wpAny_mono (T.done (X.blk scope Nb cl C) rfl hc i σ3 m3 ρ3 s3 (fun s4 => compPost (model X.G.P X.G.w) X.A E use Qf (.ref D) C (.ok .next) s4) _ I3 f3 hd3 t3 ej fun s4 I4 K4 => ?_) (fun r s4 ⟨hr, q⟩ => ?_) fun _ _ q => q
            · have K34 : Kp X.fs noex ρ ρ3 s s4 := K3.young K4 youngF
              have I5 : Inv X σ (J.fin m3) ρ3 s4 := I.go K34 I4.S I4.low I4.lowle
              have D4 : DctOk X.G.P X.G.w ρ3 s4.heap D acc := g3.stay (RhoK.refl _) K4.tups fun o e => K4.keep D o e d3.1 (fun hm => fpD D hm rfl) d3.2.2.1
              obtain ⟨I6, tk6⟩ := I5.adopt (c := .dct acc) (fD.ni d3.1) D4.noCode.1 fun tk => ⟨rfl, D4.stay (RhoK.app _ _) tk fun _ e => e⟩
              obtain ⟨mm, hn, _⟩ := I4.loc
              obtain ⟨l0, e0, q0⟩ := id K34.sub
              refine hR (.ref (J.fin m3).nx) D C s4 _ _ mm I6 ⟨⟨l0 ++ [(D, D)], by rw [e0, List.append_assoc], fun p hp => ?_⟩, K34.sz, K34.tups.trans tk6, K34.codes, K34.keep, K34.slot⟩ ⟨D, D, nx_rho I5, rfl⟩ h3 hn ((fC.ni (NotIn.app.mpr ⟨I4.ln, fun p hp => ?_⟩))) sC
              · rcases List.mem_append.mp hp with q | q
                · exact q0 p q
                · rw [List.mem_singleton.mp q]; exact ⟨sD, sD⟩
              · rw [List.mem_singleton.mp hp]
                have : C ≠ D := Ne.symm (Nat.ne_of_lt hDC)
                exact ⟨this, this⟩
            · subst hr; exact q
          | some x =>
            rw [ej] at h3
            dsimp only at h3
            refine wpAny_mono (T.item (X.blk scope Nb cl C) rfl hc i x σ3 m3 ρ3 s3 ?Q _ I3 f3 hd3 t3 ej ?hq) ?hm fun _ _ q => q
            case hm =>
              rintro r s4 ⟨v, hr, q⟩
              subst hr
              exact q
            case hq =>
              intro u s4 I4 K4 r4 t4
              have K34 : Kp X.fs noex ρ ρ3 s s4 := K3.young K4 youngF
              -- what stays through the turn
              have keep : ∀ {ρ5 s5}, Kp X.fs (X.blk scope Nb cl C).wr ρ3 ρ5 s4 s5 → Kp X.fs noex ρ ρ5 s s5 ∧ tn (i + 1) s5.heap ∧ (∀ b ∈ fp, FpOk (X.blk scope Nb cl C) ρ5 b) ∧ FpOk (X.blk scope Nb cl C) ρ5 D ∧ (∀ p ∈ hd, RV ρ5 s5.heap p.1 p.2) ∧ DctOk X.G.P X.G.w ρ5 s5.heap D acc := fun {ρ5 s5} K5 => by
                have gD4 : DctOk X.G.P X.G.w ρ3 s4.heap D acc := g3.stay (RhoK.refl _) K4.tups fun o e => K4.keep D o e d3.1 (fun hm => fpD D hm rfl) d3.2.2.1
                obtain ⟨_, oD, eD⟩ := gD4.noCode
                refine ⟨K34.young K5 young, T.keep _ _ _ t4 fun b hb o e => K5.keep b o e (f3 b hb).1 (f3 b hb).2.1 (f3 b hb).2.2.1, fun b hb => ?_, d3.on K5 eD, fun p hp => RV.mono (K4.rho.trans K5.rho) (K4.tups.trans K5.tups) _ _ (hd3 p hp), gD4.stay K5.rho K5.tups fun o e => K5.keep D o e d3.1 d3.2.1 d3.2.2.1⟩
                obtain ⟨o, e⟩ := T.obj _ _ t4 b hb
                exact (f3 b hb).on K5 e
              refine (hg cl C).run σ3 m3 ρ3 s4 x u _ _ I4 r4 ?_
              cases eg : g x σ3 m3 with
              | bad => rw [eg] at h3; exact h3.elim
              | exc x2 σ4 m4 => rw [eg] at h3; exact h3.elim
              | ret v2 m4 => rw [eg] at h3; exact h3.elim
              | brk σ4 m4 => rw [eg] at h3; exact h3.elim
              | cnt σ4 m4 => rw [eg] at h3; exact h3.elim
              | nxt σ4 m4 =>
                rw [eg] at h3
                dsimp only at h3
                intro s5 ρ5 I5 K5 _
                refine (ht cl C).run σ4 m4 ρ5 s5 _ _ I5 ?_
                cases et : t σ4 m4 with
                | bad => rw [et] at h3; exact h3.elim
                | exc x2 m5 => rw [et] at h3; exact h3.elim
                | ok bb m5 =>
                  rw [et] at h3
                  intro s6 ρ6 I6 K6
                  cases bb with
                  | false =>
                    dsimp only at h3
                    rw [if_neg Bool.false_ne_true]
                    obtain ⟨q1, q2, q3, q4, q5, q6⟩ := keep (K5.trans K6.any)
                    exact ⟨k, Nat.lt_succ_self _, i + 1, σ4, acc, m5, ρ6, I6, q1, q2, q3, q4, q5, q6, h3⟩
                  | true =>
                    dsimp only at h3
                    rw [if_pos rfl]
                    refine (he cl C).run σ4 m5 ρ6 s6 _ _ I6 ?_
                    cases ef : f σ4 m5 with
                    | bad => rw [ef] at h3; exact h3.elim
                    | exc x2 m6 => rw [ef] at h3; exact h3.elim
                    | ok yv m6 =>
                      rw [ef] at h3
                      dsimp only at h3
                      intro uy s7 ρ7 I7 K7 r7
                      refine (hv cl C).run σ4 m6 ρ7 s7 _ _ I7 ?_
                      cases ev : fv σ4 m6 with
                      | bad => rw [ev] at h3; exact h3.elim
                      | exc x2 m7 => rw [ev] at h3; exact h3.elim
                      | ok zv m7 =>
                        rw [ev] at h3
                        dsimp only at h3
                        split at h3
                        case isFalse => exact h3.elim
                        rename_i hza
                        intro uz s8 ρ8 I8 K8 r8
                        obtain ⟨q1, q2, q3, q4, q5, q6⟩ := keep (K5.trans ((K6.trans K7).trans K8).any)
                        refine dct_set I8 q6 hza.1 hza.2 (RV.mono K8.rho K8.tups _ _ r7) r8 fun h9 t9 sb go9 => ?_
                        obtain ⟨I9, K9⟩ := I8.turned (W := [D]) (h' := h9) (t := t9) (fun b o hb e => (sb.2 b (by simpa using hb)).trans e) (Nat.le_of_eq sb.1.symm) fun b hb => by
                          rw [List.mem_singleton.mp hb]; exact .inl ⟨q4, q6.noCode.1⟩
                        have nD : ∀ b ∈ fp, b ∉ [D] := fun b hb hm => fpD b hb (by simpa using hm)
                        exact ⟨k, Nat.lt_succ_self _, i + 1, σ4, dput acc yv zv, m7, ρ8, I9, q1.young K9 fun c hc => .inr (by rw [List.mem_singleton.mp hc]; exact sD), T.keep _ _ _ q2 fun b hb o e => K9.keep b o e (q3 b hb).1 (nD b hb) (q3 b hb).2.2.1, q3, q4, fun p hp => RV.mono K9.rho K9.tups _ _ (q5 p hp), go9 K9.tups, h3⟩
    exact codeAny_compStart_dict loop (T.self X.A 0 _ _ _ t2 loop)
theorem se_dc {elt vx : Expr} {ifs : List Expr} {scope : Scope} {Nb : List Str} {fr : List (Option Nat)} {wi : Sl → Store → Res It} {g : GV} {t : TV} {f fv : EV} (n : Nat) (hc : X.calm = true) (hi : SI X tg iter wi) (ok : Blk X scope Nb fr)
    (hg : ∀ cl C, SG (X.blk scope Nb cl C) tg g) (ht : ∀ cl C, STs (X.blk scope Nb cl C) ifs t) (he : ∀ cl C, SE (X.blk scope Nb cl C) elt f) (hv : ∀ cl C, SE (X.blk scope Nb cl C) vx fv) (hs : ∀ x, foldedSetIterable iter X.env x = pure x) : SE X (.DictComp elt vx [⟨tg, iter, ifs, 0⟩] scope pos) (eDc wi fr g t f fv n) := by
  refine ⟨fun σ m ρ s Q E I h => ?_⟩
  rw [arm_eval_DictComp]
  refine dc_core (use := none) n hc I hi ok hg ht he hv hs h fun v D C s' m' ρ' mm I' K' r' q hn fC sC => ⟨mm, hn, fun h'' sb => ?_⟩
  obtain ⟨I2, K2⟩ := I'.turned (W := [C]) (h' := h'') (t := s'.toks) (fun b o hb e => (sb.2 b (by simpa using hb)).trans e) (Nat.le_of_eq sb.1.symm) fun b hb => by
    rw [List.mem_singleton.mp hb]
    obtain ⟨o, es, ep, e, dd, _⟩ := hn
    exact .inl ⟨fC, o, e, .inr (fun vs k z => by rw [dd] at z; cases z), fun vs z => by rw [dd] at z; cases z⟩
  exact q _ _ _ I2 (K'.young K2 fun c hc => .inr (by rw [List.mem_singleton.mp hc]; exact sC)) (RV.mono K2.rho K2.tups _ _ r')

/-- {} -/
def eDct0 : EV := fun _ m => .ok (.ref m.nx) (m.push (.dct []))
theorem se_dct0 : SE X (.Dict [] [] pos) eDct0 := by
  refine ⟨fun σ m ρ s Q E I h => ?_⟩
  refine wpAny_Dict_empty ?_
  obtain ⟨I1, K1⟩ := I.alloc (o := { cls := .type "dict", data := .dict #[] }) (c := .dct []) (t := s.toks) rfl ⟨rfl, let ⟨z1, z2, _⟩ := dct_new I; ⟨z1, z2, .inl ⟨[], Heap.DictOf.new s.heap, .nil⟩⟩⟩
  exact h _ _ _ I1 K1 ⟨_, _, nx_rho I, rfl⟩
end
end Z

set_option Elab.async false
set_option linter.all false
set_option maxRecDepth 100000
/-! the engine, part Y: lambdas are made -/
namespace Z
open PySem PySem.Spec PyProof.Rows
open L2 (frs cloFrom closure_ok)

/-- the captured names, as a closure lists them -/
def frees (sc : Scope) : List Str := (sc.names.filter fun y => y.2 == .free).reverse.map (·.1)
theorem cloFrom_eq (cells : List (Str × Addr)) : ∀ (names : List (Str × NameKind)) (acc : List (Str × Addr)), cloFrom cells names acc = (names.filter fun y => y.2 == .free).reverse.map (fun y => (y.1, (cells.lookup y.1).getD 0)) ++ acc
  | [], acc => rfl
  | (n, k) :: r, acc => by
    unfold cloFrom
    split
    · rename_i h
      rw [cloFrom_eq cells r, List.filter_cons, if_pos h]
      simp
    · rename_i h
      rw [cloFrom_eq cells r, List.filter_cons, if_neg h]
theorem tri_one {l : List Value} (h : TriplesOk l) : ∀ q t, l[1]? ≠ some (.str q t) := by
  fun_induction TriplesOk l with
  | case1 => intro q t z; cases z
  | case2 a' t b' u x rest ih => intro q t z; cases z
  | case3 l h1 h2 => exact h.elim
section
variable {X : Cx} {σ σ' : Sl} {m m' : Store} {ρ ρ1 ρ' : Rho} {s s1 s' : Shared} {E : Value → Shared → Prop} {pos : Pos}
/-- a def's table is written; what else is new is untracked -/
theorem Inv.table {h' : Heap} {t l i : Nat} {P : Addr} {ps : Array Value} (I : Inv X σ m ρ s) (hi : m.cs[i]? = some (.tbl l)) (hp : ρ[i]? = some (P, P)) (ho : s.heap.get? P = some (PySem.W.tabObj ps)) (ht : TriplesOk ps.toList)
    (k : ∀ b o, b ≠ P → s.heap.get? b = some o → h'.get? b = some o) (sz : s.heap.objs.size ≤ h'.objs.size) (ok : (∀ cv q, s.heap.CodeRec cv q → h'.CodeRec cv q) → CelOk X.G ρ h' (P, P) (.tbl l)) :
    Inv X σ m ρ { s with heap := h', toks := t } ∧ Kp X.fs noex ρ ρ s { s with heap := h', toks := t } := by
  have ne : ∀ b, NotIn ρ b → b ≠ P := fun b n z => (n.get hp).1 z
  have codes : ∀ cv q, s.heap.CodeRec cv q → h'.CodeRec cv q := fun cv q ⟨c, oc, vs, tq, e0, e1, e2, e3⟩ => by
    refine ⟨c, oc, vs, tq, e0, k c oc (fun z => ?_) e1, e2, e3⟩
    subst z
    rw [ho] at e1
    cases e1
    cases e2
    exact tri_one ht q tq (by rw [Array.getElem?_toList]; exact e3)
  have K : Kp X.fs noex ρ ρ s { s with heap := h', toks := t } := ⟨⟨[], by simp, fun _ z => nomatch z⟩, sz, TupK.same fun b us ⟨u, e, c, n, d⟩ nb => ⟨u, k b u (ne b nb) e, c, n, d⟩, codes, fun b o e n _ _ => k b o (ne b n) e, fun b o e n _ => ⟨o.slots, k b o (ne b n) e⟩⟩
  have nb := I.S.nbase i _ _ hp hi rfl
  have S : SInv X.G X.stk m ρ { s with heap := h', toks := t } := by
    refine ⟨I.S.os, I.S.bare, fun b u e => k b u (fun z => by rw [z, nb.1] at e; cases e) (I.S.base b u e), I.S.nbase, Heap.FunFrames.kp K I.S.frn I.S.funs, I.S.frn, I.S.len, I.S.disj, fun j q d e1 e2 => ?_⟩
    by_cases hj : j = i
    · subst hj
      rw [hp] at e1; cases e1
      rw [hi] at e2; cases e2
      exact ok codes
    · have dj := I.S.disj j i q _ hj e1 hp
      refine (I.S.cel j q d e1 e2).stay (RhoK.refl ρ) K.tups (fun b u hb e => k b u ?_ e) K.codes K.sz
      rcases hb with hb | hb
      · rw [hb]; exact dj.1
      · rw [hb]; exact dj.2.2.1
  exact ⟨I.go K S I.low I.lowle, K⟩
def boxAt (σ : Sl) (i : Nat) : Option Nat := match σ[i]? with
  | some (.box j) => some j
  | _ => none
/-- a lambda: tb the number of the table, fr the captured names' slots -/
def eLam (tb t l : Nat) (fr : List Nat) : EV := fun σ m => match m.cs[tb]? with
  | some (.tbl t') => if t' = t then (match omap (boxAt σ) fr with | some cs => .ok (.ref m.nx) (m.push (.clo l cs)) | none => .bad) else .bad
  | _ => .bad
theorem clo_pair (I : Inv X σ m ρ s) : ∀ {ns : List Str} {fr cs : List Nat}, fr.map (fun i => X.N[i]?) = ns.map some → omap (boxAt σ) fr = some cs →
    Paired (fun (y : Str × Addr) (i : Nat) => ∃ d, ρ[i]? = some (y.2, d) ∧ d = y.2) (ns.map fun n => (n, (X.env.cells.lookup n).getD 0)) cs ∧ ∀ n ∈ ns, ∃ c, X.env.cells.lookup n = some c
  | [], [], cs, _, h => by cases h; exact ⟨.nil, fun _ z => nomatch z⟩
  | [], _ :: _, _, h, _ => by cases h
  | _ :: _, [], _, h, _ => by cases h
  | n :: ns, i :: fr, cs, h1, h2 => by
    rw [List.map_cons, List.map_cons, List.cons.injEq] at h1
    unfold omap at h2
    cases e1 : boxAt σ i with
    | none => rw [e1] at h2; cases h2
    | some j =>
      rw [e1] at h2
      cases e2 : omap (boxAt σ) fr with
      | none => rw [e2] at h2; cases h2
      | some js =>
        rw [e2] at h2
        cases h2
        obtain ⟨r1, r2⟩ := clo_pair I h1.2 e2
        unfold boxAt at e1
        cases e3 : σ[i]? with
        | none => rw [e3] at e1; cases e1
        | some sl =>
          rw [e3] at e1
          cases sl with
          | box j' =>
            cases e1
            obtain ⟨mm, _, hl⟩ := I.loc
            obtain ⟨_, c, ec, q⟩ := hl i n _ h1.1 e3
            refine ⟨.cons ⟨c, ?_, ?_⟩ r1, fun y hy => ?_⟩
            · dsimp only; rw [ec]; exact q
            · dsimp only; rw [ec]; rfl
            · rcases List.mem_cons.mp hy with rfl | hy
              · exact ⟨c, ec⟩
              · exact r2 y hy
          | _ => cases e1
theorem nd_cells (inj : ∀ x y c, X.env.cells.lookup x = some c → X.env.cells.lookup y = some c → x = y) : ∀ {ns : List Str}, ns.Nodup → (∀ n ∈ ns, ∃ c, X.env.cells.lookup n = some c) → (ns.map fun n => (X.env.cells.lookup n).getD 0).Nodup
  | [], _, _ => List.nodup_nil
  | n :: ns, h, hc => by
    rw [List.nodup_cons] at h
    rw [List.map_cons, List.nodup_cons]
    refine ⟨fun hm => ?_, nd_cells inj h.2 fun y hy => hc y (.tail _ hy)⟩
    obtain ⟨y, hy, e⟩ := List.mem_map.mp hm
    obtain ⟨c1, e1⟩ := hc n (.head _)
    obtain ⟨c2, e2⟩ := hc y (.tail _ hy)
    rw [e1, e2] at e
    simp only [Option.getD_some] at e
    subst e
    have := inj _ _ _ e1 e2
    subst this
    exact h.1 hy
theorem se_lam {tb t l : Nat} {fr : List Nat} {c : Addr} {params : Arguments} {body : Expr} {scope : Scope} (hl : X.G.lams l = ⟨params, body, scope, X.env.qual ++ "<lambda>"⟩) (hn : ∀ a b, X.G.nms t a b = X.env.qual ++ "<lambda>") (TB : LamX.TabB X.G.base X.G.mg c (X.G.tab t)) (hcode : X.env.code = .ref c)
    (hdef : defaultsOf params X.env = ([], [])) (hfr : fr.map (fun i => X.N[i]?) = (frees scope).map some) (hnd : (frees scope).Nodup) : SE X (.Lambda params body scope pos) (eLam tb t l fr) := by
  refine ⟨fun σ m ρ s Q E I h => ?_⟩
  unfold eLam at h
  cases e1 : m.cs[tb]? with
  | none => rw [e1] at h; exact h.elim
  | some cc =>
    rw [e1] at h
    cases cc with
    | tbl t' =>
      dsimp only at h
      split at h
      · rename_i et
        subst et
        cases e2 : omap (boxAt σ) fr with
        | none => rw [e2] at h; exact h.elim
        | some cs =>
          rw [e2] at h
          obtain ⟨pr, hc⟩ := clo_pair I hfr e2
          obtain ⟨p, hp, ck⟩ := I.S.at e1
          obtain ⟨p1, p2⟩ := p
          obtain ⟨q1, q2, ps, hP, ht, ha⟩ := ck
          dsimp only at q1 q2
          subst q1
          subst q2
          dsimp only at hP ha
          have inf : ∀ y ∈ scope.names, y.2 = .free → y.1 ∈ frees scope := fun y hy e => by
            unfold frees
            exact List.mem_map.mpr ⟨y, List.mem_reverse.mpr (List.mem_filter.mpr ⟨hy, by rw [e]; rfl⟩), rfl⟩
          have hfree : ∀ y ∈ scope.names, y.2 = .free → ∃ c, X.env.cells.lookup y.1 = some c := fun y hy e => hc y.1 (inf y hy e)
          have ecl : cloFrom X.env.cells scope.names [] = (frees scope).map fun n => (n, (X.env.cells.lookup n).getD 0) := by
            rw [cloFrom_eq, List.append_nil]
            unfold frees
            rw [List.map_map]
            rfl
          have clok : ∀ {h' : Heap} {ρ2 : Rho} {a : Addr} {pm ctv : Value} {c' : Addr}, RhoK ρ ρ2 → h'.get? a = some (PySem.W.kla_obj "<lambda>" (X.env.qual ++ "<lambda>") params body scope (cloFrom X.env.cells scope.names []) pm c' ctv) → h'.CodeRec (.ref c') (X.env.qual ++ "<lambda>") → CelOk X.G ρ2 h' (a, a) (.clo l cs) := fun {h' ρ2 a pm ctv c'} rk g cr => by
            refine ⟨rfl, pm, c', ctv, cloFrom X.env.cells scope.names [], ?_, ?_, ⟨?_, ?_, fun y hy => ?_⟩, ?_⟩
            · rw [hl]; exact g
            · rw [hl]; exact cr
            · rw [hl, ecl, List.map_map]
              exact List.map_id _
            · rw [ecl, List.map_map]
              exact nd_cells I.ok.inj hnd hc
            · rw [ecl] at hy
              obtain ⟨n, hn1, hn2⟩ := List.mem_map.mp hy
              obtain ⟨c0, ec⟩ := hc n hn1
              subst hn2
              dsimp only
              rw [ec]
              exact I.ok.cbase _ _ ec
            · rw [ecl]
              exact Paired.imp2 pr fun a b ⟨d, z, zz⟩ => ⟨d, rk _ _ z, zz⟩
          refine PySem.W.kla_eval hdef ?_
          have bP : s.heap.BuiltinsAt X.G.mg (X.G.tab t') := TB.bm.keeps I.S.base
          have hgl : s.heap.Ns mainGlobals X.G.mg := I.G.glob.keeps I.S.base
          cases hca : codeAmong pos ps.toList with
          | none =>
            refine PySem.W.kla_makeFunction (mg := X.G.mg) (c := c) (P := X.G.tab t') (ps := ps) (closure_ok hfree) I.ok.glob hgl hcode (TB.code.keeps I.S.base) hP ht hca TB.gP bP fun c' ctv h' tk hx hge hlt hrec htb => ?_
            have hsz : s.heap.objs.size ≤ h'.objs.size := Nat.le_trans hge (Nat.le_of_lt hlt)
            have eL : (ps ++ #[rawInt pos.line, rawInt pos.col, .ref c']).toList = ps.toList ++ [rawInt pos.line, rawInt pos.col, .ref c'] := by simp
            obtain ⟨I1, K1⟩ := I.table (h' := h') (t := tk) e1 hp hP ht (fun b o hb e => hx b o hb e) hsz fun codes => ⟨rfl, rfl, _, htb, by rw [eL]; exact PySem.TriplesOk_snoc _ _ _ _ ht, fun p' cv hcv => by
              rw [eL] at hcv
              rcases LamX.among_app _ ht hcv with z | z
              · exact codes _ _ (ha p' cv z)
              · rw [z, hn]; exact hrec⟩
            obtain ⟨I2, K2⟩ := I1.alloc (o := PySem.W.kla_obj "<lambda>" (X.env.qual ++ "<lambda>") params body scope (cloFrom X.env.cells scope.names []) ((X.G.mg "__name__").getD .none) c' ctv) (c := .clo l cs) (t := tk) rfl
              (clok (RhoK.app _ _) (Heap.get?_push_size _ rfl) (hrec.push _))
            exact h _ _ _ I2 (K1.trans K2) ⟨_, _, nx_rho I1, rfl⟩
          | some cv =>
            have hrec := ha pos cv hca
            rw [hn] at hrec
            obtain ⟨c', oc, vs, tq, ecv, r1, r2, r3⟩ := id hrec
            subst ecv
            refine PySem.W.kla_makeFunctionHit (mg := X.G.mg) (c := c) (P := X.G.tab t') (ps := ps) (closure_ok hfree) I.ok.glob hgl hcode (TB.code.keeps I.S.base) hP ht hca bP fun ctv h' tk hx hsz => ?_
            obtain ⟨I1, K1⟩ := I.kept (h' := h') (t := tk) hx hsz
            obtain ⟨I2, K2⟩ := I1.alloc (o := PySem.W.kla_obj "<lambda>" (X.env.qual ++ "<lambda>") params body scope (cloFrom X.env.cells scope.names []) ((X.G.mg "__name__").getD .none) c' ctv) (c := .clo l cs) (t := tk) rfl
              (clok (RhoK.app _ _) (Heap.get?_push_size _ rfl) ((hrec.keeps hx).push _))
            exact h _ _ _ I2 (K1.trans K2) ⟨_, _, nx_rho I1, rfl⟩
      · exact h.elim
    | _ => exact h.elim
end
end Z

set_option Elab.async false
set_option linter.all false
set_option maxRecDepth 100000
/-! the engine, part ZZ: closures are called -/
namespace Z
open PySem PySem.Spec PyProof.Rows
open L2 (frs)

def cxL (G : Gl) (A : Around) (outer : List Env) (L : Addr) (N : List Str) (qual : Str) (scope : Scope) (f : Addr) (cd : Value) (cl : List (Str × Addr)) (c0 : List Cel) : Cx where
  G := G
  A := A.deeper (PySem.W.envX qual scope L f cd cl)
  env := PySem.W.envX qual scope L f cd cl
  stk := PySem.W.envX qual scope L f cd cl :: outer
  N := N
  own := fun _ => false
  calm := true
  c0 := c0
structure LamScope (N ps : List Str) (sc : Scope) : Prop where
  kind : sc.kind = .function
  co : sc.isCoroutine = false
  gen : sc.isGenerator = false
  nd : N.Nodup
  eq : N = ps ++ frees sc
  par : ∀ y ∈ ps, sc.names.lookup y = some .local
  fre : ∀ y ∈ frees sc, sc.names.lookup y = some .free
  nocell : ∀ y ∈ sc.names, y.2 ≠ .cell
/-- the meaning of a closure's body: cs the captured cells' numbers -/
def lamR (np : Nat) (body : EV) (cs : List Nat) (vs : List D) (m : Store) : Res D :=
  if vs.length = np then
    match body (vs.map Slot.val ++ cs.map Slot.box) ⟨m.cs, m.cs.length⟩ with
    | .ok v m1 => match gcS m.cs.length m.low [v] m1 with
      | ([w], m2) => .ok w m2
      | _ => .bad
    | .exc x m1 => .exc ⟨x.C, x.ns, (gcS m.cs.length m.low x.vs m1).1⟩ (gcS m.cs.length m.low x.vs m1).2
    | .bad => .bad
  else .bad
/-- what a lambda of the text means -/
structure LamZ1 (G : Gl) (k l : Nat) (r : List Nat → List D → Store → Res D) : Prop where
  run : ∀ (A : Around) (stk : List Env) (s : Shared) (m : Store) (ρ : Rho) (i : Nat) (f : Addr) (cs : List Nat) (us : List Value) (vs : List D) (Q : Value → Shared → Prop) (E : Value → Shared → Prop), L2.Room k A → A.frames = some stk → SInv G stk m ρ s → m.low ≤ m.cs.length →
    m.cs[i]? = some (.clo l cs) → ρ[i]? = some (f, f) → RVs ρ s.heap vs us → (r cs vs m).sat (RQ G stk m ρ s Q) (RE G stk m ρ s E) → codeAny (model G.P G.w) A (.call (.ref f) ⟨us, []⟩) (CRz Q E) s
theorem LamZ1.mono {G : Gl} {j k l : Nat} {r : List Nat → List D → Store → Res D} (F : LamZ1 G j l r) (h : j ≤ k) : LamZ1 G k l r :=
  ⟨fun A stk s m ρ i f cs us vs Q E hr => F.run A stk s m ρ i f cs us vs Q E (hr.mono h)⟩
theorem lk_nd {α : Type} {y : Str} {u : α} : ∀ {l : List (Str × α)}, (l.map (·.1)).Nodup → (y, u) ∈ l → l.lookup y = some u
  | [], _, h => nomatch h
  | (n, v) :: r, hn, h => by
    rw [List.map_cons, List.nodup_cons] at hn
    rcases List.mem_cons.mp h with e | h
    · cases e
      rw [List.lookup_cons_self]
    · have ne : y ≠ n := fun z => hn.1 (by rw [← z]; exact List.mem_map.mpr ⟨(y, u), h, rfl⟩)
      rw [List.lookup_cons, beq_eq_false_iff_ne.mpr ne]
      exact lk_nd hn.2 h
theorem Paired.at {α β : Type} {F : α → β → Prop} : ∀ {l : List α} {l' : List β}, Paired F l l' → ∀ {i : Nat} {b : β}, l'[i]? = some b → ∃ a, l[i]? = some a ∧ F a b
  | _, _, .nil, i, b, h => by cases h
  | _, _, .cons r t, 0, b, h => by
    have e := Option.some.inj h
    subst e
    exact ⟨_, rfl, r⟩
  | _, _, .cons r t, i + 1, b, h => Paired.at t h
section
variable {G : Gl} {N ps : List Str} {qual : Str} {scope : Scope} {A : Around} {outer : List Env} {s : Shared} {m : Store} {ρ : Rho} {us : List Value} {vs : List D}
theorem lam_in {k : Nat} {h1 : Heap} {tk : Nat} {f : Addr} {cd : Value} {cl : List (Str × Addr)} {cs : List Nat} (hG : G.Ok) (S : LamScope N ps scope) (hr : L2.Room k A) (hA : A.frames = some outer) (I0 : SInv G outer m ρ s) (hl : us.length = ps.length) (r : RVs ρ s.heap vs us)
    (hc1 : cl.map (·.1) = frees scope) (hc2 : (cl.map (·.2)).Nodup) (hc3 : ∀ y ∈ cl, G.base.get? y.2 = none) (pr : Paired (fun (y : Str × Addr) (i : Nat) => ∃ d, ρ[i]? = some (y.2, d) ∧ d = y.2) cl cs)
    (hns : h1.Ns s.heap.objs.size (fun x => (ps.zip us).reverse.lookup x)) (hsb : Heap.SameBut s.heap.objs.size (s.heap.push { cls := .type "frame", data := .dict #[] }) h1) :
    Inv (cxL G A outer s.heap.objs.size N qual scope f cd cl m.cs) (vs.map Slot.val ++ cs.map Slot.box) ⟨m.cs, m.cs.length⟩ ρ { s with heap := h1, toks := tk } ∧
      Ent (cxL G A outer s.heap.objs.size N qual scope f cd cl m.cs) outer m ρ [] s { s with heap := h1, toks := tk } := by
  have hk : ∀ b o, s.heap.get? b = some o → h1.get? b = some o := fun b o e => (hsb.2 b (Nat.ne_of_lt (Heap.lt_size e))).trans (Heap.get?_push_of_some _ e)
  have sz : s.heap.objs.size ≤ h1.objs.size := Nat.le_of_lt hns.lt
  have hvl := r.len
  have K0 : Kp (frs outer) noex ρ ρ s { s with heap := h1, toks := tk } := Kp.all0 hk sz
  have ndc : (cl.map (·.1)).Nodup := by
    rw [hc1]
    have := S.nd
    rw [S.eq] at this
    exact (List.nodup_append.mp this).2.1
  have inj : ∀ x y c, cl.lookup x = some c → cl.lookup y = some c → x = y := fun x y c e1 e2 => by
    have h1 := PySem.mem_of_lookup e1
    have h2 := PySem.mem_of_lookup e2
    obtain ⟨i, hi⟩ := List.mem_iff_getElem?.mp h1
    obtain ⟨j, hj⟩ := List.mem_iff_getElem?.mp h2
    have a1 : (cl.map (·.2))[i]? = some c := by rw [List.getElem?_map, hi]; rfl
    have a2 : (cl.map (·.2))[j]? = some c := by rw [List.getElem?_map, hj]; rfl
    have hil := (List.getElem?_eq_some_iff.mp a1).1
    have := (List.getElem?_inj hil hc2).mp (a1.trans a2.symm)
    subst this
    rw [hi] at hj
    exact (Prod.mk.inj (Option.some.inj hj)).1
  -- the captured cells are tracked
  have tracked : ∀ x c, cl.lookup x = some c → ∃ (i j : Nat), cl[i]? = some (x, c) ∧ cs[i]? = some j ∧ ρ[j]? = some (c, c) := fun x c e => by
    obtain ⟨i, hi⟩ := List.mem_iff_getElem?.mp (PySem.mem_of_lookup e)
    have hil := (List.getElem?_eq_some_iff.mp hi).1
    have hcl := pr.length
    obtain ⟨j, hj⟩ : ∃ j, cs[i]? = some j := ⟨_, List.getElem?_eq_getElem (by omega)⟩
    obtain ⟨y, hy, d, e1, e2⟩ := Paired.at pr hj
    rw [hi] at hy; cases hy
    subst e2
    exact ⟨i, j, hi, hj, e1⟩
  have nL : NotIn ρ s.heap.objs.size := I0.fresh (Nat.le_refl _)
  have S2 : SInv G outer ⟨m.cs, m.cs.length⟩ ρ { s with heap := h1, toks := tk } := by
    have z := I0.more (s' := { s with heap := h1, toks := tk }) (l := []) (ls := []) (by rw [List.append_nil]; exact K0) (fun b o _ e => hk b o e) rfl I0.bare rfl (fun _ z => nomatch z) (fun _ _ _ _ _ e => by simp at e) (fun _ _ _ e => by simp at e)
    simp only [List.append_nil] at z
    exact ⟨z.os, z.bare, z.base, z.nbase, z.funs, z.frn, z.len, z.disj, z.cel⟩
  have S1 : SInv G (PySem.W.envX qual scope s.heap.objs.size f cd cl :: outer) ⟨m.cs, m.cs.length⟩ ρ { s with heap := h1, toks := tk } := by
    refine ⟨S2.os, S2.bare, S2.base, S2.nbase, Heap.FunFrames.cons (by show scope.kind ≠ _; rw [S.kind]; decide) rfl hns (I0.bfresh (Nat.le_refl _)) S2.funs, fun b hb => ?_, S2.len, S2.disj, S2.cel⟩
    rcases List.mem_cons.mp (show b ∈ s.heap.objs.size :: frs outer from hb) with q | q
    · subst q; exact nL
    · exact S2.frn b q
  have npar : ps.Nodup := by
    have := S.nd
    rw [S.eq] at this
    exact (List.nodup_append.mp this).1
  refine ⟨⟨⟨hG, S.kind, rfl, rfl, inj, fun y hy => ?_, fun _ => hr.hd, ?_, Around.frames_deeper hA, I0.bfresh (Nat.le_refl _), fun y c e => ?_, S.nd⟩, S1, fun y c e n => ?_, ⟨_, hns, fun i y sl e1 e2 => ?_⟩, nL, ?_, fun i hi => rfl, Nat.le_refl _⟩,
    ⟨rfl, rfl, I0, hk, sz, (fun _ z => nomatch z), Nat.le_refl _, fun b hb => ?_⟩⟩
  · have hy : scope.names.lookup y = some .cell ∨ scope.names.lookup y = some .free := hy
    rcases hy with hy | hy
    · exact absurd rfl (S.nocell _ (PySem.mem_of_lookup hy))
    · have hm : y ∈ frees scope := by
        unfold frees
        exact List.mem_map.mpr ⟨(y, .free), List.mem_reverse.mpr (List.mem_filter.mpr ⟨PySem.mem_of_lookup hy, rfl⟩), rfl⟩
      rw [← hc1] at hm
      obtain ⟨p, hp, e⟩ := List.mem_map.mp hm
      exact ⟨p.2, lk_nd ndc (by rw [← e]; exact hp)⟩
  · have := hr.un
    show A.units + 3 + 70 < cLine
    omega
  · exact hc3 _ (PySem.mem_of_lookup e)
  · obtain ⟨i, j, _, _, ej⟩ := tracked y c e
    exact absurd rfl (n.get ej).1
  · have e1 : N[i]? = some y := e1
    rw [S.eq] at e1
    by_cases hi : i < ps.length
    · rw [List.getElem?_append_left hi] at e1
      rw [List.getElem?_append_left (by rw [List.length_map]; omega), List.getElem?_map] at e2
      obtain ⟨v, hv⟩ : ∃ v, vs[i]? = some v := ⟨_, List.getElem?_eq_getElem (by omega)⟩
      rw [hv] at e2
      cases e2
      obtain ⟨u, hu, rv⟩ := r.get hv
      refine ⟨u, RV.mono K0.rho K0.tups _ _ rv, .inl ⟨S.par y (List.mem_of_getElem? e1), ?_⟩⟩
      have hz : (y, u) ∈ ps.zip us := List.mem_of_getElem? (i := i) (by rw [List.getElem?_zip_eq_some]; exact ⟨e1, hu⟩)
      refine lk_nd ?_ (List.mem_reverse.mpr hz)
      rw [List.map_reverse]
      unfold List.Nodup
      rw [List.pairwise_reverse]
      refine List.Pairwise.imp (R := (· ≠ ·)) (fun h => Ne.symm h) ?_
      rw [List.map_fst_zip (by omega)]
      exact npar
    · rw [List.getElem?_append_right (by omega)] at e1
      rw [List.getElem?_append_right (by rw [List.length_map]; omega), List.length_map, List.getElem?_map, hvl, hl] at e2
      cases hj : cs[i - ps.length]? with
      | none => rw [hj] at e2; cases e2
      | some j =>
        rw [hj] at e2
        cases e2
        obtain ⟨p, hp, d, q1, q2⟩ := Paired.at pr hj
        subst q2
        rw [← hc1, List.getElem?_map, hp] at e1
        cases e1
        have hm : p.1 ∈ frees scope := by rw [← hc1]; exact List.mem_map.mpr ⟨p, List.mem_of_getElem? hp, rfl⟩
        exact ⟨.inr (S.fre _ hm), p.2, lk_nd ndc (List.mem_of_getElem? hp), q1⟩
  · show (vs.map Slot.val ++ cs.map Slot.box).length = N.length
    have h3 := pr.length
    have h4 := congrArg List.length hc1
    rw [List.length_map] at h4
    rw [S.eq, List.length_append, List.length_append, List.length_map, List.length_map, ← h4]
    omega
  · rcases hb with rfl | ⟨y, c, z, _⟩
    · exact Nat.le_refl _
    · cases z
/-- THE RULE of a lambda of the text -/
theorem lam_z {k l : Nat} {params : Arguments} {body : Expr} {bv : EV} (hG : G.Ok) (hl : G.lams l = ⟨params, body, scope, qual⟩) (S : LamScope N ps scope)
    (hb : ∀ (us : List Value) (cl : List (Str × Addr)) (pm ctv : Value) (c' : Addr), us.length = ps.length → bindArgs (PySem.W.kla_fn "<lambda>" qual params body scope cl pm (.ref c') ctv) ⟨us, []⟩ = pure (ps.zip us))
    (hbody : ∀ A outer L f cd cl c0, L2.Room k (A.deeper (PySem.W.envX qual scope L f cd cl)) → SE (cxL G A outer L N qual scope f cd cl c0) body bv) : LamZ1 G (k + 1) l (lamR ps.length bv) := by
  refine ⟨fun A stk s m ρ i f cs us vs Q E hr hA I0 mlow hi hf r h => ?_⟩
  have lim : s.heap.NoLimit := hG.nolimit.keeps I0.base
  obtain ⟨_, pm, c', ctv, cl, g, hcd, ⟨hc1, hc2, hc3⟩, pr⟩ := I0.cel i _ _ hf hi
  rw [hl] at g hcd hc1
  dsimp only at g hcd hc1
  unfold lamR at h
  split at h
  case isFalse => exact h.elim
  rename_i hvl
  have hul : us.length = ps.length := by rw [← r.len]; exact hvl
  refine PySem.W.kla_callFunE hr.depth g rfl S.co S.gen rfl hcd ?_
  rw [hb us cl pm ctv c' hul]
  refine wpAny_pure (wpAny_newFunctionEnv S.nocell (fun y hy => S.par y.1 (List.of_mem_zip hy).1) (fun h1 hns hsb => ?_) S.kind)
  have hk : ∀ b o, s.heap.get? b = some o → h1.get? b = some o := fun b o e => (hsb.2 b (Nat.ne_of_lt (Heap.lt_size e))).trans (Heap.get?_push_of_some _ e)
  refine ⟨lim.keeps hk, ?_⟩
  show codeAny _ _ (.expr body (PySem.W.envX qual scope s.heap.objs.size f (.ref c') cl)) _ _
  obtain ⟨I, en⟩ := lam_in (tk := s.toks + (ps.zip us).length) (f := f) (cd := .ref c') (qual := qual) hG S hr hA I0 hul r hc1 hc2 hc3 pr hns hsb
  have SBd := hbody A stk s.heap.objs.size f (.ref c') cl m.cs (hr.deeper _)
  refine PySem.W.kla_codeExpr (SBd.run _ _ _ _ _ _ I ?_)
  have fin : ∀ {m1 : Store} {ρ' : Rho} {s' : Shared} (vs2 : List D) (us2 : List Value), Inv (cxL G A stk s.heap.objs.size N qual scope f (.ref c') cl m.cs) (vs.map Slot.val ++ cs.map Slot.box) m1 ρ' s' → Kp (cxL G A stk s.heap.objs.size N qual scope f (.ref c') cl m.cs).fs noex ρ ρ' { s with heap := h1, toks := s.toks + (ps.zip us).length } s' → RVs ρ' s'.heap vs2 us2 →
      ∃ ρ2, SInv G stk (gcS m.cs.length m.low vs2 m1).2 ρ2 s' ∧ Kp (frs stk) noex ρ ρ2 s s' ∧ RVs ρ2 s'.heap (gcS m.cs.length m.low vs2 m1).1 us2 ∧ LowK m (gcS m.cs.length m.low vs2 m1).2 := fun vs2 us2 I' K' r' => by
    have K2 := en.kp (ρ' := _) (by rw [List.append_nil]; exact K'.any)
    obtain ⟨l, e, hl2⟩ := id K2.sub
    have S1 := I'.out en.stk
    subst e
    obtain ⟨l2, i2, S2, r2, lk2⟩ := gc_ok I0 S1 I'.low I'.lowle mlow r'
    exact ⟨ρ ++ l2, S2, K2.less i2, r2, lk2⟩
  cases e : bv (vs.map Slot.val ++ cs.map Slot.box) ⟨m.cs, m.cs.length⟩ with
  | ok v m1 =>
    rw [e] at h
    dsimp only at h
    intro u s' ρ' I' K' r'
    obtain ⟨ρ2, S2, K2, r2, lk2⟩ := fin [v] [u] I' K' (RVs.cons r' RVs.nil)
    cases eg : gcS m.cs.length m.low [v] m1 with
    | mk ws m2 =>
      rw [eg] at h S2 r2 lk2
      cases ws with
      | nil => exact h.elim
      | cons w ws =>
        cases ws with
        | nil =>
          obtain ⟨u', e1, rw'⟩ := r2.one
          cases e1
          exact h u s' ρ2 S2 K2 rw' lk2
        | cons _ _ => exact h.elim
  | exc xx m1 =>
    rw [e] at h
    intro u s' air
    have hA' : (cxL G A stk s.heap.objs.size N qual scope f (.ref c') cl m.cs).A.frames = some (cxL G A stk s.heap.objs.size N qual scope f (.ref c') cl m.cs).stk := Around.frames_deeper hA
    obtain ⟨a, B, sI, ρ', d, e1, I', rest⟩ := id air
    refine en.exc hA' (by rw [List.append_nil]; exact air.weak fun _ z => z.elim) fun s'' out => ?_
    obtain ⟨o2, lk2⟩ := Out.gc I0 mlow I'.low I'.lowle out
    exact h u s'' o2 lk2
  | bad => rw [e] at h; exact h.elim
end
/-- the meanings of the text's lambdas -/
abbrev LamF := Nat → List Nat → List D → Store → Res D
def LamZ (G : Gl) (k : Nat) (F : LamF) : Prop := ∀ l, LamZ1 G k l (F l)
theorem LamZ1.bad {G : Gl} {k l : Nat} : LamZ1 G k l fun _ _ _ => .bad := ⟨fun _ _ _ _ _ _ _ _ _ _ _ _ _ _ _ _ _ _ _ h => h.elim⟩
def rClo (F : LamF) : D → List D → List D → Store → Res D := fun v vs _ m => match v with
  | .ref i => (match m.cs[i]? with
    | some (.clo l cs) => F l cs vs m
    | _ => .bad)
  | _ => .bad
theorem ov_clo {X : Cx} {k : Nat} {F : LamF} (hF : LamZ X.G k F) (hr : L2.Room k X.A) : OV1 X [] (rClo F) := by
  refine ⟨fun σ m ρ s v vs zs u us ws Q E I rv r1 r2 h => ?_⟩
  have : ([] : List Str).zip ws = [] := rfl
  rw [this]
  unfold rClo at h
  split at h
  · rename_i i
    split at h
    · rename_i l cs e1
      obtain ⟨p, hp, ck⟩ := I.S.at e1
      obtain rfl := RV.ref_of hp rv
      obtain ⟨p1, p2⟩ := p
      obtain ⟨ep, pm, c', ctv, cl, g, _⟩ := id ck
      dsimp only at ep
      subst ep
      refine ⟨kpr_fn g rfl, wpAny_call (codeAny_mono ((hF l).run X.A X.stk s m ρ i _ cs us vs Q E hr I.ok.frames I.S I.lowle e1 hp r1 ?_) fun r s' hq => ?_)⟩
      · exact h.mono (fun v m' q u s' ρ' S K rv l => q u s' ρ' (I.after S K l) K rv) fun x m' q u s' o l => q u s' (o.air I l)
      · cases r with
        | error e => exact hq
        | ok fl =>
          cases fl with
          | ret u => exact hq
          | _ => exact hq.elim
    · exact h.elim
  · exact h.elim
end Z

set_option Elab.async false
set_option linter.all false
set_option maxRecDepth 100000
/-! the engine, part ZZa: < of tuples, list(d.items()) -/
namespace Z
open PySem PySem.Spec PyProof.Rows
open L2 (frs)

def intsD : List D → Option (List Int)
  | [] => some []
  | .int i :: r => (intsD r).map (i :: ·)
  | _ :: _ => none
theorem intsD_are {ρ : Rho} {h : Heap} : ∀ {xs : List D} {us : List Value} {ns : List Int}, RVs ρ h xs us → intsD xs = some ns → IntsAre us ns
  | [], us, ns, r, e => by simp only [RVs] at r; subst r; cases e; exact .nil
  | v :: xs, us, ns, r, e => by
    simp only [RVs] at r
    obtain ⟨u, q, rfl, r1, r2⟩ := r
    cases v with
    | int i =>
      simp only [intsD, Option.map_eq_some_iff] at e
      obtain ⟨cs, e1, rfl⟩ := e
      obtain ⟨t, rfl⟩ := r1
      exact .cons _ _ (intsD_are r2 e1)
    | _ => cases e
section
variable {X : Cx} {σ : Sl} {m m' : Store} {ρ ρ1 ρ' : Rho} {s s1 s' : Shared} {a b c : Expr} {f g k : EV} {E : Value → Shared → Prop} {pos : Pos}
def rLt : D → D → Store → Res D := fun v w m => match v, w with
  | .int i, .int j => .ok (.bl (decide (i < j))) m
  | .tup xs, .tup ys => (match intsD xs, intsD ys with
    | some ns, some ms => .ok (.bl (HT.lexLt ns ms)) m
    | _, _ => .bad)
  | _, _ => .bad
theorem o_lt : O2 X (compareOp .Lt) rLt := ⟨fun σ m ρ s v w u x Q E I ru rx h => by
  unfold rLt at h
  split at h
  · exact o_ltI.run σ m ρ s _ _ u x Q E I ru rx h
  · rename_i xs ys
    split at h
    · rename_i ns ms e1 e2
      simp only [RV] at ru rx
      obtain ⟨a, us, rfl, ⟨t1, _⟩, _, r1⟩ := ru
      obtain ⟨b, ws, rfl, ⟨t2, _⟩, _, r2⟩ := rx
      have hu := I.ok.hu
      exact HT.lt_tupInts t1 t2 (by simpa using intsD_are r1 e1) (by simpa using intsD_are r2 e2) (by omega) (h _ s ρ I Kp.refl rfl)
    · exact h.elim
  · exact h.elim⟩

/-! ### list(d.items()) -/
def itemsD (kvs : List (D × D)) : List D := kvs.map fun p => .tup [p.1, p.2]
def eItems (f : EV) : EV := fun σ m => (f σ m).bind fun v m1 => match v with
  | .ref i => (match m1.cs[i]? with
    | some (.dct kvs) => if lkAll kvs = true then .ok (.ref m1.nx) (m1.push (.lst (itemsD kvs))) else .bad
    | _ => .bad)
  | _ => .bad
theorem lk_rv {ρ : Rho} {h : Heap} {P : Program} {w : World} {v : D} {u : Value} {k : L2.Key} (e : lk v = some k) (r : (keyS P w).is k u = true) : RV ρ h v u := by
  have r' : L2.keyIs k u = true := r
  rcases L2.keyIs_shape r' with ⟨i, t, e1, e2⟩ | ⟨x, t, e1, e2⟩
  · subst e1
    cases v with
    | int j => cases e; exact ⟨t, e2⟩
    | str y => cases e
    | _ => cases e
  · subst e1
    cases v with
    | int j => cases e
    | str y =>
      simp only [lk, Option.some.injEq, Sum.inr.injEq] at e
      exact ⟨t, by rw [e]; exact e2⟩
    | _ => cases e
theorem items_rv {P : Program} {w : World} {ρ : Rho} {h : Heap} {kvs : List (D × D)} {ys : List (L2.Key × Value)} (fr : Paired (LfR ρ h) kvs ys) : ∀ (as : List Addr), as.length = ys.length → (∀ a ∈ as, NotIn ρ a) →
    (∀ (j : Nat) (a : Addr), as[j]? = some a → ∃ key k x, ys[j]? = some (k, x) ∧ (keyS P w).is k key = true ∧ h.get? a = some { cls := .type "tuple", data := .seq #[key, x] }) → RVs ρ h (itemsD kvs) (as.map Value.ref) := by
  unfold itemsD
  induction fr with
  | nil =>
    intro as hl _ _
    cases as with
    | nil => exact RVs.nil
    | cons _ _ => cases hl
  | @cons x y l l' r0 _ ih =>
    intro as hl above prs
    cases as with
    | nil => cases hl
    | cons a as =>
      rw [List.map_cons, List.map_cons]
      refine RVs.cons ?_ (ih as (by simpa using hl) (fun b hb => above b (.tail _ hb)) (fun j b e => prs (j + 1) b (by simpa using e)))
      obtain ⟨key, k, xv, f1, f2, f3⟩ := prs 0 a rfl
      cases f1
      simp only [RV]
      exact ⟨a, [key, xv], rfl, ⟨⟨_, f3, rfl, _, rfl⟩, above a (.head _)⟩, by show 2 ≤ sizeLine; decide, RVs.cons (lk_rv r0.1 f2) (RVs.cons r0.2 RVs.nil)⟩
theorem se_items {e : Expr} {p apos cpos : Pos} (hc : X.calm = true) (he : SE X e f) (hx : Nam X "list" (.type "list")) (hbase : attributeBase e "items" X.env (eval e X.env) = eval e X.env) (hline : (apos.endLine == cpos.line) = true) :
    SE X (.Call (.Name "list" p) [.Call (.Attribute e "items" apos) [] [] cpos] [] pos) (eItems f) := by
  refine ⟨fun σ m ρ s Q E I h => ?_⟩
  refine wpAny_Call_Name_kw (hx.ld σ m ρ s p _ E I ?_)
  have hs : starEach [.Call (.Attribute e "items" apos) [] [] cpos] X.env = (false, eval (.Call (.Attribute e "items" apos) [] [] cpos) X.env) :: starEach [] X.env := rfl
  refine PyProof.Rows.callWith_type1 ?_ hs rfl
  rw [hs]
  show wpAny _ _ (spliced ((false, eval (.Call (.Attribute e "items" apos) [] [] cpos) X.env) :: backTo pos (starEach [] X.env))) _ _ s
  refine Calls.spliced_cons ?_
  refine wpAny_Call_method (T := "dict") (id := "dict.items") hbase rfl hline F.plainAttrs_dict F.slot_dict_items F.type_dict_items (he.bd I h fun v m1 u s1 ρ1 I1 K1 r1 h1 => ?_)
  split at h1
  · rename_i i
    split at h1
    · rename_i kvs ed
      split at h1
      · rename_i hk
        obtain ⟨q, rfl, hp, d⟩ := I1.dct ed r1
        obtain ⟨ys, dd, fr⟩ := d.leaf hk
        obtain ⟨z, hs0, _⟩ := d
        obtain ⟨ep, hat⟩ := dd.dictAt
        have lk0 := fr.length
        obtain ⟨I2, K2⟩ := I1.kept (h' := s1.heap.push { cls := .type "dict_items", data := .fields #[.ref q] }) (t := s1.toks) (fun b ob q => Heap.get?_push_of_some _ q) (by simp)
        refine ⟨dd.typeIs, dd.mapOf.noDict, ?_⟩
        show wpAny _ _ (callWith cpos (.builtin "dict.items") [.ref q] [] []) _ E s1
        refine method_meetsIn F.slot_dict_items F.entry_dict_items rfl (PySem.evalArgs_none ⟨rfl, dd.typeIs, F.args_dict_items_1 _, _, meets_dict_items (keyS X.G.P X.G.w) q hs0, ⟨ys, dd⟩, ?_⟩)
        refine Calls.spliced_nil ?_
        refine wpAny_hz (PySem.W.kdx_call (knd := keyS X.G.P X.G.w) (kvs := ys) (ep := ep) (I1.ok.hd hc) ⟨_, Heap.get?_push_size _ rfl, rfl, rfl⟩ (hat.push _) (by omega) fun h' tk acc c as hk hS hl hG hacc sz => ?_)
        obtain ⟨I3, K3⟩ := I2.kept (h' := h') (t := tk) hk sz
        have lo : (s1.heap.push { cls := .type "dict_items", data := .fields #[.ref q] }).objs.size ≤ h'.objs.size := sz
        have rv : RVs ρ1 h' (itemsD kvs) (as.map Value.ref) := items_rv (Paired.imp2 fr fun a b z => ⟨z.1, RV.mono (RhoK.refl _) (K2.trans K3).tups _ _ z.2⟩) as hl (fun a ha => I2.S.fresh (Nat.le_of_lt (hG.above a ha))) hG.pairs
        have tkS : TupK ρ1 (ρ1 ++ [((s1.heap.push { cls := .type "dict_items", data := .fields #[.ref q] }).objs.size, (s1.heap.push { cls := .type "dict_items", data := .fields #[.ref q] }).objs.size)]) h' h' := fun b us ⟨t, n⟩ => ⟨t, NotIn.app.mpr ⟨n, fun p hp => by
          rw [List.mem_singleton.mp hp]
          have : b ≠ (s1.heap.push { cls := .type "dict_items", data := .fields #[.ref q] }).objs.size := fun z => by
            obtain ⟨o, e, c, _⟩ := t
            rw [z] at e
            have := hS.symm.trans e
            cases this
            exact absurd c (by simp)
          exact ⟨this, this⟩⟩⟩
        have el : (itemsD kvs).length = kvs.length := List.length_map ..
        obtain ⟨I4, K4⟩ := I2.laid (t := tk) (c := .lst (itemsD kvs)) hk sz (Nat.le_refl _) ⟨rfl, by rw [el]; exact z, as.map Value.ref, c, RVs.mono (RhoK.app _ _) tkS _ _ rv, by rw [← hacc, Array.toArray_toList]; exact hS⟩
        exact h1 _ _ _ I4 (K1.trans (K2.trans K4)) ⟨_, _, nx_rho I2, rfl⟩
      · exact h1.elim
    · exact h1.elim
  · exact h1.elim
end
end Z

set_option Elab.async false
set_option linter.all false
set_option maxRecDepth 100000
/-! the engine, part ZZb: a law's row from the meaning of its def law -/
namespace Z
open PySem PySem.Spec PyProof.Rows
open L2 (frs)

def glOf (P : Program) (w : World) (K : PySem.W.Frag) (mg : Str → Option Value) (lams : Nat → Lam) (nms : Nat → Nat → Nat → Str) (tabs : List Addr) (base : Heap) (os : OsState) : Gl := ⟨P, w, K, mg, base, os, lams, nms, fun i => tabs.getD i 0⟩
/-- the store at law's call: T tables, the script -/
def start (T : Nat) (ns : List Int) : Store := ⟨(List.range T).map Cel.tbl ++ [.frz (ns.map D.int)], T + 1⟩
theorem ints_rv {ρ : Rho} {h : Heap} : ∀ {vs : List Value} {ns : List Int}, IntsAre vs ns → RVs ρ h (ns.map D.int) vs
  | _, _, .nil => RVs.nil
  | _, _, .cons i t r => RVs.cons ⟨t, rfl⟩ (ints_rv r)
theorem law_callZ {P : Program} {w : World} {K : PySem.W.Frag} {mg mb : Str → Option Value} {k : Nat} {fa a : Addr} {cs : List (Addr × Addr)} {fd : FuncData} {x : Str} {r : List D → Store → Res D} {s₁ : Shared} {vs : List Value} {ns : List Int} {lams : Nat → Lam} {nms : Nat → Nat → Nat → Str}
    (KX : K.In s₁.heap) (hns : s₁.heap.Ns mainGlobals mg) (hb : s₁.heap.Ns builtinsNs mb) (hbb : ∀ x : Str, x ≠ "__name__" → mb x = bootBuiltins x) (hlim : s₁.heap.NoLimit) (hg : s₁.gens = #[])
    (hT : ∀ p ∈ cs, s₁.heap.get? p.2 = some { cls := .none, data := .fields #[] }) (nT : ∀ p ∈ cs, K.lookup p.2 = none) (C : ∀ p ∈ cs, PySem.W.CodeHd s₁.heap p.1 p.2) (nd : (cs.map (·.2)).Nodup)
    (hbm : ∃ (bm : Addr) (ob : Obj), mg "__builtins__" = some (.ref bm) ∧ bm ≠ builtinsNs ∧ s₁.heap.get? bm = some ob ∧ ob.cls = .type "module" ∧ ob.dict = some builtinsNs ∧ ob.data = .plain)
    (ha : s₁.heap.get? a = some { cls := .type "list", data := .seq vs.toArray }) (hi : IntsAre vs ns) (hl : ns.length ≤ sizeLine) (hr : L2.Room k callerA)
    (F : ∀ (base : Heap) (os : OsState), (glOf P w K mg lams nms (cs.map (·.2)) base os).Ok → (∀ p ∈ cs, LamX.TabB base mg p.1 p.2) → FnZ (glOf P w K mg lams nms (cs.map (·.2)) base os) k fa fd [x] r) (hbind : ∀ (s : Shared) (u : Value), BindsTo s fd ⟨[u], []⟩ [(x, u)])
    (hsp : ∃ m', r [.ref cs.length] (start cs.length ns) = .ok (.bl true) m' ∧ cs.length ≤ m'.low) :
    codeAny (model P w) callerA (.call (.ref fa) ⟨[.ref a], []⟩) (fun r s' => r = .ok (.ret (.bool true)) ∧ OldK s₁.heap s'.heap ∧ s'.os = s₁.os ∧ AllBare s'.gens) s₁ := by
  obtain ⟨tabs, htabs⟩ : ∃ tabs, tabs = cs.map (·.2) := ⟨_, rfl⟩
  have tl : tabs.length = cs.length := by rw [htabs, List.length_map]
  have isT : ∀ b ∈ tabs, s₁.heap.get? b = some { cls := .none, data := .fields #[] } := fun b hb => by
    rw [htabs] at hb
    obtain ⟨p, hp, e⟩ := List.mem_map.mp hb
    rw [← e]
    exact hT p hp
  have memT : ∀ p ∈ cs, p.2 ∈ tabs := fun p hp => by rw [htabs]; exact List.mem_map.mpr ⟨p, hp, rfl⟩
  rw [← htabs] at nd F
  obtain ⟨base, hbase⟩ : ∃ base, base = PySem.W.hideAll s₁.heap tabs := ⟨_, rfl⟩
  -- what is no table stands in the base
  have keep : ∀ {b : Addr} {o : Obj}, s₁.heap.get? b = some o → o.data ≠ .fields #[] → base.get? b = some o := fun {b o} e hd => by
    rw [hbase]
    refine PySem.W.hideAll_get _ e fun hm => ?_
    rw [isT b hm] at e
    cases e
    exact hd rfl
  have keepD : ∀ {b : Addr} {o : Obj} {es : Array DictEntry} {ep : Nat}, s₁.heap.get? b = some o → o.data = .dict es ep → base.get? b = some o := fun e d => keep e fun z => by rw [d] at z; cases z
  have nsK : ∀ {b : Addr} {m : Str → Option Value}, s₁.heap.Ns b m → base.Ns b m := fun {b m} ⟨o, es, ep, e, d, q⟩ => ⟨o, es, ep, keepD e d, d, q⟩
  have hKb : K.In base := fun b o e => by
    rw [hbase]
    refine PySem.W.hideAll_get _ (KX b o e) fun hm => ?_
    rw [htabs] at hm
    obtain ⟨p, hp, ep⟩ := List.mem_map.mp hm
    rw [← ep, nT p hp] at e
    cases e
  have gok : (glOf P w K mg lams nms tabs base s₁.os).Ok := ⟨hKb, nsK hns, ⟨mb, nsK hb, hbb⟩, let ⟨mc, h1, h2⟩ := hlim; ⟨mc, nsK h1, h2⟩⟩
  have TB : ∀ p ∈ cs, LamX.TabB base mg p.1 p.2 := fun p hp => by
    have hTp := hT p hp
    refine ⟨?_, ?_, fun z => ?_⟩
    · obtain ⟨o, us, file, tf, flags, tg, inF, text, tt, e1, r1, r2, r3, rest⟩ := C p hp
      refine ⟨o, us, file, tf, flags, tg, inF, text, tt, keep e1 (fun z => ?_), r1, r2, r3, rest⟩
      rw [r2] at z
      cases z
      simp at r3
    · obtain ⟨bm, ob, b1, b2, b3, b4, b5, b6⟩ := hbm
      refine ⟨bm, ob, b1, b2, fun q => ?_, fun q => ?_, keep b3 (fun z => ?_), b4, b5, b6⟩
      · obtain ⟨o, es, ep, e, hd, _⟩ := hns
        rw [q, e] at b3
        cases b3
        rw [hd] at b6
        cases b6
      · rw [q, hTp] at b3
        cases b3
        cases b6
      · rw [b6] at z
        cases z
    · obtain ⟨o, es, ep, e, hd, _⟩ := hns
      rw [z, hTp] at e
      cases e
      cases hd
  have aT : a ∉ tabs := fun z => by
    have q := (isT a z).symm.trans ha
    have z' : Data.fields #[] = Data.seq vs.toArray _ := congrArg Obj.data (Option.some.inj q)
    cases z'
  obtain ⟨ρ, hρ⟩ : ∃ ρ : Rho, ρ = tabs.map (fun b => (b, b)) ++ [(a, a)] := ⟨_, rfl⟩
  have at1 : ∀ {i : Nat} {p : Addr × Addr}, ρ[i]? = some p → (i < tabs.length ∧ tabs[i]? = some p.1 ∧ p.2 = p.1) ∨ (i = tabs.length ∧ p = (a, a)) := fun {i p} e => by
    rw [hρ] at e
    by_cases h : i < tabs.length
    · rw [List.getElem?_append_left (by rw [List.length_map]; exact h), List.getElem?_map] at e
      obtain ⟨b, hb, e2⟩ := Option.map_eq_some_iff.mp e
      subst e2
      exact .inl ⟨h, hb, rfl⟩
    · rw [List.getElem?_append_right (by rw [List.length_map]; omega), List.length_map] at e
      have h1 := (List.getElem?_eq_some_iff.mp e).1
      have h2 : i = tabs.length := by simp at h1; omega
      subst h2
      simp at e
      exact .inr ⟨rfl, e.symm⟩
  have cel : ∀ {i : Nat} {c : Cel}, (start cs.length ns).cs[i]? = some c → (i < tabs.length ∧ c = .tbl i) ∨ (i = tabs.length ∧ c = .frz (ns.map D.int)) := fun {i c} e => by
    unfold start at e
    dsimp only at e
    rw [tl]
    by_cases h : i < cs.length
    · rw [List.getElem?_append_left (by rw [List.length_map, List.length_range]; exact h), List.getElem?_map, List.getElem?_range h] at e
      exact .inl ⟨h, (Option.some.inj e).symm⟩
    · rw [List.getElem?_append_right (by rw [List.length_map, List.length_range]; omega), List.length_map, List.length_range] at e
      have h1 := (List.getElem?_eq_some_iff.mp e).1
      have h2 : i = cs.length := by simp at h1; omega
      subst h2
      simp at e
      exact .inr ⟨rfl, e.symm⟩
  have S0 : SInv (glOf P w K mg lams nms tabs base s₁.os) [] (start cs.length ns) ρ s₁ := by
    refine ⟨rfl, .of_eq hg, fun b o e => by rw [show (glOf P w K mg lams nms tabs base s₁.os).base = base from rfl, hbase] at e; exact PySem.W.of_hideAll _ e, fun i p c e1 e2 hw => ?_, trivial, fun b hb => absurd (show b ∈ ([] : List Addr) from hb) (by simp), ?_, fun i j p q ne e1 e2 => ?_, fun i p c e1 e2 => ?_⟩
    · rcases cel e2 with ⟨h, rfl⟩ | ⟨h, rfl⟩
      · rcases at1 e1 with ⟨_, h2, h3⟩ | ⟨h2, _⟩
        · have hm := List.mem_of_getElem? h2
          have z : base.get? p.1 = none := by rw [hbase]; exact PySem.W.hideAll_none _ hm
          exact ⟨z, by rw [h3]; exact z⟩
        · omega
      · cases hw
    · rw [hρ]
      unfold start
      simp [tl]
    · have ap : ∀ {p q : Addr × Addr}, p.1 ≠ q.1 → p.2 = p.1 → q.2 = q.1 → p.1 ≠ q.1 ∧ p.1 ≠ q.2 ∧ p.2 ≠ q.1 ∧ p.2 ≠ q.2 := fun h1 h2 h3 => by rw [h2, h3]; exact ⟨h1, h1, h1, h1⟩
      rcases at1 e1 with ⟨h1, h2, h3⟩ | ⟨h1, rfl⟩ <;> rcases at1 e2 with ⟨g1, g2, g3⟩ | ⟨g1, rfl⟩
      · refine ap (fun z => ne ?_) h3 g3
        rw [z] at h2
        exact (List.getElem?_inj h1 nd).mp (h2.trans g2.symm)
      · exact ap (fun z => aT (by rw [← show p.1 = a from z]; exact List.mem_of_getElem? h2)) h3 rfl
      · exact ap (fun z => aT (by rw [show a = q.1 from z]; exact List.mem_of_getElem? g2)) rfl g3
      · omega
    · rcases cel e2 with ⟨h, rfl⟩ | ⟨h, rfl⟩
      · rcases at1 e1 with ⟨_, h2, h3⟩ | ⟨h2, _⟩
        · refine ⟨h3, ?_, #[], isT _ (List.mem_of_getElem? h2), trivial, fun pos cv z => ?_⟩
          · show p.1 = tabs.getD i 0
            rw [List.getD_eq_getElem?_getD, h2]; rfl
          · simp [codeAmong] at z
        · omega
      · rcases at1 e1 with ⟨h2, _⟩ | ⟨_, rfl⟩
        · omega
        · exact ⟨rfl, by rw [List.length_map]; exact hl, vs, 0, ints_rv hi, ha⟩
  have ha0 : ρ[cs.length]? = some (a, a) := by
    rw [hρ, List.getElem?_append_right (by rw [List.length_map]; omega), List.length_map, tl]; simp
  obtain ⟨m', hm', hlow⟩ := hsp
  refine codeAny_mono ((F base s₁.os gok TB).run callerA [] s₁ (start cs.length ns) ρ ⟨[.ref a], []⟩ [.ref a] [.ref cs.length] (fun u s' => u = .bool true ∧ OldK s₁.heap s'.heap ∧ s'.os = s₁.os ∧ AllBare s'.gens) (fun _ _ => False) hr rfl S0 (by unfold start; simp) (hbind s₁ (.ref a)) rfl
    (RVs.cons ⟨a, a, ha0, rfl⟩ RVs.nil) ?_) fun r s' h => ?_
  · rw [hm']
    intro u s' ρ' S' K' rv lk
    obtain rfl : u = .bool true := rv
    have key : ∀ b o, b ∉ tabs → s₁.heap.get? b = some o → s'.heap.get? b = some o := fun b o nb e => S'.base b o (by
      show base.get? b = some o
      rw [hbase]; exact PySem.W.hideAll_get _ e nb)
    have grown : ∀ b ∈ tabs, ∃ more : Array Value, s'.heap.get? b = some { cls := .none, data := .fields more } := fun b hb => by
      obtain ⟨i, hi⟩ := List.mem_iff_getElem?.mp hb
      have hil := (List.getElem?_eq_some_iff.mp hi).1
      have e0 : (start cs.length ns).cs[i]? = some (.tbl i) := by
        unfold start
        dsimp only
        rw [List.getElem?_append_left (by rw [List.length_map, List.length_range]; omega), List.getElem?_map, List.getElem?_range (by omega)]
        rfl
      have e1 : m'.cs[i]? = some (.tbl i) := (lk.eq i (by omega)).trans e0
      obtain ⟨p, _, ck⟩ := S'.at e1
      obtain ⟨_, z, ps, g, _⟩ := ck
      have z2 : p.1 = b := by
        rw [z]
        show tabs.getD i 0 = b
        rw [List.getD_eq_getElem?_getD, hi]; rfl
      rw [z2] at g
      exact ⟨ps, g⟩
    refine ⟨rfl, ⟨fun b o e => ?_, fun b o e => ?_⟩, S'.os, S'.bare⟩
    · by_cases hb : b ∈ tabs
      · have hb' := hb
        rw [htabs] at hb'
        obtain ⟨p, hp, ep⟩ := List.mem_map.mp hb'
        obtain ⟨more, hm⟩ := grown b hb
        rw [isT b hb] at e
        cases e
        refine .inr (.inl ⟨?_, rfl, #[], more, rfl, by rw [Array.empty_append]; exact hm⟩)
        have q := ((C p hp).tab (hT p hp)).isCodeTable
        rwa [ep] at q
      · exact .inl (key b o hb e)
    · by_cases hb : b ∈ tabs
      · obtain ⟨more, hm⟩ := grown b hb
        exact ⟨_, hm⟩
      · exact ⟨o, key b o hb e⟩
  · cases r with
    | error e => exact h.elim
    | ok fl =>
      cases fl with
      | ret u =>
        obtain ⟨rfl, h1, h2, h3⟩ := h
        exact ⟨rfl, h1, h2, h3⟩
      | _ => exact h.elim
/-- what is known of the law at the head's heap h -/
def LawZ (l : PySem.W.OpenLaw) (w : World) (K : PySem.W.Frag) (k n : Nat) (x : Str) (mg : Str → Option Value) (fa : Addr) (h : Heap) : Prop :=
  ∃ (fd : FuncData) (cs : List (Addr × Addr)) (r : List D → Store → Res D) (lams : Nat → Lam) (nms : Nat → Nat → Nat → Str), (∀ p ∈ cs, h.get? p.2 = some { cls := .none, data := .fields #[] }) ∧ (∀ p ∈ cs, K.lookup p.2 = none) ∧ (∀ p ∈ cs, PySem.W.CodeHd h p.1 p.2) ∧ (cs.map (·.2)).Nodup ∧ (∀ (s : Shared) (u : Value), BindsTo s fd ⟨[u], []⟩ [(x, u)]) ∧
    (∀ ns : List Int, ns.length ≤ n → (∀ z ∈ ns, Builtin.Int.intBits z ≤ 1048576) → ∃ m', r [.ref cs.length] (start cs.length ns) = .ok (.bl true) m' ∧ cs.length ≤ m'.low) ∧
    ∀ (base : Heap) (os : OsState), (glOf l.prog w K mg lams nms (cs.map (·.2)) base os).Ok → (∀ p ∈ cs, LamX.TabB base mg p.1 p.2) → FnZ (glOf l.prog w K mg lams nms (cs.map (·.2)) base os) k fa fd [x] r
theorem walkZ {l : PySem.W.OpenLaw} {n k : Nat} {q : Program} {loose : List Str} {XP : (Str → Option Value) → Heap → Prop} {YP : World → Heap → Prop} {d : DefRec} {K : Params → PySem.W.Frag} {x : Str}
    (hn : l.most = some n) (hn2 : n ≤ sizeLine) (hdf : d.params.defaults = []) (hr : L2.Room k callerA) (hY : ∀ (w : World) (h : Heap), YP w h → (K w.params).In h)
    (F : ∀ (w : World) (mg : Str → Option Value) (fa : Addr) (h : Heap), YP w h → (K w.params).In h → h.Ns mainGlobals mg → mg d.name = some (.ref fa) → LawZ l w (K w.params) k n x mg fa h) :
    PySem.W.WalkO q loose XP YP l.row.toRowW d [] (fun f vs => PySem.call f vs) := by
  refine Att.attach_callB hn hdf fun w s₀ s₁ mg mb fa o pm cd doc a vs ns G Y ho hd hcd hmg hobj hints hlen hbits hg => ?_
  have KX := hY w _ Y
  obtain ⟨fd, cs, r, lams, nms, hT, nT, C, nd, hb, hsp, hF⟩ := F w mg fa _ Y KX G.T.g hmg
  exact law_callZ KX G.T.g G.T.b G.T.builtins G.T.nolimit hg hT nT C nd G.T.bmain hobj hints (Nat.le_trans hlen hn2) hr hF hb (hsp ns hlen hbits)
end Z

set_option Elab.async false
set_option linter.all false
set_option maxRecDepth 100000
/-! the engine, part ZZc: y = {..}, what is not covered, defs of the text -/
namespace Z
open PySem PySem.Spec PyProof.Rows
open L2 (frs)

section
variable {X : Cx} {σ σ' : Sl} {m m' : Store} {ρ ρ1 ρ' : Rho} {s s1 s' : Shared} {a b : Expr} {f g : EV} {E : Value → Shared → Prop} {pos : Pos} {tg iter : Expr}
/-- y = {..} on one line, y a local name -/
theorem ss_setDc {i : Nat} {y : Str} {py spos : Pos} {elt vx : Expr} {ifs : List Expr} {scope : Scope} {Nb : List Str} {fr : List (Option Nat)} {wi : Sl → Store → Res It} {g : GV} {t : TV} {f fv : EV} (n : Nat) (hc : X.calm = true) (hy : X.N[i]? = some y) (hyl : X.env.kindOf y = some .local)
    (hsw : swapsWith (.DictComp elt vx [⟨tg, iter, ifs, 0⟩] scope pos) (some (.Name y py)) spos.line X.env = pure true) (hi : SI X tg iter wi) (ok : Blk X scope Nb fr)
    (hg : ∀ cl C, SG (X.blk scope Nb cl C) tg g) (ht : ∀ cl C, STs (X.blk scope Nb cl C) ifs t) (he : ∀ cl C, SE (X.blk scope Nb cl C) elt f) (hv : ∀ cl C, SE (X.blk scope Nb cl C) vx fv) (hs : ∀ x, foldedSetIterable iter X.env x = pure x) :
    SS X (.Assign [.Name y py] (.DictComp elt vx [⟨tg, iter, ifs, 0⟩] scope pos) spos) (sAsg (eDc wi fr g t f fv n) (gName i)) := by
  refine ⟨fun σ m ρ s Q E I h => ?_⟩
  rw [exec_Assign_Name_used _ _ _ _ hsw]
  refine wpAny_bind (wpAny_standAt (wpAny_bind ?_))
  show wpAny _ X.A (do let _ ← comprehension (.DictComp elt vx [⟨tg, iter, ifs, 0⟩] scope pos) scope X.env (firstIterPos [⟨tg, iter, ifs, 0⟩] pos) newDict false (eval iter X.env) (some (assign (.Name y py) X.env))) _ _ s
  have h2 : (eDc wi fr g t f fv n σ m).sat (fun v m1 => (gName i v σ m1).sat X ρ s Q E) (EP X noex σ ρ s E) := by
    have h : ((eDc wi fr g t f fv n σ m).toS σ fun v m1 => gName i v σ m1).sat X ρ s Q E := h
    cases e : eDc wi fr g t f fv n σ m with
    | ok v m1 => rw [e] at h; exact h
    | exc x m1 => rw [e] at h; exact fun u s1 z => h u s1 (z.weak fun _ w => w.elim)
    | bad => rw [e] at h; exact h
  refine wpAny_bind (wpAny_mono (dc_core (use := some (assign (.Name y py) X.env)) (Qf := fun _ s' => Q .next s') n hc I hi ok hg ht he hv hs h2 fun v D C s' m' ρ' mm I' K' r' q hn fC sC => ?_) (fun _ s' hq => wpAny_pure (wpAny_pure hq)) fun _ _ q => q)
  show wpAny _ _ (assign (.Name y py) X.env (.ref D)) _ _ _
  have q : (gName i v σ m').sat X ρ s Q E := q
  unfold gName at q
  cases e : setS i v σ m' with
  | none => rw [e] at q; exact q.elim
  | some p =>
    obtain ⟨σ', m2⟩ := p
    rw [e] at q
    refine wpAny_assign_Name (store_z I' hy (.inl hyl) r' e fun s2 I2 K2 => ?_)
    obtain ⟨o, es, ep, eC, dC, r1, r2⟩ := hn
    have g2 := K2.keep C o eC fC.1 fC.2.1 fC.2.2.1
    refine ⟨mm, ⟨o, es, ep, g2, dC, r1, r2⟩, fun h'' sb => ?_⟩
    have fC2 := fC.on K2 eC
    obtain ⟨I3, K3⟩ := I2.turned (W := [C]) (h' := h'') (t := s2.toks) (fun b o hb e => (sb.2 b (by simpa using hb)).trans e) (Nat.le_of_eq sb.1.symm) fun b hb => by
      rw [List.mem_singleton.mp hb]
      exact .inl ⟨fC2, o, g2, .inr (fun vs k z => by rw [dC] at z; cases z), fun vs z => by rw [dC] at z; cases z⟩
    exact q _ _ I3 ((K'.any.trans K2).young K3 fun c hc => .inr (by rw [List.mem_singleton.mp hc]; exact sC))

/-! ### what is not covered -/
def eBad : EV := fun _ _ => .bad
def tBad : TV := fun _ _ => .bad
def sBad : SV := fun _ _ => .bad
theorem se_bad {e : Expr} : SE X e eBad := ⟨fun _ _ _ _ _ _ _ h => h.elim⟩
theorem st_bad {e : Expr} : ST X e tBad := ⟨fun _ _ _ _ _ _ _ h => h.elim⟩
theorem ss_bad {st : Stmt} : SS X st sBad := ⟨fun _ _ _ _ _ _ _ h => h.elim⟩
theorem sb_bad {st : List Stmt} : SB X st sBad := ⟨fun _ _ _ _ _ _ _ h => h.elim⟩
theorem se_strn {x : Str} {n : Nm} {j : Nat} {pos : Pos} (h : x.cps.toList = n) : SE X (.Constant (.str x) j pos) (eC (.str n)) := h ▸ se_str
end

/-! ### defs of the text -/
structure DefAt (G : Gl) (name : Str) (st : Stmt) (f : Addr) (fd : FuncData) (cd : Value) : Prop where
  mg : G.mg name = some (.ref f)
  code : PySem.W.codeIn G.K cd name = true
  ex : ∃ (oc kV doc pm ct : Value) (od an : Option Addr) (osl : Array (Option Value)), fd = PySem.W.fnOf name name (L2.defArgs st) (L2.defBody st) (L2.defScope st) .none kV doc pm an cd ct ∧ G.K.lookup f = some ⟨oc, od, .func fd, osl⟩
section
variable {G : Gl} {name : Str} {st : Stmt} {f : Addr} {fd : FuncData} {cd : Value} {N ps : List Str} {nb : List Bool} {k : Nat} {bv : SV}
theorem DefAt.fn (D : DefAt G name st f fd cd) (hG : G.Ok) (S : L2.FnScope N ps (L2.defScope st)) (hnb : nb.length = N.length) (hbx : ∀ (i : Nat) x, nb[i]? = some true → N[i]? = some x → (L2.defScope st).names.lookup x = some .cell)
    (hbody : ∀ A outer L c0, L2.Room k (A.deeper (envOfC name (L2.defScope st) L f cd)) → SB (cxF G A outer L N name (L2.defScope st) f cd c0) (L2.defBody st) bv) : FnZ G (k + 1) f fd ps (fnR nb bv) := by
  obtain ⟨oc, kV, doc, pm, ct, od, an, osl, rfl, lk⟩ := D.ex
  exact fn_z hG lk D.code S hnb hbx hbody
theorem DefAt.kb (D : DefAt G name st f fd cd) {np : Nat} {ks : List Str} {perm : List Nat} (h : ∀ (kV doc pm ct : Value) (an : Option Addr), KB (PySem.W.fnOf name name (L2.defArgs st) (L2.defBody st) (L2.defScope st) .none kV doc pm an cd ct) ps np ks perm) : KB fd ps np ks perm := by
  obtain ⟨oc, kV, doc, pm, ct, od, an, osl, rfl, lk⟩ := D.ex
  exact h kV doc pm ct an
theorem DefAt.oc {X : Cx} {j np : Nat} {ks : List Str} {perm : List Nat} {r : List D → Store → Res D} (D : DefAt X.G name st f fd cd) (F : FnZ X.G j f fd ps r) (hr : L2.Room j X.A) (hb : KB fd ps np ks perm) : OC X (.ref f) ks (bindR np ks.length perm r) := by
  obtain ⟨oc, kV, doc, pm, ct, od, an, osl, rfl, lk⟩ := D.ex
  exact oc_fn F hr lk hb
theorem FnZ.bad : FnZ G k f fd ps fun _ _ => .bad := ⟨fun _ _ _ _ _ _ _ _ _ _ _ _ _ _ _ _ _ h => h.elim⟩
end
end Z

set_option Elab.async false
set_option linter.all false
set_option maxRecDepth 100000
/-! the engine, part ZZd: helpers for printed proofs -/
namespace Z
open PySem PySem.Spec PyProof.Rows
open L2 (frs)

/-- a block's names against the frame's scope, decided -/
def blkB (sc scope : Scope) (N Nb : List Str) (fr : List (Option Nat)) : Bool :=
  decide (scope.kind = .function) && scope.names.all (fun y => decide (scope.names.lookup y.1 = some y.2)) && scope.names.all (fun y => !decide (y.2 = .free) || decide (sc.names.lookup y.1 = some .cell) || decide (sc.names.lookup y.1 = some .free)) &&
    decide Nb.Nodup && decide (fr.length = Nb.length) && (Nb.zip fr).all fun p => match p.2 with
      | some j => decide (scope.names.lookup p.1 = some .free) && decide (N[j]? = some p.1)
      | none => decide (scope.names.lookup p.1 = some .local) || decide (scope.names.lookup p.1 = some .cell)
theorem blk_by {X : Cx} {scope : Scope} {Nb : List Str} {fr : List (Option Nat)} (h : blkB X.env.scope scope X.N Nb fr = true) : Blk X scope Nb fr := by
  unfold blkB at h
  simp only [Bool.and_eq_true, List.all_eq_true, decide_eq_true_eq, Bool.or_eq_true, Bool.not_eq_true', decide_eq_false_iff_not] at h
  obtain ⟨⟨⟨⟨⟨h1, h2⟩, h3⟩, h4⟩, h5⟩, h6⟩ := h
  have z : ∀ (i : Nat) x (f : Option Nat), Nb[i]? = some x → fr[i]? = some f → (x, f) ∈ Nb.zip fr := fun i x f e1 e2 => List.mem_of_getElem? (i := i) (by rw [List.getElem?_zip_eq_some]; exact ⟨e1, e2⟩)
  refine ⟨h1, h2, fun y hy e => ?_, h4, h5, fun i j x e1 e2 => ?_, fun i x e1 e2 => ?_⟩
  · rcases h3 y hy with (q | q) | q
    · exact absurd e q
    · exact .inl q
    · exact .inr q
  · have := h6 _ (z i x _ e1 e2)
    simpa using this
  · have := h6 _ (z i x _ e1 e2)
    simpa using this
theorem top_cx {G : Gl} {A : Around} {outer : List Env} {L : Addr} {N : List Str} {qual : Str} {scope : Scope} {f : Addr} {cd : Value} {c0 : List Cel} : Top (cxF G A outer L N qual scope f cd c0) := ⟨⟨outer, rfl⟩, rfl⟩
section
variable {X : Cx} {a : Expr} {f : EV} {pos : Pos}
theorem se_attrN {ok : Addr → Bool} {x : Str} {n : Nm} (hx : x = Nm.s n) (ha : SE X a f) (hb : attributeBase a x X.env (eval a X.env) = eval a X.env) (hok : ∀ C, ok C = true → L2.XfC X.G.K C ∧ PySem.W.findIn X.G.K (.ref C) x = some none) : SE X (.Attribute a x pos) (eAttr ok n f) := by
  subst hx
  exact se_attr ha hb hok
end
/-- the parts of a statement, of an expression, by place -/
inductive Pt where
  | s (st : Stmt) | e (x : Expr) | h (x : ExceptHandler) | c (x : Comprehension) | k (x : Keyword)
def Pt.kids : Pt → List Pt
  | .s (.Return (some v) _) => [.e v]
  | .s (.Expr v _) => [.e v]
  | .s (.Assign ts v _) => ts.map .e ++ [.e v]
  | .s (.If t b o _) => .e t :: (b.map .s ++ o.map .s)
  | .s (.While t b o _) => .e t :: (b.map .s ++ o.map .s)
  | .s (.For t i b o _) => .e t :: .e i :: (b.map .s ++ o.map .s)
  | .s (.Try b hs o f _) => b.map .s ++ hs.map .h ++ o.map .s ++ f.map .s
  | .s (.Raise (some v) _ _) => [.e v]
  | .h (.ExceptHandler _ _ b _) => b.map .s
  | .c ⟨t, i, fs, _⟩ => .e t :: .e i :: fs.map .e
  | .k ⟨_, v, _⟩ => [.e v]
  | .e (.Call f as ks _) => .e f :: (as.map .e ++ ks.map .k)
  | .e (.Tuple es _ _) => es.map .e
  | .e (.List es _) => es.map .e
  | .e (.BinOp a _ b _) => [.e a, .e b]
  | .e (.Compare a _ bs _) => .e a :: bs.map .e
  | .e (.BoolOp _ vs _) => vs.map .e
  | .e (.UnaryOp _ a _) => [.e a]
  | .e (.IfExp t a b _) => [.e t, .e a, .e b]
  | .e (.Subscript a b _) => [.e a, .e b]
  | .e (.Attribute a _ _) => [.e a]
  | .e (.ListComp x gs _ _) => .e x :: gs.map .c
  | .e (.DictComp x y gs _ _) => .e x :: .e y :: gs.map .c
  | .e (.Lambda _ b _ _) => [.e b]
  | _ => []
def Pt.at : Pt → List Nat → Pt
  | p, [] => p
  | p, i :: r => match p.kids[i]? with
    | some q => q.at r
    | none => p
def defPt (st : Stmt) (i : Nat) (r : List Nat) : Pt := match (L2.defBody st)[i]? with
  | some s => (Pt.s s).at r
  | none => .s st
def Pt.lam (q : Str) : Pt → Lam
  | .e (.Lambda ps b sc _) => ⟨ps, b, sc, q⟩
  | _ => ⟨⟨[], [], none, [], [], none, []⟩, .Constant .none 0 ⟨0, 0, 0, 0⟩, ⟨.function, [], false, false, []⟩, q⟩
end Z

set_option Elab.async false
set_option linter.all false
set_option maxRecDepth 100000
/-! the engine, part ZZe: a call looks at what its arguments reach alone (a frame rule) -/
namespace Z
open PySem PySem.Spec PyProof.Rows
open L2 (frs)

def Cel.nz : Cel → Bool
  | .zb => false
  | .zd => false
  | _ => true
mutual
theorem okD_ren {p q : Nat → Bool} {t : Nat → Nat} (h : ∀ i, p i = true → q (t i) = true) : ∀ v : D, okD p v = true → okD q (renD t v) = true
  | .non, _ => rfl
  | .bl _, _ => rfl
  | .int _, _ => rfl
  | .str _, _ => rfl
  | .glo _, _ => rfl
  | .ty _, _ => rfl
  | .ref i, o => h i o
  | .tup vs, o => by
    simp only [okD, renD] at o ⊢
    exact okDs_ren h vs o
theorem okDs_ren {p q : Nat → Bool} {t : Nat → Nat} (h : ∀ i, p i = true → q (t i) = true) : ∀ vs : List D, okDs p vs = true → okDs q (renDs t vs) = true
  | [], _ => rfl
  | v :: vs, o => by
    simp only [okDs, renDs, Bool.and_eq_true] at o ⊢
    exact ⟨okD_ren h v o.1, okDs_ren h vs o.2⟩
end
mutual
theorem ren_ren {p : Nat → Bool} {s t : Nat → Nat} (h : ∀ i, p i = true → s (t i) = i) : ∀ v : D, okD p v = true → renD s (renD t v) = v
  | .non, _ => rfl
  | .bl _, _ => rfl
  | .int _, _ => rfl
  | .str _, _ => rfl
  | .glo _, _ => rfl
  | .ty _, _ => rfl
  | .ref i, o => by simp only [renD, h i o]
  | .tup vs, o => by
    simp only [okD, renD] at o ⊢
    rw [rens_rens h vs o]
theorem rens_rens {p : Nat → Bool} {s t : Nat → Nat} (h : ∀ i, p i = true → s (t i) = i) : ∀ vs : List D, okDs p vs = true → renDs s (renDs t vs) = vs
  | [], _ => rfl
  | v :: vs, o => by
    simp only [okDs, Bool.and_eq_true] at o
    simp only [renDs, ren_ren h v o.1, rens_rens h vs o.2]
end
theorem okC_ren {p q : Nat → Bool} {t : Nat → Nat} (h : ∀ i, p i = true → q (t i) = true) (c : Cel) (o : okC p c = true) : okC q (renC t c) = true := by
  cases c with
  | lst vs => exact okDs_ren h vs o
  | frz vs => exact okDs_ren h vs o
  | dct kvs =>
    refine List.all_eq_true.mpr fun x hx => ?_
    obtain ⟨y, hy, rfl⟩ := List.mem_map.mp hx
    have := List.all_eq_true.mp o y hy
    rw [Bool.and_eq_true] at this ⊢
    exact ⟨okD_ren h _ this.1, okD_ren h _ this.2⟩
  | box v =>
    cases v with
    | none => rfl
    | some d => exact okD_ren h d o
  | clo l cs =>
    refine List.all_eq_true.mpr fun x hx => ?_
    obtain ⟨y, hy, rfl⟩ := List.mem_map.mp hx
    exact h _ (List.all_eq_true.mp o y hy)
  | exc C ns vs => exact okDs_ren h vs o
  | tbl l => rfl
  | zb => rfl
  | zd => rfl
theorem renC_renC {p : Nat → Bool} {s t : Nat → Nat} (h : ∀ i, p i = true → s (t i) = i) (c : Cel) (o : okC p c = true) : renC s (renC t c) = c := by
  cases c with
  | lst vs => simp only [renC, rens_rens h vs o]
  | frz vs => simp only [renC, rens_rens h vs o]
  | dct kvs =>
    simp only [renC, List.map_map]
    congr 1
    refine (List.map_congr_left fun x hx => ?_).trans (List.map_id _)
    have := List.all_eq_true.mp o x hx
    rw [Bool.and_eq_true] at this
    show renP s (renP t x) = x
    unfold renP
    rw [ren_ren h _ this.1, ren_ren h _ this.2]
  | box v =>
    cases v with
    | none => rfl
    | some d => simp only [renC, Option.map_some, ren_ren h d o]
  | clo l cs =>
    have : (cs.map t).map s = cs := by
      rw [List.map_map]
      refine (List.map_congr_left fun i hi => ?_).trans (List.map_id _)
      exact h i (List.all_eq_true.mp o i hi)
    simp only [renC, this]
  | exc C ns vs => simp only [renC, rens_rens h vs o]
  | tbl l => rfl
  | zb => rfl
  | zd => rfl
/-- no tuple stands where a cell stands -/
theorem nz_obj {G : Gl} {ρ : Rho} {h : Heap} {p : Addr × Addr} {c : Cel} (x : CelOk G ρ h p c) (z : c.nz = true) : ∀ b, (b = p.1 ∨ b = p.2) → ∃ o, h.get? b = some o ∧ (o.cls ≠ .type "tuple" ∨ ∀ us n, o.data ≠ .seq us n) := by
  have two : ∀ {o : Obj}, p.2 = p.1 → h.get? p.1 = some o → (o.cls ≠ .type "tuple" ∨ ∀ us n, o.data ≠ .seq us n) → ∀ b, (b = p.1 ∨ b = p.2) → ∃ o, h.get? b = some o ∧ (o.cls ≠ .type "tuple" ∨ ∀ us n, o.data ≠ .seq us n) := fun {o} e g q b hb => by
    have : b = p.1 := by rcases hb with hb | hb; exact hb; exact hb.trans e
    subst this
    exact ⟨o, g, q⟩
  cases c with
  | lst vs => obtain ⟨e, z, us, n, y, g⟩ := x; exact two e g (.inl (by simp))
  | frz vs => obtain ⟨e, z, us, n, y, g⟩ := x; exact two e g (.inl (by simp))
  | dct kvs =>
    obtain ⟨e, z, y, g⟩ := x
    rcases g with ⟨ys, ⟨o, es, ep, q, _, d, _⟩, _⟩ | ⟨xs, ⟨o, es, ep, q, _, d, _⟩, _⟩
    · exact two e q (.inr fun us n z => by rw [d] at z; cases z)
    · exact two e q (.inr fun us n z => by rw [d] at z; cases z)
  | box v =>
    obtain ⟨e, y⟩ := x
    cases v with
    | none => obtain ⟨o, g, q⟩ := y; exact two e g (.inr fun us n z => by rw [q] at z; cases z)
    | some d => obtain ⟨u, ⟨o, g, q⟩, y⟩ := y; exact two e g (.inr fun us n z => by rw [q] at z; cases z)
  | clo l cs =>
    obtain ⟨e, pm, c', ctv, cl, g, _⟩ := x
    exact two e g (.inr fun us n z => by cases z)
  | exc C ns vs =>
    obtain ⟨o, g, c, ⟨fv, f⟩, y⟩ := x
    have hc : o.cls ≠ .type "tuple" := by rw [c]; exact fun z => by cases z
    rcases y with ⟨_, _, e, _⟩ | ⟨_, _, us, _, _, ⟨o', es, ep, g', d', _⟩⟩
    · exact two e g (.inl hc)
    · intro b hb
      rcases hb with rfl | rfl
      · exact ⟨o, g, .inl hc⟩
      · exact ⟨o', g', .inr fun us n z => by rw [d'] at z; cases z⟩
  | tbl l =>
    obtain ⟨e, _, ps, g, _⟩ := x
    exact two e g (.inr fun us n z => by cases z)
  | zb => cases z
  | zd => cases z

/-- where the numbers of a lot of cells stand; the new ones from n on -/
def tS (sel : List Nat) (n : Nat) (j : Nat) : Nat := if j < sel.length then sel.getD j 0 else n + (j - sel.length)
/-- the cells sel of m are cs0 -/
structure Sub (m : Store) (sel : List Nat) (cs0 : List Cel) : Prop where
  nd : sel.Nodup
  len : cs0.length = sel.length
  here : ∀ (j i : Nat) c, sel[j]? = some i → cs0[j]? = some c → m.cs[i]? = some (renC (tS sel m.cs.length) c)
  ok : ∀ c ∈ cs0, okC (fun j => decide (j < cs0.length)) c = true
  nz : ∀ c ∈ m.cs, c.nz = true
def Sub.res (m : Store) (sel : List Nat) (m1 : Store) : Store := ⟨m.cs ++ (m1.cs.drop sel.length).map (renC (tS sel m.cs.length)), m.low⟩
section
variable {G : Gl} {stk : List Env} {m m1 : Store} {ρ : Rho} {s s1 : Shared} {sel : List Nat} {cs0 : List Cel}
def rhoS (ρ : Rho) (sel : List Nat) : Rho := sel.map fun i => (ρ[i]?).getD (0, 0)
theorem Sub.get (U : Sub m sel cs0) (S : SInv G stk m ρ s) {j : Nat} {p : Addr × Addr} (e : (rhoS ρ sel)[j]? = some p) : ∃ i c, sel[j]? = some i ∧ ρ[i]? = some p ∧ cs0[j]? = some c ∧ m.cs[i]? = some (renC (tS sel m.cs.length) c) := by
  unfold rhoS at e
  rw [List.getElem?_map] at e
  cases q : sel[j]? with
  | none => rw [q] at e; cases e
  | some i =>
    rw [q] at e
    have hj : j < cs0.length := by rw [U.len]; exact (List.getElem?_eq_some_iff.mp q).1
    have hc : cs0[j]? = some cs0[j] := List.getElem?_eq_getElem hj
    have hi := U.here j i _ q hc
    obtain ⟨p', hp, _⟩ := S.at hi
    simp only [Option.map_some, hp, Option.getD_some, Option.some.injEq] at e
    exact ⟨i, _, rfl, by rw [hp, e], hc, hi⟩
theorem tS_lt {n j i : Nat} (e : sel[j]? = some i) : tS sel n j = i := by
  have := (List.getElem?_eq_some_iff.mp e).1
  unfold tS
  rw [if_pos this, List.getD_eq_getElem?_getD, e, Option.getD_some]
theorem Sub.put (U : Sub m sel cs0) (S : SInv G stk m ρ s) : Mv ρ (rhoS ρ sel) (fun i => sel.contains i) (fun i => idx i sel) := by
  refine ⟨fun i q h e => ?_, fun x hx => ?_⟩
  · have hi : i ∈ sel := by simpa using h
    unfold rhoS
    rw [List.getElem?_map, idx_get hi]
    simp only [Option.map_some, e, Option.getD_some]
  · obtain ⟨j, hj⟩ := List.mem_iff_getElem?.mp hx
    obtain ⟨i, c, _, h, _⟩ := U.get S hj
    exact List.mem_of_getElem? h
theorem Sub.idx (U : Sub m sel cs0) {n j : Nat} (h : decide (j < cs0.length) = true) : idx (tS sel n j) sel = j ∧ sel.contains (tS sel n j) = true := by
  have hj : j < sel.length := by rw [← U.len]; simpa using h
  have e : sel[j]? = some sel[j] := List.getElem?_eq_getElem hj
  have hm : sel[j] ∈ sel := List.getElem_mem hj
  rw [tS_lt e]
  refine ⟨?_, by simpa using hm⟩
  have e2 := idx_get hm
  have hk := (List.getElem?_eq_some_iff.mp e2).1
  exact (List.getElem?_inj hk U.nd).mp (e2.trans e.symm)
theorem Sub.inv (U : Sub m sel cs0) (S : SInv G stk m ρ s) : SInv G stk ⟨cs0, cs0.length⟩ (rhoS ρ sel) s := by
  refine ⟨S.os, S.bare, S.base, fun j p c e1 e2 hw => ?_, S.funs, fun b hb p hp => S.frn b hb p ((U.put S).2 p hp), by unfold rhoS; rw [List.length_map]; exact U.len.symm, fun j j' p q ne e1 e2 => ?_, fun j p c e1 e2 => ?_⟩
  · obtain ⟨i, c', h1, h2, h3, h4⟩ := U.get S e1
    have e2 : cs0[j]? = some c := e2
    rw [h3] at e2; cases e2
    exact S.nbase i p _ h2 h4 (by rw [renC_wr]; exact hw)
  · obtain ⟨i, c, h1, h2, _⟩ := U.get S e1
    obtain ⟨i', c', h1', h2', _⟩ := U.get S e2
    refine S.disj i i' p q (fun z => ne ?_) h2 h2'
    subst z
    have hk := (List.getElem?_eq_some_iff.mp h1).1
    exact (List.getElem?_inj hk U.nd).mp (h1.trans h1'.symm)
  · obtain ⟨i, c', h1, h2, h3, h4⟩ := U.get S e1
    have e2 : cs0[j]? = some c := e2
    rw [h3] at e2; cases e2
    have ok := U.ok c (List.mem_of_getElem? h3)
    have x := ren_cel (U.put S) (okC_ren (fun k hk => (U.idx (n := m.cs.length) hk).2) c ok) (S.cel i p _ h2 h4)
    rwa [renC_renC (fun k hk => (U.idx (n := m.cs.length) hk).1) c ok] at x
theorem Sub.rvs (U : Sub m sel cs0) (S : SInv G stk m ρ s) {vs : List D} {us : List Value} (ok : okDs (fun j => decide (j < cs0.length)) vs = true) (r : RVs ρ s.heap (renDs (tS sel m.cs.length) vs) us) : RVs (rhoS ρ sel) s.heap vs us := by
  have x := ren_rvs (U.put S) _ _ (okDs_ren (fun k hk => (U.idx (n := m.cs.length) hk).2) vs ok) r
  rwa [rens_rens (fun k hk => (U.idx (n := m.cs.length) hk).1) vs ok] at x
theorem Sub.back (U : Sub m sel cs0) (S : SInv G stk m ρ s) {l : Rho} (S1 : SInv G stk m1 (rhoS ρ sel ++ l) s1) (K : Kp (frs stk) noex (rhoS ρ sel) (rhoS ρ sel ++ l) s s1) (L : LowK ⟨cs0, cs0.length⟩ m1) (lo : m1.low = cs0.length) (hl : m.low ≤ m.cs.length) :
    SInv G stk (Sub.res m sel m1) (ρ ++ l) s1 ∧ Kp (frs stk) noex ρ (ρ ++ l) s s1 ∧ LowK m (Sub.res m sel m1) ∧ (∀ vs us, RVs (rhoS ρ sel ++ l) s1.heap vs us → RVs (ρ ++ l) s1.heap (renDs (tS sel m.cs.length) vs) us) := by
  have rl : (rhoS ρ sel).length = sel.length := by unfold rhoS; rw [List.length_map]
  have hρ : ρ.length = m.cs.length := S.len
  have lf : ∀ p ∈ l, s.heap.objs.size ≤ p.1 ∧ s.heap.objs.size ≤ p.2 := by
    obtain ⟨l', e, f⟩ := K.sub
    have e := List.append_cancel_left e
    subst e; exact f
  have nS : ∀ {b}, NotIn ρ b → NotIn (rhoS ρ sel) b := fun n p hp => n p ((U.put S).2 p hp)
  -- the cells that are not looked at
  have hid : ∀ {i : Nat} {p : Addr × Addr}, ρ[i]? = some p → i ∉ sel → ∀ b, (b = p.1 ∨ b = p.2) → NotIn (rhoS ρ sel) b := fun {i p} e ni b hb => NotIn.of fun j q hq => by
    obtain ⟨i', c, h1, h2, _⟩ := U.get S hq
    have ne : i ≠ i' := fun z => ni (by rw [z]; exact List.mem_of_getElem? h1)
    have d := S.disj i i' p q ne e h2
    rcases hb with rfl | rfl
    · exact ⟨d.1, d.2.1⟩
    · exact ⟨d.2.2.1, d.2.2.2⟩
  have hk : ∀ {i : Nat} {p : Addr × Addr}, ρ[i]? = some p → i ∉ sel → ∀ b o, (b = p.1 ∨ b = p.2) → s.heap.get? b = some o → s1.heap.get? b = some o := fun {i p} e ni b o hb ho => by
    refine K.keep b o ho (hid e ni b hb) (fun z => z) fun hf => ?_
    have := (S.frn b hf).get e
    rcases hb with rfl | rfl
    · exact this.1 rfl
    · exact this.2 rfl
  have tk : TupK (rhoS ρ sel ++ l) ((rhoS ρ sel ++ l) ++ ρ) s1.heap s1.heap := fun b us ⟨t, n⟩ => ⟨t, NotIn.app.mpr ⟨n, NotIn.of fun i p e => by
    by_cases hi : i ∈ sel
    · have hm : p ∈ rhoS ρ sel := by
        unfold rhoS
        exact List.mem_map.mpr ⟨i, hi, by rw [e]; rfl⟩
      exact n p (List.mem_append_left _ hm)
    · obtain ⟨c, hc, ck⟩ := S.cl e
      have no := nz_obj ck (U.nz c (List.mem_of_getElem? hc))
      obtain ⟨o, t1, t2, nn, t3⟩ := t
      have bad : ∀ b', (b' = p.1 ∨ b' = p.2) → b ≠ b' := fun b' hb z => by
        subst z
        obtain ⟨o', g, q⟩ := no b hb
        have g1 := hk e hi b o' hb g
        rw [t1] at g1; cases g1
        rcases q with q | q
        · exact q t2
        · exact q _ _ t3
      exact ⟨bad _ (.inl rfl), bad _ (.inr rfl)⟩⟩⟩
  have mv : Mv ((rhoS ρ sel ++ l) ++ ρ) (ρ ++ l) (fun j => decide (j < m1.cs.length)) (tS sel m.cs.length) := by
    refine ⟨fun j q hj e => ?_, fun x hx => ?_⟩
    · have hj : j < m1.cs.length := by simpa using hj
      rw [← S1.len] at hj
      rw [List.getElem?_append_left hj] at e
      by_cases hh : j < sel.length
      · rw [List.getElem?_append_left (by omega)] at e
        obtain ⟨i, c, h1, h2, _⟩ := U.get S e
        rw [tS_lt h1, List.getElem?_append_left (by exact (List.getElem?_eq_some_iff.mp h2).1)]
        exact h2
      · rw [List.getElem?_append_right (by omega)] at e
        unfold tS
        rw [if_neg hh, List.getElem?_append_right (by omega), ← e]
        congr 1; omega
    · rcases List.mem_append.mp hx with h | h
      · exact List.mem_append_right _ h
      · exact List.mem_append_left _ (List.mem_append_right _ h)
  have big : ∀ {p : Addr × Addr} {c : Cel}, CelOk G (rhoS ρ sel ++ l) s1.heap p c → CelOk G (ρ ++ l) s1.heap p (renC (tS sel m.cs.length) c) := fun {p c} x =>
    ren_cel mv (cel_ok (n := m1.cs.length) S1.len x) (x.stay (RhoK.app _ _) tk (fun _ _ _ h => h) (fun _ _ h => h) (Nat.le_refl _))
  have bigv : ∀ vs us, RVs (rhoS ρ sel ++ l) s1.heap vs us → RVs (ρ ++ l) s1.heap (renDs (tS sel m.cs.length) vs) us := fun vs us x =>
    ren_rvs mv _ _ (rvs_ok (n := m1.cs.length) S1.len _ _ x) (RVs.mono (RhoK.app _ _) tk _ _ x)
  have KB : Kp (frs stk) noex ρ (ρ ++ l) s s1 := ⟨⟨l, rfl, lf⟩, K.sz, fun b us ⟨t, n⟩ => ⟨(K.tups b us ⟨t, nS n⟩).1, NotIn.app.mpr ⟨n, by
      obtain ⟨o, t1, _⟩ := t
      exact NotIn.fresh (Heap.lt_size t1) lf⟩⟩, K.codes, fun b o e n => K.keep b o e (nS n), fun b o e n => K.slot b o e (nS n)⟩
  have m1l : m1.cs.length = sel.length + l.length := by rw [← S1.len, List.length_append, rl]
  have ml : ((m1.cs.drop sel.length).map (renC (tS sel m.cs.length))).length = l.length := by rw [List.length_map, List.length_drop]; omega
  have newc : ∀ {k : Nat} {c : Cel}, ((m1.cs.drop sel.length).map (renC (tS sel m.cs.length)))[k]? = some c → ∃ c1, m1.cs[sel.length + k]? = some c1 ∧ c = renC (tS sel m.cs.length) c1 := fun {k c} e => by
    rw [List.getElem?_map, List.getElem?_drop] at e
    cases q : m1.cs[sel.length + k]? with
    | none => rw [q] at e; cases e
    | some c1 => rw [q] at e; cases e; exact ⟨c1, rfl, rfl⟩
  have newr : ∀ {k : Nat} {p : Addr × Addr}, l[k]? = some p → (rhoS ρ sel ++ l)[sel.length + k]? = some p := fun {k p} e => by
    rw [List.getElem?_append_right (by omega), ← e]; congr 1; omega
  have oldlt : ∀ {i : Nat} {p : Addr × Addr}, i < ρ.length → (ρ ++ l)[i]? = some p → ρ[i]? = some p := fun h e => by rwa [List.getElem?_append_left h] at e
  have new : ∀ {i : Nat} {p : Addr × Addr}, ¬ i < ρ.length → (ρ ++ l)[i]? = some p → l[i - ρ.length]? = some p := fun h e => by rwa [List.getElem?_append_right (by omega)] at e
  refine ⟨⟨S1.os, S1.bare, S1.base, fun i p c e1 e2 hw => ?_, S1.funs, fun b hb => ?_, ?_, fun i j p q ne e1 e2 => ?_, fun i p c e1 e2 => ?_⟩, KB, ⟨Nat.le_refl _, ?_, fun i hi => ?_⟩, bigv⟩
  · have e2 : (m.cs ++ (m1.cs.drop sel.length).map (renC (tS sel m.cs.length)))[i]? = some c := e2
    by_cases h : i < ρ.length
    · rw [List.getElem?_append_left (by omega)] at e2
      exact S.nbase i p c (oldlt h e1) e2 hw
    · rw [List.getElem?_append_right (by omega)] at e2
      obtain ⟨c1, h1, rfl⟩ := newc e2
      rw [← hρ] at h1
      exact S1.nbase _ p c1 (newr (new h e1)) h1 (by rw [renC_wr] at hw; exact hw)
  · refine NotIn.app.mpr ⟨S.frn b hb, fun p hp => S1.frn b hb p (List.mem_append_right _ hp)⟩
  · show (ρ ++ l).length = (m.cs ++ _).length
    rw [List.length_append, List.length_append, ml, hρ]
  · have lt := fun {i : Nat} {p : Addr × Addr} (e : ρ[i]? = some p) => S.lt e
    have ge := fun {i : Nat} {p : Addr × Addr} (e : l[i]? = some p) => lf p (List.mem_of_getElem? e)
    by_cases h : i < ρ.length
    · by_cases h' : j < ρ.length
      · exact S.disj i j p q ne (oldlt h e1) (oldlt h' e2)
      · have a := lt (oldlt h e1); have b := ge (new h' e2)
        exact ⟨Nat.ne_of_lt (Nat.lt_of_lt_of_le a.1 b.1), Nat.ne_of_lt (Nat.lt_of_lt_of_le a.1 b.2), Nat.ne_of_lt (Nat.lt_of_lt_of_le a.2 b.1), Nat.ne_of_lt (Nat.lt_of_lt_of_le a.2 b.2)⟩
    · by_cases h' : j < ρ.length
      · have a := ge (new h e1); have b := lt (oldlt h' e2)
        exact ⟨Nat.ne_of_gt (Nat.lt_of_lt_of_le b.1 a.1), Nat.ne_of_gt (Nat.lt_of_lt_of_le b.2 a.1), Nat.ne_of_gt (Nat.lt_of_lt_of_le b.1 a.2), Nat.ne_of_gt (Nat.lt_of_lt_of_le b.2 a.2)⟩
      · exact S1.disj _ _ p q (by omega) (newr (new h e1)) (newr (new h' e2))
  · have e2 : (m.cs ++ (m1.cs.drop sel.length).map (renC (tS sel m.cs.length)))[i]? = some c := e2
    by_cases h : i < ρ.length
    · rw [List.getElem?_append_left (by omega)] at e2
      have e1' := oldlt h e1
      by_cases hi : i ∈ sel
      · obtain ⟨j, hj⟩ := List.mem_iff_getElem?.mp hi
        have hj' : j < sel.length := (List.getElem?_eq_some_iff.mp hj).1
        have hr : (rhoS ρ sel)[j]? = some p := by
          unfold rhoS
          rw [List.getElem?_map, hj]
          simp only [Option.map_some, e1', Option.getD_some]
        obtain ⟨i', c0, h1, h2, h3, h4⟩ := U.get S hr
        rw [hj] at h1; cases h1
        rw [h4] at e2; cases e2
        refine big (S1.cel j p c0 (by rw [List.getElem?_append_left (by omega)]; exact hr) ?_)
        have := L.eq j (by rw [lo, U.len]; exact hj')
        exact this.trans h3
      · refine (S.cel i p c e1' e2).stay KB.rho KB.tups (hk e1' hi) KB.codes KB.sz
    · rw [List.getElem?_append_right (by omega)] at e2
      obtain ⟨c1, h1, rfl⟩ := newc e2
      rw [← hρ] at h1
      exact big (S1.cel _ p c1 (newr (new h e1)) h1)
  · show m.low ≤ (m.cs ++ _).length
    rw [List.length_append]; omega
  · have hi : i < m.low := hi
    show (m.cs ++ _)[i]? = m.cs[i]?
    rw [List.getElem?_append_left (by omega)]
end
/-- what a call makes of a store, by what it makes of the cells that it looks at -/
inductive Fr (r : List D → Store → Res D) (vs : List D) (m : Store) : Res D → Prop
  | bad : Fr r vs m .bad
  | same : Fr r vs m (r vs m)
  | ok {sel : List Nat} {cs0 : List Cel} {vs0 : List D} {v : D} {m1 : Store} (U : Sub m sel cs0) (h : okDs (fun j => decide (j < cs0.length)) vs0 = true) (e : vs = renDs (tS sel m.cs.length) vs0) (h1 : r vs0 ⟨cs0, cs0.length⟩ = .ok v m1) (lo : m1.low = cs0.length) : Fr r vs m (.ok (renD (tS sel m.cs.length) v) (Sub.res m sel m1))
  | exc {sel : List Nat} {cs0 : List Cel} {vs0 : List D} {x : Ex} {m1 : Store} (U : Sub m sel cs0) (h : okDs (fun j => decide (j < cs0.length)) vs0 = true) (e : vs = renDs (tS sel m.cs.length) vs0) (h1 : r vs0 ⟨cs0, cs0.length⟩ = .exc x m1) (lo : m1.low = cs0.length) : Fr r vs m (.exc ⟨x.C, x.ns, renDs (tS sel m.cs.length) x.vs⟩ (Sub.res m sel m1))
theorem FnZ.spec {G : Gl} {k : Nat} {f : Addr} {fd : FuncData} {ps : List Str} {r r' : List D → Store → Res D} (F : FnZ G k f fd ps r) (h : ∀ vs m, Fr r vs m (r' vs m)) : FnZ G k f fd ps r' := by
  refine ⟨fun A stk s m ρ args us vs Q E hr hA S hlow hb hl rv hs => ?_⟩
  have hh := h vs m
  revert hs hh
  generalize r' vs m = res
  intro hs hh
  cases hh with
  | bad => exact hs.elim
  | same => exact F.run A stk s m ρ args us vs Q E hr hA S hlow hb hl rv hs
  | @ok sel cs0 vs0 v m1 U hok e h1 lo =>
    subst e
    refine F.run A stk s ⟨cs0, cs0.length⟩ (rhoS ρ sel) args us vs0 Q E hr hA (U.inv S) (Nat.le_refl _) hb hl (U.rvs S hok rv) ?_
    rw [h1]
    intro u s' ρ' S1 K1 r1 L1
    obtain ⟨l, rfl, _⟩ := id K1.sub
    obtain ⟨SB, KB, LB, bv⟩ := U.back S S1 K1 L1 lo hlow
    have := bv [v] [u] (RVs.cons r1 RVs.nil)
    simp only [renDs, RVs] at this
    obtain ⟨u', q, e, y, rfl⟩ := this
    cases e
    exact hs u s' (ρ ++ l) SB KB y LB
  | @exc sel cs0 vs0 x m1 U hok e h1 lo =>
    subst e
    refine F.run A stk s ⟨cs0, cs0.length⟩ (rhoS ρ sel) args us vs0 Q E hr hA (U.inv S) (Nat.le_refl _) hb hl (U.rvs S hok rv) ?_
    rw [h1]
    intro u s' ⟨a, B, sI, ρ', d, e1, S1, K1, r1, r2, r3, r4, r5, r6, la, na, xf⟩ L1
    obtain ⟨l, rfl, _⟩ := id K1.sub
    obtain ⟨SB, KB, LB, bv⟩ := U.back S S1 K1 L1 lo hlow
    have nn : ∀ {b}, s.heap.objs.size ≤ b → NotIn (rhoS ρ sel ++ l) b → NotIn (ρ ++ l) b := fun hb n => NotIn.app.mpr ⟨S.fresh hb, (NotIn.app.mp n).2⟩
    refine hs u s' ⟨a, B, sI, ρ ++ l, d, e1, SB, KB, r1, r2, r3, r4, r5, r6, la, nn la na, ?_⟩ LB
    rcases xf with ⟨x1, x2, x3⟩ | ⟨dx, us', x1, x2, x3, x4, x5, x6, x7⟩
    · exact .inl ⟨x1, by rw [x2]; rfl, x3⟩
    · exact .inr ⟨dx, us', x1, x2, bv _ _ x3, by rw [x4, renDs_len], nn x7 x5, x6, x7⟩
/-- the numbers of cells that all stay within n -/
theorem reach_flat {cs : List Cel} {n : Nat} : ∀ (f : Nat) (w : List D) (acc : List Nat), okDs (fun i => decide (i < n)) w = true → reach cs n f w acc = acc
  | 0, _, _, _ => by unfold reach; rfl
  | f + 1, [], _, _ => by unfold reach; rfl
  | f + 1, v :: w, acc, h => by
    simp only [okDs, Bool.and_eq_true] at h
    have hw := reach_flat (cs := cs) f w acc h.2
    cases v with
    | ref i =>
      have hi : decide (i < n) = true := h.1
      unfold reach
      simp only [hi, Bool.true_or, if_true]
      exact hw
    | tup vs =>
      have h1 : okDs (fun i => decide (i < n)) vs = true := h.1
      unfold reach
      refine reach_flat f _ acc ?_
      clear hw
      have h2 := h.2
      clear h
      induction vs with
      | nil => exact h2
      | cons a r ih =>
        simp only [okDs, Bool.and_eq_true, List.cons_append] at h1 ⊢
        exact ⟨h1.1, ih h1.2⟩
    | _ => unfold reach; exact hw
end Z

set_option Elab.async false
set_option linter.all false
set_option maxRecDepth 100000
/-! the engine, part ZZf: cells told apart, lots of cells, what a call forgets -/
namespace Z
open PySem PySem.Spec PyProof.Rows
open L2 (frs)

/-! ### equal, by looking -/
mutual
def deq : D → D → Bool
  | .non, .non => true
  | .bl a, .bl b => decide (a = b)
  | .int a, .int b => decide (a = b)
  | .str x, .str y => decide (x = y)
  | .ref i, .ref j => decide (i = j)
  | .glo a, .glo b => decide (a = b)
  | .ty a, .ty b => decide (a = b)
  | .tup a, .tup b => deqs a b
  | _, _ => false
def deqs : List D → List D → Bool
  | [], [] => true
  | v :: vs, w :: ws => deq v w && deqs vs ws
  | _, _ => false
end
mutual
theorem deq_ok : ∀ v w : D, deq v w = true → v = w
  | .non, .non, _ => rfl
  | .bl a, .bl b, h => by simp only [deq, decide_eq_true_eq] at h; rw [h]
  | .int a, .int b, h => by simp only [deq, decide_eq_true_eq] at h; rw [h]
  | .str a, .str b, h => by simp only [deq, decide_eq_true_eq] at h; rw [h]
  | .ref a, .ref b, h => by simp only [deq, decide_eq_true_eq] at h; rw [h]
  | .glo a, .glo b, h => by simp only [deq, decide_eq_true_eq] at h; rw [h]
  | .ty a, .ty b, h => by simp only [deq, decide_eq_true_eq] at h; rw [h]
  | .tup a, .tup b, h => by simp only [deq] at h; rw [deqs_ok a b h]
  | .non, .bl _, h | .non, .int _, h | .non, .str _, h | .non, .ref _, h | .non, .glo _, h | .non, .ty _, h | .non, .tup _, h => by simp [deq] at h
  | .bl _, .non, h | .bl _, .int _, h | .bl _, .str _, h | .bl _, .ref _, h | .bl _, .glo _, h | .bl _, .ty _, h | .bl _, .tup _, h => by simp [deq] at h
  | .int _, .non, h | .int _, .bl _, h | .int _, .str _, h | .int _, .ref _, h | .int _, .glo _, h | .int _, .ty _, h | .int _, .tup _, h => by simp [deq] at h
  | .str _, .non, h | .str _, .bl _, h | .str _, .int _, h | .str _, .ref _, h | .str _, .glo _, h | .str _, .ty _, h | .str _, .tup _, h => by simp [deq] at h
  | .ref _, .non, h | .ref _, .bl _, h | .ref _, .int _, h | .ref _, .str _, h | .ref _, .glo _, h | .ref _, .ty _, h | .ref _, .tup _, h => by simp [deq] at h
  | .glo _, .non, h | .glo _, .bl _, h | .glo _, .int _, h | .glo _, .str _, h | .glo _, .ref _, h | .glo _, .ty _, h | .glo _, .tup _, h => by simp [deq] at h
  | .ty _, .non, h | .ty _, .bl _, h | .ty _, .int _, h | .ty _, .str _, h | .ty _, .ref _, h | .ty _, .glo _, h | .ty _, .tup _, h => by simp [deq] at h
  | .tup _, .non, h | .tup _, .bl _, h | .tup _, .int _, h | .tup _, .str _, h | .tup _, .ref _, h | .tup _, .glo _, h | .tup _, .ty _, h => by simp [deq] at h
theorem deqs_ok : ∀ v w : List D, deqs v w = true → v = w
  | [], [], _ => rfl
  | [], _ :: _, h => by simp [deqs] at h
  | _ :: _, [], h => by simp [deqs] at h
  | v :: vs, w :: ws, h => by
    simp only [deqs, Bool.and_eq_true] at h
    rw [deq_ok v w h.1, deqs_ok vs ws h.2]
end
def pseq : List (D × D) → List (D × D) → Bool
  | [], [] => true
  | v :: vs, w :: ws => deq v.1 w.1 && deq v.2 w.2 && pseq vs ws
  | _, _ => false
theorem pseq_ok : ∀ v w, pseq v w = true → v = w
  | [], [], _ => rfl
  | [], _ :: _, h => by simp [pseq] at h
  | _ :: _, [], h => by simp [pseq] at h
  | (a, b) :: vs, (c, d) :: ws, h => by
    simp only [pseq, Bool.and_eq_true] at h
    rw [deq_ok _ _ h.1.1, deq_ok _ _ h.1.2, pseq_ok vs ws h.2]
def ceq : Cel → Cel → Bool
  | .lst a, .lst b => deqs a b
  | .frz a, .frz b => deqs a b
  | .dct a, .dct b => pseq a b
  | .box none, .box none => true
  | .box (some a), .box (some b) => deq a b
  | .clo l a, .clo k b => decide (l = k) && decide (a = b)
  | .exc C a x, .exc C' b y => decide (C = C') && decide (a = b) && deqs x y
  | .tbl l, .tbl k => decide (l = k)
  | .zb, .zb => true
  | .zd, .zd => true
  | _, _ => false
theorem ceq_ok (a b : Cel) (h : ceq a b = true) : a = b := by
  unfold ceq at h
  split at h
  · rw [deqs_ok _ _ h]
  · rw [deqs_ok _ _ h]
  · rw [pseq_ok _ _ h]
  · rfl
  · rw [deq_ok _ _ h]
  · simp only [Bool.and_eq_true, decide_eq_true_eq] at h; rw [h.1, h.2]
  · simp only [Bool.and_eq_true, decide_eq_true_eq] at h; rw [h.1.1, h.1.2, deqs_ok _ _ h.2]
  · simp only [decide_eq_true_eq] at h; rw [h]
  · rfl
  · rfl
  · cases h
def ceqs : List Cel → List Cel → Bool
  | [], [] => true
  | v :: vs, w :: ws => ceq v w && ceqs vs ws
  | _, _ => false
theorem ceqs_ok : ∀ v w, ceqs v w = true → v = w
  | [], [], _ => rfl
  | [], _ :: _, h => by simp [ceqs] at h
  | _ :: _, [], h => by simp [ceqs] at h
  | a :: vs, b :: ws, h => by
    simp only [ceqs, Bool.and_eq_true] at h
    rw [ceq_ok _ _ h.1, ceqs_ok vs ws h.2]
/-- r is v, m -/
def isOk (r : Res D) (v : D) (cs : List Cel) (lo : Nat) : Bool := match r with
  | .ok w m => deq w v && ceqs m.cs cs && decide (m.low = lo)
  | _ => false
theorem isOk_ok {r : Res D} {v : D} {cs : List Cel} {lo : Nat} (h : isOk r v cs lo = true) : r = .ok v ⟨cs, lo⟩ := by
  unfold isOk at h
  split at h
  · rename_i w m
    simp only [Bool.and_eq_true, decide_eq_true_eq] at h
    rw [deq_ok _ _ h.1.1, ← ceqs_ok _ _ h.1.2, ← h.2]
  · cases h
def isExc (r : Res D) (x : Ex) (cs : List Cel) (lo : Nat) : Bool := match r with
  | .exc w m => decide (w.C = x.C) && decide (w.ns = x.ns) && deqs w.vs x.vs && ceqs m.cs cs && decide (m.low = lo)
  | _ => false
theorem isExc_ok {r : Res D} {x : Ex} {cs : List Cel} {lo : Nat} (h : isExc r x cs lo = true) : r = .exc x ⟨cs, lo⟩ := by
  unfold isExc at h
  split at h
  · rename_i w m
    simp only [Bool.and_eq_true, decide_eq_true_eq] at h
    obtain ⟨⟨⟨⟨h1, h2⟩, h3⟩, h4⟩, h5⟩ := h
    have h6 := deqs_ok _ _ h3
    clear h3
    obtain ⟨a, b, c⟩ := w
    obtain ⟨a', b', c'⟩ := x
    dsimp only at h1 h2 h6
    subst h1; subst h2; subst h6
    rw [← ceqs_ok _ _ h4, ← h5]
  · cases h

/-! ### lots of cells -/
mutual
theorem ren_congr {p : Nat → Bool} {s t : Nat → Nat} (h : ∀ i, p i = true → s i = t i) : ∀ v : D, okD p v = true → renD s v = renD t v
  | .non, _ => rfl
  | .bl _, _ => rfl
  | .int _, _ => rfl
  | .str _, _ => rfl
  | .glo _, _ => rfl
  | .ty _, _ => rfl
  | .ref i, o => by simp only [renD, h i o]
  | .tup vs, o => by
    simp only [okD] at o
    simp only [renD, rens_congr h vs o]
theorem rens_congr {p : Nat → Bool} {s t : Nat → Nat} (h : ∀ i, p i = true → s i = t i) : ∀ vs : List D, okDs p vs = true → renDs s vs = renDs t vs
  | [], _ => rfl
  | v :: vs, o => by
    simp only [okDs, Bool.and_eq_true] at o
    simp only [renDs, ren_congr h v o.1, rens_congr h vs o.2]
end
theorem renC_congr {p : Nat → Bool} {s t : Nat → Nat} (h : ∀ i, p i = true → s i = t i) (c : Cel) (o : okC p c = true) : renC s c = renC t c := by
  cases c with
  | lst vs => simp only [renC, rens_congr h vs o]
  | frz vs => simp only [renC, rens_congr h vs o]
  | dct kvs =>
    simp only [renC]
    congr 1
    refine List.map_congr_left fun x hx => ?_
    have := List.all_eq_true.mp o x hx
    rw [Bool.and_eq_true] at this
    unfold renP
    rw [ren_congr h _ this.1, ren_congr h _ this.2]
  | box v =>
    cases v with
    | none => rfl
    | some d => simp only [renC, Option.map_some, ren_congr h d o]
  | clo l cs =>
    have : cs.map s = cs.map t := List.map_congr_left fun i hi => h i (List.all_eq_true.mp o i hi)
    simp only [renC, this]
  | exc C ns vs => simp only [renC, rens_congr h vs o]
  | tbl l => rfl
  | zb => rfl
  | zd => rfl
/-- the numbers of a lot -/
def tP (sel : List Nat) (j : Nat) : Nat := sel.getD j 0
theorem tS_tP {sel : List Nat} {n j k : Nat} (hk : k ≤ sel.length) (h : decide (j < k) = true) : tS sel n j = tP sel j := by
  have : j < k := by simpa using h
  unfold tS tP
  rw [if_pos (by omega)]
theorem tP_app {sel l : List Nat} {j k : Nat} (hk : k ≤ sel.length) (h : decide (j < k) = true) : tP (sel ++ l) j = tP sel j := by
  have : j < k := by simpa using h
  unfold tP
  rw [List.getD_eq_getElem?_getD, List.getD_eq_getElem?_getD, List.getElem?_append_left (by omega)]
def okCs (cs0 : List Cel) : Bool := cs0.all (okC fun j => decide (j < cs0.length))
def NoZ (m : Store) : Prop := ∀ c ∈ m.cs, c.nz = true
/-- all numbers of the store stand in it -/
def WS (m : Store) : Prop := ∀ c ∈ m.cs, okC (fun j => decide (j < m.cs.length)) c = true
/-- the cells sel of m are cs0 -/
structure At (m : Store) (sel : List Nat) (cs0 : List Cel) : Prop where
  nd : sel.Nodup
  len : cs0.length = sel.length
  ok : okCs cs0 = true
  here : ∀ (j i : Nat) c, sel[j]? = some i → cs0[j]? = some c → m.cs[i]? = some (renC (tP sel) c)
theorem At.sub {m : Store} {sel : List Nat} {cs0 : List Cel} (a : At m sel cs0) (nz : NoZ m) : Sub m sel cs0 :=
  ⟨a.nd, a.len, fun j i c h1 h2 => by
    rw [a.here j i c h1 h2, renC_congr (fun k hk => (tS_tP (k := cs0.length) (Nat.le_of_eq a.len) hk).symm) c (List.all_eq_true.mp a.ok c (List.mem_of_getElem? h2))], fun c hc => List.all_eq_true.mp a.ok c hc, nz⟩
theorem At.nil (m : Store) : At m [] [] := ⟨List.nodup_nil, rfl, rfl, fun j i c h => by simp at h⟩
theorem At.keep {m m' : Store} {sel : List Nat} {cs0 : List Cel} (a : At m sel cs0) (h : ∀ i ∈ sel, m'.cs[i]? = m.cs[i]?) : At m' sel cs0 :=
  ⟨a.nd, a.len, a.ok, fun j i c h1 h2 => (h i (List.mem_of_getElem? h1)).trans (a.here j i c h1 h2)⟩
theorem At.lt {m : Store} {sel : List Nat} {cs0 : List Cel} (a : At m sel cs0) {i : Nat} (h : i ∈ sel) : i < m.cs.length := by
  obtain ⟨j, hj⟩ := List.mem_iff_getElem?.mp h
  have h1 : j < cs0.length := by rw [a.len]; exact (List.getElem?_eq_some_iff.mp hj).1
  exact (List.getElem?_eq_some_iff.mp (a.here j i _ hj (List.getElem?_eq_getElem h1))).1
theorem At.one {m : Store} {i : Nat} {c : Cel} (h : m.cs[i]? = some (renC (tP [i]) c)) (ok : okCs [c] = true) : At m [i] [c] :=
  ⟨by simp, rfl, ok, fun j k d h1 h2 => by
    cases j with
    | zero => simp at h1 h2; subst h1; subst h2; exact h
    | succ j => simp at h1⟩
/-- a lot and more -/
theorem At.more {m : Store} {sel sel2 : List Nat} {cs0 cs2 : List Cel} (a : At m sel cs0) (nd : (sel ++ sel2).Nodup) (hl : cs2.length = sel2.length) (ok : okCs (cs0 ++ cs2) = true) (h : ∀ (j i : Nat) c, sel2[j]? = some i → cs2[j]? = some c → m.cs[i]? = some (renC (tP (sel ++ sel2)) c)) : At m (sel ++ sel2) (cs0 ++ cs2) := by
  refine ⟨nd, by rw [List.length_append, List.length_append, a.len, hl], ok, fun j i c h1 h2 => ?_⟩
  by_cases hj : j < sel.length
  · rw [List.getElem?_append_left hj] at h1
    rw [List.getElem?_append_left (by rw [a.len]; exact hj)] at h2
    rw [a.here j i c h1 h2, renC_congr (fun k hk => (tP_app (k := cs0.length) (Nat.le_of_eq a.len) hk).symm) c (List.all_eq_true.mp a.ok c (List.mem_of_getElem? h2))]
  · rw [List.getElem?_append_right (by omega)] at h1
    rw [List.getElem?_append_right (by rw [a.len]; omega), a.len] at h2
    exact h _ i c h1 h2
/-- a value over a lot -/
theorem At.val {m : Store} {sel : List Nat} {cs0 : List Cel} (a : At m sel cs0) {v : D} (ok : okD (fun j => decide (j < cs0.length)) v = true) (n : Nat) : renD (tS sel n) v = renD (tP sel) v :=
  ren_congr (fun k hk => tS_tP (k := cs0.length) (Nat.le_of_eq a.len) hk) v ok
theorem At.vals {m : Store} {sel : List Nat} {cs0 : List Cel} (a : At m sel cs0) {vs : List D} (ok : okDs (fun j => decide (j < cs0.length)) vs = true) (n : Nat) : renDs (tS sel n) vs = renDs (tP sel) vs :=
  rens_congr (fun k hk => tS_tP (k := cs0.length) (Nat.le_of_eq a.len) hk) vs ok
/-- a call that makes and writes nothing -/
theorem Fr.pure {r : List D → Store → Res D} {m : Store} {sel : List Nat} {cs0 : List Cel} {vs vs0 : List D} {v0 v : D} (a : At m sel cs0) (nz : NoZ m) (h : okDs (fun j => decide (j < cs0.length)) vs0 = true) (e : vs = renDs (tP sel) vs0) (hv : okD (fun j => decide (j < cs0.length)) v0 = true) (ev : v = renD (tP sel) v0)
    (h1 : r vs0 ⟨cs0, cs0.length⟩ = .ok v0 ⟨cs0, cs0.length⟩) : Fr r vs m (.ok v m) := by
  have x := Fr.ok (r := r) (vs := vs) (a.sub nz) h (by rw [e, a.vals h]) h1 rfl
  rw [a.val hv] at x
  have : Sub.res m sel ⟨cs0, cs0.length⟩ = m := by
    unfold Sub.res
    rw [← a.len]
    simp
  rw [this, ← ev] at x
  exact x
/-- ... and lets an exception out -/
theorem Fr.pureX {r : List D → Store → Res D} {m : Store} {sel : List Nat} {cs0 : List Cel} {vs vs0 : List D} {C : Addr} {ns : List Nm} {xs0 xs : List D} (a : At m sel cs0) (nz : NoZ m) (h : okDs (fun j => decide (j < cs0.length)) vs0 = true) (e : vs = renDs (tP sel) vs0) (hv : okDs (fun j => decide (j < cs0.length)) xs0 = true) (ev : xs = renDs (tP sel) xs0)
    (h1 : r vs0 ⟨cs0, cs0.length⟩ = .exc ⟨C, ns, xs0⟩ ⟨cs0, cs0.length⟩) : Fr r vs m (.exc ⟨C, ns, xs⟩ m) := by
  have x := Fr.exc (r := r) (vs := vs) (a.sub nz) h (by rw [e, a.vals h]) h1 rfl
  dsimp only at x
  rw [a.vals hv] at x
  have : Sub.res m sel ⟨cs0, cs0.length⟩ = m := by
    unfold Sub.res
    rw [← a.len]
    simp
  rw [this, ← ev] at x
  exact x
theorem SInv.ws {G : Gl} {stk : List Env} {m : Store} {ρ : Rho} {s : Shared} (S : SInv G stk m ρ s) : WS m := fun c hc => by
  obtain ⟨i, hi⟩ := List.mem_iff_getElem?.mp hc
  obtain ⟨p, _, ck⟩ := S.at hi
  exact cel_ok S.len ck
theorem FnZ.spec' {G : Gl} {k : Nat} {f : Addr} {fd : FuncData} {ps : List Str} {r r' : List D → Store → Res D} (F : FnZ G k f fd ps r) (h : ∀ vs m, WS m → m.low ≤ m.cs.length → okDs (fun i => decide (i < m.cs.length)) vs = true → Fr r vs m (r' vs m)) : FnZ G k f fd ps r' := by
  refine ⟨fun A stk s m ρ args us vs Q E hr hA S hlow hb hl rv hs => ?_⟩
  have hf := h vs m S.ws hlow (rvs_ok S.len _ _ rv)
  open Classical in
  have F2 : FnZ G k f fd ps (fun vs' m' => if hh : Fr r vs' m' (r' vs' m') then r' vs' m' else r vs' m') := F.spec fun vs' m' => by
    split
    · assumption
    · exact .same
  refine F2.run A stk s m ρ args us vs Q E hr hA S hlow hb hl rv ?_
  rw [dif_pos hf]
  exact hs

/-! ### what a call forgets -/
theorem idx_lt {n : Nat} {i : Nat} (h : i < n) : tau n [] i = i := by unfold tau; rw [if_pos h]
theorem okDs_all {p : Nat → Bool} : ∀ {vs : List D}, okDs p vs = true ↔ ∀ v ∈ vs, okD p v = true
  | [] => by simp [okDs]
  | v :: vs => by
    simp only [okDs, Bool.and_eq_true, List.mem_cons, forall_eq_or_imp, okDs_all (vs := vs)]
theorem okDs_append {p : Nat → Bool} {vs ws : List D} : okDs p (vs ++ ws) = true ↔ okDs p vs = true ∧ okDs p ws = true := by
  rw [okDs_all, okDs_all, okDs_all]
  constructor
  · intro h; exact ⟨fun v hv => h v (List.mem_append_left _ hv), fun v hv => h v (List.mem_append_right _ hv)⟩
  · rintro ⟨h1, h2⟩ v hv
    rcases List.mem_append.mp hv with h | h
    · exact h1 v h
    · exact h2 v h
theorem refs_ok {p : Nat → Bool} {c : Cel} (h : okC p c = true) : okDs p c.refs = true := by
  cases c with
  | lst vs => exact h
  | frz vs => exact h
  | dct kvs =>
    refine okDs_append.mpr ⟨okDs_all.mpr fun v hv => ?_, okDs_all.mpr fun v hv => ?_⟩
    · obtain ⟨x, hx, rfl⟩ := List.mem_map.mp hv
      have := List.all_eq_true.mp h x hx
      rw [Bool.and_eq_true] at this
      exact this.1
    · obtain ⟨x, hx, rfl⟩ := List.mem_map.mp hv
      have := List.all_eq_true.mp h x hx
      rw [Bool.and_eq_true] at this
      exact this.2
  | box v =>
    cases v with
    | none => rfl
    | some d =>
      refine okDs_all.mpr fun v hv => ?_
      have hd : v = d := by simpa [Cel.refs] using hv
      rw [hd]; exact h
  | clo l cs =>
    refine okDs_all.mpr fun v hv => ?_
    obtain ⟨x, hx, rfl⟩ := List.mem_map.mp hv
    exact List.all_eq_true.mp h x hx
  | exc C ns vs => exact h
  | tbl l => rfl
  | zb => rfl
  | zd => rfl
/-- nothing new is told: the new cells are forgotten -/
theorem gc_flat {n lo : Nat} {vs : List D} {cs l : List Cel} {low : Nat} (hn : cs.length = n) (hw : ∀ c ∈ cs, okC (fun j => decide (j < n)) c = true) (hv : okDs (fun j => decide (j < n)) vs = true) : gcS n lo vs ⟨cs ++ l, low⟩ = (vs, ⟨cs, min lo low⟩) := by
  have t1 : (cs ++ l).take n = cs := by rw [List.take_append_of_le_length (by omega), List.take_of_length_le (by omega)]
  have hmid : ∀ c ∈ cs.drop low, okC (fun j => decide (j < n)) c = true := fun c hc => hw c (List.mem_of_mem_drop hc)
  have hr : reach (cs ++ l) n 100000 (vs ++ ((cs.drop low).map Cel.refs).flatten) [] = [] := reach_flat _ _ _ (okDs_append.mpr ⟨hv, okDs_all.mpr fun v hv => by
    obtain ⟨r, hr, hv⟩ := List.mem_flatten.mp hv
    obtain ⟨c, hc, rfl⟩ := List.mem_map.mp hr
    exact okDs_all.mp (refs_ok (hmid c hc)) v hv⟩)
  have hk : ∀ i, decide (i < n) = true → kept n [] i = true := fun i h => by unfold kept; rw [h]; rfl
  have idt : ∀ i, i < n → tau n [] i = i := fun i h => idx_lt h
  have hg : gcOk n (cs ++ l) (cs.drop low) [] vs = true := by
    unfold gcOk
    have e : (kept n []) = fun j => decide (j < n) := by funext j; simp [kept]
    simp only [nds, List.all_nil, e, hv, Bool.true_and, Bool.and_true]
    exact List.all_eq_true.mpr hmid
  have hm : (cs.drop low).map (renC (tau n [])) = cs.drop low := (List.map_congr_left fun c hc => renC_id idt c (hmid c hc)).trans (List.map_id _)
  unfold gcS
  simp only [t1, hr, hg, if_true, hm, rens_id idt vs hv, List.map_nil, List.append_nil, List.take_append_drop]
theorem gc_one {n lo : Nat} {v : D} {m1 : Store} (h : okD (fun _ => false) v = true) : ∃ m2, gcS n lo [v] m1 = ([v], m2) ∧ m2.low = min lo m1.low := by
  unfold gcS
  dsimp only
  split
  · refine ⟨_, Prod.ext ?_ rfl, rfl⟩
    simp only [renDs]
    rw [ren_congr (t := id) (fun _ h => by cases h) v h]
    congr 1
    exact ren_id (n := 0) (fun i h => by omega) v (okD_imp (fun i h => by cases h) v h)
  · exact ⟨_, rfl, rfl⟩
end Z

set_option Elab.async false
set_option linter.all false
set_option maxRecDepth 100000
/-! the engine, part ZZg: asks and pairs of lists over a lot of cells -/
namespace Z
open PySem PySem.Spec PyProof.Rows
open L2 (frs)

theorem tP_at {sel l : List Nat} {k i : Nat} (h : l[k]? = some i) : tP (sel ++ l) (sel.length + k) = i := by
  unfold tP
  rw [List.getD_eq_getElem?_getD, List.getElem?_append_right (by omega)]
  rw [Nat.add_sub_cancel_left, h, Option.getD_some]
theorem tP_at0 {sel l : List Nat} {i : Nat} (h : l[0]? = some i) : tP (sel ++ l) sel.length = i := tP_at (k := 0) h
theorem At.ren {m : Store} {sel l : List Nat} {cs0 : List Cel} (a : At m sel cs0) {v : D} (ok : okD (fun j => decide (j < cs0.length)) v = true) : renD (tP (sel ++ l)) v = renD (tP sel) v :=
  ren_congr (fun k hk => tP_app (k := cs0.length) (Nat.le_of_eq a.len) hk) v ok
theorem okD_lt {a b : Nat} (h : a ≤ b) {v : D} (o : okD (fun j => decide (j < a)) v = true) : okD (fun j => decide (j < b)) v = true := okD_imp (fun i hi => by simp only [decide_eq_true_eq] at hi ⊢; omega) v o
theorem okDs_lt {a b : Nat} (h : a ≤ b) {v : List D} (o : okDs (fun j => decide (j < a)) v = true) : okDs (fun j => decide (j < b)) v = true := okDs_imp (fun i hi => by simp only [decide_eq_true_eq] at hi ⊢; omega) v o
/-- a closure with one box over a lot -/
theorem At.ask {m : Store} {sel : List Nat} {cs0 : List Cel} {l b c : Nat} {o o0 : D} (a : At m sel cs0) (hs : ∀ i ∈ sel, i ≠ b ∧ i ≠ c) (bc : b ≠ c) (ok : okCs (cs0 ++ [.box (some o0), .clo l [cs0.length]]) = true) (oo : okD (fun j => decide (j < cs0.length)) o0 = true) (eo : o = renD (tP sel) o0)
    (h1 : m.cs[c]? = some (.clo l [b])) (h2 : m.cs[b]? = some (.box (some o))) : At m (sel ++ [b, c]) (cs0 ++ [.box (some o0), .clo l [cs0.length]]) := by
  refine a.more ?_ rfl ok fun j i d e1 e2 => ?_
  · refine List.nodup_append.mpr ⟨a.nd, by simp [bc], fun x hx y hy => ?_⟩
    have := hs x hx
    simp at hy
    rcases hy with rfl | rfl
    · exact this.1
    · exact this.2
  · match j, e1, e2 with
    | 0, e1, e2 =>
      simp at e1 e2; subst e1; subst e2
      rw [h2, eo]
      simp only [renC, Option.map_some, a.ren oo]
    | 1, e1, e2 =>
      simp at e1 e2; subst e1; subst e2
      rw [h1]
      simp only [renC, List.map_cons, List.map_nil]
      rw [a.len, tP_at0 (i := b) (by rfl)]
    | j + 2, e1, e2 => simp at e1
/-- two lists over a lot -/
theorem At.two {m : Store} {sel : List Nat} {cs0 : List Cel} {b c : Nat} {xs ys xs0 ys0 : List D} (a : At m sel cs0) (hs : ∀ i ∈ sel, i ≠ b ∧ i ≠ c) (bc : b ≠ c) (ok : okCs (cs0 ++ [.lst xs0, .lst ys0]) = true) (ox : okDs (fun j => decide (j < cs0.length)) xs0 = true) (oy : okDs (fun j => decide (j < cs0.length)) ys0 = true)
    (ex : xs = renDs (tP sel) xs0) (ey : ys = renDs (tP sel) ys0) (h1 : m.cs[b]? = some (.lst xs)) (h2 : m.cs[c]? = some (.lst ys)) : At m (sel ++ [b, c]) (cs0 ++ [.lst xs0, .lst ys0]) := by
  refine a.more ?_ rfl ok fun j i d e1 e2 => ?_
  · refine List.nodup_append.mpr ⟨a.nd, by simp [bc], fun x hx y hy => ?_⟩
    have := hs x hx
    simp at hy
    rcases hy with rfl | rfl
    · exact this.1
    · exact this.2
  · match j, e1, e2 with
    | 0, e1, e2 =>
      simp at e1 e2; subst e1; subst e2
      rw [h1, ex]
      simp only [renC]
      rw [rens_congr (fun k hk => tP_app (k := cs0.length) (Nat.le_of_eq a.len) hk) _ ox]
    | 1, e1, e2 =>
      simp at e1 e2; subst e1; subst e2
      rw [h2, ey]
      simp only [renC]
      rw [rens_congr (fun k hk => tP_app (k := cs0.length) (Nat.le_of_eq a.len) hk) _ oy]
    | j + 2, e1, e2 => simp at e1
theorem Store.eta (m : Store) : (⟨m.cs, m.low⟩ : Store) = m := rfl
/-- a call without arguments that makes cells -/
theorem Fr.new {r : List D → Store → Res D} {m : Store} {v0 : D} {cs : List Cel} (nz : NoZ m) (h1 : r [] ⟨[], 0⟩ = .ok v0 ⟨cs, 0⟩) : Fr r [] m (.ok (renD (fun j => m.cs.length + j) v0) ⟨m.cs ++ cs.map (renC fun j => m.cs.length + j), m.low⟩) := by
  have x := Fr.ok (r := r) (vs := []) (m := m) (sel := []) (cs0 := []) (vs0 := []) ((At.nil m).sub nz) rfl rfl h1 rfl
  have e : tS [] m.cs.length = fun j => m.cs.length + j := by funext j; simp [tS]
  rw [e] at x
  have e2 : Sub.res m [] ⟨cs, 0⟩ = ⟨m.cs ++ cs.map (renC fun j => m.cs.length + j), m.low⟩ := by unfold Sub.res; rw [e]; rfl
  rw [e2] at x
  exact x
end Z

set_option Elab.async false
set_option linter.all false
set_option maxRecDepth 100000
set_option maxHeartbeats 0
/-! the engine, part ZZh: the laws' stream of numbers -/
namespace Z
open PySem PySem.Spec PyProof.Rows
open L2 (frs)

/-- the stream's two cells among cs -/
def stc (cs : List Cel) (i j : Nat) (js : List Int) (a b c : Int) : List Cel := (cs.set i (.lst [.ref j, .int a, .int b, .int c])).set j (.lst (js.map D.int))
structure Ij (cs : List Cel) (i j : Nat) : Prop where
  hi : i < cs.length
  hj : j < cs.length
  ne : i ≠ j
section
variable {cs gb : List Cel} {i j : Nat} {js js' : List Int} {a b c a' b' c' : Int}
@[simp] theorem stc_len : (stc cs i j js a b c).length = cs.length := by simp [stc]
theorem stc_i (h : Ij cs i j) : (stc cs i j js a b c ++ gb)[i]? = some (.lst [.ref j, .int a, .int b, .int c]) := by
  have := h.hi
  rw [List.getElem?_append_left (by simpa using this)]
  unfold stc
  rw [List.getElem?_set_ne h.ne.symm, List.getElem?_set_self this]
theorem stc_j (h : Ij cs i j) : (stc cs i j js a b c ++ gb)[j]? = some (.lst (js.map D.int)) := by
  have := h.hj
  rw [List.getElem?_append_left (by simpa using this)]
  unfold stc
  rw [List.getElem?_set_self (by simpa using this)]
theorem stc_put (h : Ij cs i j) : (stc cs i j js a b c ++ gb).set i (.lst [.ref j, .int a', .int b', .int c']) = stc cs i j js a' b' c' ++ gb := by
  rw [List.set_append_left _ _ (by simpa using h.hi)]
  congr 1
  unfold stc
  rw [List.set_comm _ _ h.ne.symm, List.set_set]
theorem stc_pop (h : Ij cs i j) : (stc cs i j js a b c ++ gb).set j (.lst (js'.map D.int)) = stc cs i j js' a b c ++ gb := by
  rw [List.set_append_left _ _ (by simpa using h.hj)]
  congr 1
  unfold stc
  rw [List.set_set]
theorem stc_app (h : Ij cs i j) : stc (cs ++ gb) i j js a b c = stc cs i j js a b c ++ gb := by
  unfold stc
  rw [List.set_append_left _ _ h.hi, List.set_append_left _ _ (by simpa using h.hj)]
theorem Ij.app (h : Ij cs i j) : Ij (cs ++ gb) i j := ⟨by have := h.hi; simp; omega, by have := h.hj; simp; omega, h.ne⟩
theorem okDs_ints {p : Nat → Bool} (js : List Int) : okDs p (js.map D.int) = true := okDs_all.mpr fun v hv => by
  obtain ⟨x, _, rfl⟩ := List.mem_map.mp hv
  rfl
theorem stc_ok (h : Ij cs i j) {n : Nat} (hn : j < n) (hw : ∀ c ∈ cs, okC (fun k => decide (k < n)) c = true) : ∀ x ∈ stc cs i j js a b c, okC (fun k => decide (k < n)) x = true := fun x hx => by
  unfold stc at hx
  rcases List.mem_or_eq_of_mem_set hx with hx | rfl
  · rcases List.mem_or_eq_of_mem_set hx with hx | rfl
    · exact hw x hx
    · simp [okC, okDs, okD, hn]
  · exact okDs_ints js
end
/-! ### cells and values by what is known -/
theorem eqv_nil (js : List Int) : PyData.eqv (.list (js.map PyData.int)) (.list []) = decide (js = []) := by
  cases js <;> simp [PyData.eqv, PyData.eqvAll]
theorem omap_ints (m : Store) (n : Nat) : ∀ js : List Int, omap (rd m n) (js.map D.int) = some (js.map PyData.int)
  | [] => rfl
  | x :: r => by
    have : rd m n (.int x) = some (.int x) := by cases n <;> rfl
    simp only [List.map_cons, omap, this, omap_ints m n r]
theorem rd_ints {m : Store} {j : Nat} {js : List Int} (h : m.cs[j]? = some (.lst (js.map D.int))) : rd m 40 (.ref j) = some (.list (js.map PyData.int)) := by
  show (match m.seq? j with | some vs => _ | none => none) = _
  unfold Store.seq?
  rw [h]
  simp only [Cel.seq?, omap_ints]
theorem atI0 {x0 x1 x2 x3 : D} : L2.atI [x0, x1, x2, x3] 0 = some x0 := rfl
theorem atI1 {x0 x1 x2 x3 : D} : L2.atI [x0, x1, x2, x3] 1 = some x1 := rfl
theorem atI2 {x0 x1 x2 x3 : D} : L2.atI [x0, x1, x2, x3] 2 = some x2 := rfl
theorem atI3 {x0 x1 x2 x3 : D} : L2.atI [x0, x1, x2, x3] 3 = some x3 := rfl
theorem get_end {cs gb : List Cel} {c : Cel} : ((cs ++ gb) ++ [c])[(cs ++ gb).length]? = some c := by simp

/-! ### steps -/
section
variable {f g : EV} {fa fk : LV} {t : TV} {b1 b2 : SV} {gv : GV} {σ σ1 : Sl} {m m1 m2 : Store} {v w : D} {vs zs : List D}
theorem k_nx (h : b1 σ m = .nxt σ1 m1) : bCons b1 b2 σ m = b2 σ1 m1 := by unfold bCons; rw [h]; rfl
theorem k_rt (h : b1 σ m = .ret v m1) : bCons b1 b2 σ m = .ret v m1 := by unfold bCons; rw [h]; rfl
theorem k_asg (h : f σ m = .ok v m1) : sAsg f gv σ m = gv v σ m1 := by unfold sAsg; rw [h]; rfl
theorem k_ret (h : f σ m = .ok v m1) : sRet f σ m = .ret v m1 := by unfold sRet; rw [h]; rfl
theorem k_drop (h : f σ m = .ok v m1) : sDrop f σ m = .nxt σ m1 := by unfold sDrop; rw [h]; rfl
theorem k_e2 {r : D → D → Store → Res D} (h1 : f σ m = .ok v m1) (h2 : g σ m1 = .ok w m2) : e2 r f g σ m = r v w m2 := by unfold e2; rw [h1]; show (g σ m1).bind _ = _; rw [h2]; rfl
theorem k_l1 (h : f σ m = .ok v m1) (h2 : fa σ m1 = .ok vs m2) : lCons f fa σ m = .ok (v :: vs) m2 := by unfold lCons; rw [h]; show (fa σ m1).bind _ = _; rw [h2]; rfl
theorem k_call {r : List D → List D → Store → Res D} (h1 : fa σ m = .ok vs m1) (h2 : fk σ m1 = .ok zs m2) : eCall fa fk r σ m = r vs zs m2 := by unfold eCall; rw [h1]; show (fk σ m1).bind _ = _; rw [h2]; rfl
theorem k_meth {r : D → List D → Store → Res D} {T : String} (h1 : f σ m = .ok v m1) (ht : tyOf m1 v = some T) (h2 : fa σ m1 = .ok vs m2) : eMeth T f fa r σ m = r v vs m2 := by
  unfold eMeth; rw [h1]; show (if tyOf m1 v = some T then _ else _) = _; rw [if_pos ht]; show (fa σ m1).bind _ = _; rw [h2]; rfl
theorem k_ts {b : Bool} (h : f σ m = .ok v m1) (ht : truth m1 v = some b) : ts f σ m = .ok b m1 := by unfold ts; rw [h]; show (match truth m1 v with | some b => _ | none => _) = _; rw [ht]
theorem k_if {b : Bool} (h : t σ m = .ok b m1) : sIf t b1 b2 σ m = if b = true then b1 σ m1 else b2 σ m1 := by unfold sIf; rw [h]; rfl
theorem k_eif {b : Bool} (h : t σ m = .ok b m1) : eIf t f g σ m = if b = true then f σ m1 else g σ m1 := by unfold eIf; rw [h]; rfl
theorem k_not {b : Bool} (h : t σ m = .ok b m1) : tNot t σ m = .ok (!b) m1 := by unfold tNot; rw [h]; rfl
end
theorem sm_lit {z : Int} (h1 : -1000000000000000000 < z) (h2 : z < 1000000000000000000) : sm64 z = true := by unfold sm64; simp; omega

def vStream : SV := (bCons (sRet (eLst (lCons (eCall (lCons (eV 0) lNil) lNil (fun vs _ m => rLst vs m)) (lCons (eC (.int 0)) (lCons (eC (.int 0)) (lCons (eC (.int 17)) lNil)))))) bNil)
def dIx (k : Int) : EV := e2 rIx (eV 0) (eC (.int k))
def dCond : TV := tAnd (ts (e2 rEq (dIx 1) (eC (.int 0)))) (ts (e2 rNe (dIx 0) (eLst lNil)))
def dBody : SV := (bCons (sAsg (eCall (lCons (eMeth "list" (dIx 0) (lCons (eC (.int 0)) lNil) rPop) lNil) lNil (fun vs _ m => rAbs vs m)) (gName 2)) (bCons (sAsg (e2 rMod (eCall (lCons (e2 rAdd (e2 rAdd (e2 rMul (dIx 3) (eC (.int 8191))) (eV 2)) (eC (.int 3))) lNil) lNil (fun vs _ m => rInt vs m)) (eC (.int 2147483647))) (gSub (eV 0) (eC (.int 3)))) (bCons (sAsg (eIf (ts (e2 (rLtI pGe) (eV 2) (e2 rPow (eC (.int 10)) (eC (.int 18))))) (eV 2) (eC (.int 0))) (gSub (eV 0) (eC (.int 1)))) bNil)))
def dTail : SV := (bCons (sIf (ts (e2 (rLtI pGt) (dIx 1) (eC (.int 0)))) (bCons (sAsg (e2 rMod (eCall (lCons (dIx 1) lNil) lNil (fun vs _ m => rInt vs m)) (eV 1)) (gName 3)) (bCons (sAsg (e2 rFdv (dIx 1) (eV 1)) (gSub (eV 0) (eC (.int 1)))) (bCons (sRet (eV 3)) bNil))) bNil) (bCons (sAsg (e2 rMod (eCall (lCons (e2 rPow (e2 rAdd (e2 rAdd (dIx 3) (e2 rMul (eC (.int 7919)) (dIx 2))) (eC (.int 104729))) (eC (.int 5))) lNil) lNil (fun vs _ m => rInt vs m)) (eC (.int 2147483629))) (gName 4)) (bCons (sRet (e2 rMod (e2 rMod (eCall (lCons (e2 rPow (e2 rAdd (e2 rAdd (e2 rMul (eV 4) (eC (.int 48271))) (e2 rMul (eC (.int 30011)) (dIx 2))) (eC (.int 29))) (eC (.int 3))) lNil) lNil (fun vs _ m => rInt vs m)) (eC (.int 1000000007))) (eV 1))) bNil)))
def vDraw : SV := (bCons (sAsg (e2 rAdd (dIx 2) (eC (.int 1))) (gSub (eV 0) (eC (.int 2)))) (bCons (sWhile dCond dBody 80) dTail))
abbrev rStream : List D → Store → Res D := fnR [false] vStream
abbrev rDraw : List D → Store → Res D := fnR [false, false, false, false, false] vDraw
section
variable {cs gb : List Cel} {i j lo : Nat} {js : List Int} {a b c : Int} {σ : Sl}
theorem dIx0 (h : Ij cs i j) : dIx 0 (.val (.ref i) :: σ) ⟨stc cs i j js a b c ++ gb, lo⟩ = .ok (.ref j) ⟨stc cs i j js a b c ++ gb, lo⟩ := by
  simp only [dIx, e2, eV, eC, List.getElem?_cons_zero, Res.bind, rIx, stc_i h, atI0]
theorem dIx1 (h : Ij cs i j) : dIx 1 (.val (.ref i) :: σ) ⟨stc cs i j js a b c ++ gb, lo⟩ = .ok (.int a) ⟨stc cs i j js a b c ++ gb, lo⟩ := by
  simp only [dIx, e2, eV, eC, List.getElem?_cons_zero, Res.bind, rIx, stc_i h, atI1]
theorem dIx2 (h : Ij cs i j) : dIx 2 (.val (.ref i) :: σ) ⟨stc cs i j js a b c ++ gb, lo⟩ = .ok (.int b) ⟨stc cs i j js a b c ++ gb, lo⟩ := by
  simp only [dIx, e2, eV, eC, List.getElem?_cons_zero, Res.bind, rIx, stc_i h, atI2]
theorem dIx3 (h : Ij cs i j) : dIx 3 (.val (.ref i) :: σ) ⟨stc cs i j js a b c ++ gb, lo⟩ = .ok (.int c) ⟨stc cs i j js a b c ++ gb, lo⟩ := by
  simp only [dIx, e2, eV, eC, List.getElem?_cons_zero, Res.bind, rIx, stc_i h, atI3]
theorem dSet1 (h : Ij cs i j) (v : Int) : gSub (eV 0) (eC (.int 1)) (.int v) (.val (.ref i) :: σ) ⟨stc cs i j js a b c ++ gb, lo⟩ = .nxt (.val (.ref i) :: σ) ⟨stc cs i j js v b c ++ gb, min lo i⟩ := by
  have : setAt ⟨stc cs i j js a b c ++ gb, lo⟩ (.ref i) (.int 1) (.int v) = some ⟨stc cs i j js v b c ++ gb, min lo i⟩ := by
    unfold setAt
    simp only [stc_i h, Store.put]
    rw [if_pos (by decide), if_pos (by decide), if_pos (by simp)]
    simp only [← stc_put (gb := gb) (js := js) (a := a) (b := b) (c := c) (a' := v) (b' := b) (c' := c) h]
    rfl
  simp only [gSub, eV, eC, List.getElem?_cons_zero, Res.toS, this]
theorem dSet2 (h : Ij cs i j) (v : Int) : gSub (eV 0) (eC (.int 2)) (.int v) (.val (.ref i) :: σ) ⟨stc cs i j js a b c ++ gb, lo⟩ = .nxt (.val (.ref i) :: σ) ⟨stc cs i j js a v c ++ gb, min lo i⟩ := by
  have : setAt ⟨stc cs i j js a b c ++ gb, lo⟩ (.ref i) (.int 2) (.int v) = some ⟨stc cs i j js a v c ++ gb, min lo i⟩ := by
    unfold setAt
    simp only [stc_i h, Store.put]
    rw [if_pos (by decide), if_pos (by decide), if_pos (by simp)]
    simp only [← stc_put (gb := gb) (js := js) (a := a) (b := b) (c := c) (a' := a) (b' := v) (c' := c) h]
    rfl
  simp only [gSub, eV, eC, List.getElem?_cons_zero, Res.toS, this]
theorem dSet3 (h : Ij cs i j) (v : Int) : gSub (eV 0) (eC (.int 3)) (.int v) (.val (.ref i) :: σ) ⟨stc cs i j js a b c ++ gb, lo⟩ = .nxt (.val (.ref i) :: σ) ⟨stc cs i j js a b v ++ gb, min lo i⟩ := by
  have : setAt ⟨stc cs i j js a b c ++ gb, lo⟩ (.ref i) (.int 3) (.int v) = some ⟨stc cs i j js a b v ++ gb, min lo i⟩ := by
    unfold setAt
    simp only [stc_i h, Store.put]
    rw [if_pos (by decide), if_pos (by decide), if_pos (by simp)]
    simp only [← stc_put (gb := gb) (js := js) (a := a) (b := b) (c := c) (a' := a) (b' := b) (c' := v) h]
    rfl
  simp only [gSub, eV, eC, List.getElem?_cons_zero, Res.toS, this]
theorem dCond_eq (h : Ij cs i j) : dCond (.val (.ref i) :: σ) ⟨stc cs i j js a b c ++ gb, lo⟩ = if a = 0 then .ok (decide (js ≠ [])) ⟨stc cs i j js a b c ++ (gb ++ [.lst []]), lo⟩ else .ok false ⟨stc cs i j js a b c ++ gb, lo⟩ := by
  have e1 : (ts (e2 rEq (dIx 1) (eC (.int 0)))) (.val (.ref i) :: σ) ⟨stc cs i j js a b c ++ gb, lo⟩ = .ok (decide (a = 0)) ⟨stc cs i j js a b c ++ gb, lo⟩ := by
    unfold ts
    rw [show e2 rEq (dIx 1) (eC (.int 0)) (.val (.ref i) :: σ) ⟨stc cs i j js a b c ++ gb, lo⟩ = .ok (.bl (decide (a = 0))) ⟨stc cs i j js a b c ++ gb, lo⟩ by
      unfold e2; rw [dIx1 h]; rfl]
    rfl
  unfold dCond tAnd
  rw [e1]
  by_cases ha : a = 0
  · subst ha
    simp only [Res.bind, decide_true, if_true]
    unfold ts
    have e2' : e2 rNe (dIx 0) (eLst lNil) (.val (.ref i) :: σ) ⟨stc cs i j js 0 b c ++ gb, lo⟩ = .ok (.bl (decide (js ≠ []))) ⟨stc cs i j js 0 b c ++ (gb ++ [.lst []]), lo⟩ := by
      unfold e2
      rw [dIx0 h]
      simp only [Res.bind, eLst, lNil, List.length_nil, Nat.zero_le, if_true, Store.push, Store.nx, rNe, peq]
      have r1 : rd ⟨(stc cs i j js 0 b c ++ gb) ++ [.lst []], lo⟩ 40 (.ref j) = some (.list (js.map PyData.int)) := rd_ints (by
        show ((stc cs i j js 0 b c ++ gb) ++ [.lst []])[j]? = _
        rw [List.append_assoc]; exact stc_j h)
      have r2 : rd ⟨(stc cs i j js 0 b c ++ gb) ++ [.lst []], lo⟩ 40 (.ref (stc cs i j js 0 b c ++ gb).length) = some (.list []) := by
        have := rd_ints (m := ⟨(stc cs i j js 0 b c ++ gb) ++ [.lst []], lo⟩) (j := (stc cs i j js 0 b c ++ gb).length) (js := []) get_end
        exact this
      rw [r1, r2]
      simp only [eqv_nil, List.append_assoc]
      congr 2
      simp
    rw [e2']
    rfl
  · simp [ha, Res.bind]

theorem s8191 : sm64 8191 = true := by decide
theorem s48271 : sm64 48271 = true := by decide
theorem s7919 : sm64 7919 = true := by decide
theorem s30011 : sm64 30011 = true := by decide
theorem s10 : sm64 10 = true := by decide
theorem dBody_eq (h : Ij cs i j) (x : Int) (r : List Int) (many s2 s3 s4 : Slot) (l2 : ∀ k, s2 ≠ .box k) : ∃ y lo', 0 ≤ y ∧ min lo (min i j) ≤ lo' ∧ lo' ≤ lo ∧ dBody [.val (.ref i), many, s2, s3, s4] ⟨stc cs i j (x :: r) a b c ++ gb, lo⟩ =
    .nxt [.val (.ref i), many, .val (.int y), s3, s4] ⟨stc cs i j r (if 1000000000000000000 ≤ y then y else 0) b ((c * 8191 + y + 3) % 2147483647) ++ gb, lo'⟩ := by
  obtain ⟨y, hy⟩ : ∃ y, y = (if x < 0 then -x else x) := ⟨_, rfl⟩
  have p1 : eMeth "list" (dIx 0) (lCons (eC (.int 0)) lNil) rPop [.val (.ref i), many, s2, s3, s4] ⟨stc cs i j (x :: r) a b c ++ gb, lo⟩ = .ok (.int x) ⟨stc cs i j r a b c ++ gb, min lo j⟩ := by
    rw [k_meth (dIx0 h) (by simp only [tyOf, stc_j h]) (k_l1 rfl rfl)]
    simp only [rPop, stc_j h]
    rw [if_pos (by decide), show seqIndex? 0 ((List.map D.int (x :: r)).length) = some 0 by simp [seqIndex?]]
    simp only [List.map_cons, List.getElem?_cons_zero, List.eraseIdx_zero, List.tail_cons, Store.put]
    rw [stc_pop h]
  refine ⟨y, min (min (min lo j) i) i, by rw [hy]; split <;> omega, by omega, by omega, ?_⟩
  unfold dBody
  refine (k_nx (σ1 := [.val (.ref i), many, .val (.int y), s3, s4]) (m1 := ⟨stc cs i j r a b c ++ gb, min lo j⟩) ?_).trans ((k_nx (σ1 := [.val (.ref i), many, .val (.int y), s3, s4]) (m1 := ⟨stc cs i j r a b ((c * 8191 + y + 3) % 2147483647) ++ gb, min (min lo j) i⟩) ?_).trans (k_nx (σ1 := [.val (.ref i), many, .val (.int y), s3, s4]) (m1 := ⟨stc cs i j r (if 1000000000000000000 ≤ y then y else 0) b ((c * 8191 + y + 3) % 2147483647) ++ gb, min (min (min lo j) i) i⟩) ?_))
  · refine (k_asg (v := .int y) (m1 := ⟨stc cs i j r a b c ++ gb, min lo j⟩) ?_).trans (by
      cases s2 with
      | un => rfl
      | val v => rfl
      | box k => exact absurd rfl (l2 k))
    refine (k_call (k_l1 p1 rfl) rfl).trans ?_
    simp only [rAbs, ← hy]
  · refine (k_asg (v := .int ((c * 8191 + y + 3) % 2147483647)) (m1 := ⟨stc cs i j r a b c ++ gb, min lo j⟩) ?_).trans (dSet3 h _)
    simp only [sAsg, sRet, e2, eCall, lCons, lNil, eC, eV, eIf, ts, truth, Res.bind, Res.toS, gName, setS, List.getElem?_cons_zero, List.getElem?_cons_succ, List.set_cons_zero, List.set_cons_succ, rAdd, rMul, rMod, rFdv, rInt, rAbs, rLtI, rPow, pGe, pGt, if_true, if_false, or_true, true_or, true_and, and_true, and_self, Int.reduceLE, Int.reduceLT, Int.reduceNeg, Int.reduceToNat, dIx3 h, s8191]
  · refine (k_asg (v := .int (if 1000000000000000000 ≤ y then y else 0)) (m1 := ⟨stc cs i j r a b ((c * 8191 + y + 3) % 2147483647) ++ gb, min (min lo j) i⟩) ?_).trans (dSet1 h _)
    by_cases hh : (1000000000000000000 : Int) ≤ y
    · simp only [sAsg, sRet, e2, eCall, lCons, lNil, eC, eV, eIf, ts, truth, Res.bind, Res.toS, gName, setS, List.getElem?_cons_zero, List.getElem?_cons_succ, List.set_cons_zero, List.set_cons_succ, rAdd, rMul, rMod, rFdv, rInt, rAbs, rLtI, rPow, pGe, pGt, if_true, if_false, or_true, true_or, true_and, and_true, and_self, Int.reduceLE, Int.reduceLT, Int.reduceNeg, Int.reduceToNat, s10, hh]
      simp [hh]
    · simp only [sAsg, sRet, e2, eCall, lCons, lNil, eC, eV, eIf, ts, truth, Res.bind, Res.toS, gName, setS, List.getElem?_cons_zero, List.getElem?_cons_succ, List.set_cons_zero, List.set_cons_succ, rAdd, rMul, rMod, rFdv, rInt, rAbs, rLtI, rPow, pGe, pGt, if_true, if_false, or_true, true_or, true_and, and_true, and_self, Int.reduceLE, Int.reduceLT, Int.reduceNeg, Int.reduceToNat, s10, hh]
      simp [hh]
theorem dWhile_eq (h : Ij cs i j) {many s3 s4 : Slot} {b : Int} : ∀ (n : Nat) (js : List Int) (a c : Int) (gb : List Cel) (lo : Nat) (s2 : Slot), (∀ k, s2 ≠ .box k) → js.length < n → 0 ≤ a → 0 ≤ c → c < 2147483647 → ∃ js' a' c' gb' lo' s2', js'.length ≤ js.length ∧ 0 ≤ a' ∧ 0 ≤ c' ∧ c' < 2147483647 ∧ min lo (min i j) ≤ lo' ∧ lo' ≤ lo ∧
    sWhile dCond dBody n [.val (.ref i), many, s2, s3, s4] ⟨stc cs i j js a b c ++ gb, lo⟩ = .nxt [.val (.ref i), many, s2', s3, s4] ⟨stc cs i j js' a' b c' ++ gb', lo'⟩ := by
  intro n
  induction n with
  | zero => intro js a c gb lo s2 l2 h1; omega
  | succ n ih =>
    intro js a c gb lo s2 ls h1 ha hc hc2
    unfold sWhile
    rw [dCond_eq h]
    by_cases h0 : a = 0
    · rw [if_pos h0]
      cases js with
      | nil => exact ⟨[], a, c, gb ++ [.lst []], lo, s2, Nat.le_refl _, ha, hc, hc2, by omega, Nat.le_refl _, rfl⟩
      | cons x r =>
        obtain ⟨y, lo1, hy, l1, l2, e⟩ := dBody_eq (gb := gb ++ [.lst []]) (a := a) (b := b) (c := c) (lo := lo) h x r many s2 s3 s4 ls
        have hr : r.length < n := by simp at h1; omega
        obtain ⟨js', a', c', gb', lo', s2', q1, q2, q3, q4, q5, q6, q7⟩ := ih r (if 1000000000000000000 ≤ y then y else 0) ((c * 8191 + y + 3) % 2147483647) (gb ++ [.lst []]) lo1 (.val (.int y)) (fun k z => by cases z) hr (by split <;> omega) (by omega) (by omega)
        refine ⟨js', a', c', gb', lo', s2', by simp; omega, q2, q3, q4, by omega, by omega, ?_⟩
        simp only [Res.toS]
        rw [if_pos (by simp), e]
        exact q7
    · rw [if_neg h0]
      exact ⟨js, a, c, gb, lo, s2, Nat.le_refl _, ha, hc, hc2, by omega, Nat.le_refl _, rfl⟩
theorem dTail_eq (h : Ij cs i j) (ha : 0 ≤ a) (hb : 0 ≤ b) (hb2 : b ≤ 1000001) (hc : 0 ≤ c) (hc2 : c < 2147483647) {many : Int} (h1 : 0 < many) (h2 : many < 1073741824) (s2 : Slot) : ∃ d a' lo', 0 ≤ d ∧ d < many ∧ 0 ≤ a' ∧ min lo (min i j) ≤ lo' ∧ lo' ≤ lo ∧
    dTail [.val (.ref i), .val (.int many), s2, .un, .un] ⟨stc cs i j js a b c ++ gb, lo⟩ = .ret (.int d) ⟨stc cs i j js a' b c ++ gb, lo'⟩ := by
  have e0 : (ts (e2 (rLtI pGt) (dIx 1) (eC (.int 0)))) [.val (.ref i), .val (.int many), s2, .un, .un] ⟨stc cs i j js a b c ++ gb, lo⟩ = .ok (decide (0 < a)) ⟨stc cs i j js a b c ++ gb, lo⟩ := by
    simp only [sAsg, sRet, e2, eCall, lCons, lNil, eC, eV, eIf, ts, truth, Res.bind, Res.toS, gName, setS, List.getElem?_cons_zero, List.getElem?_cons_succ, List.set_cons_zero, List.set_cons_succ, rAdd, rMul, rMod, rFdv, rInt, rAbs, rLtI, rPow, pGe, pGt, if_true, if_false, or_true, true_or, true_and, and_true, and_self, Int.reduceLE, Int.reduceLT, Int.reduceNeg, Int.reduceToNat, dIx1 h]
  unfold dTail
  by_cases hp : 0 < a
  · refine ⟨a % many, a / many, min lo i, Int.emod_nonneg _ (by omega), Int.emod_lt_of_pos _ h1, Int.ediv_nonneg ha (by omega), by omega, by omega, ?_⟩
    refine k_rt ?_
    rw [k_if e0, if_pos (by simpa using hp)]
    refine (k_nx (σ1 := [.val (.ref i), .val (.int many), s2, .val (.int (a % many)), .un]) (m1 := ⟨stc cs i j js a b c ++ gb, lo⟩) ?_).trans ((k_nx (σ1 := [.val (.ref i), .val (.int many), s2, .val (.int (a % many)), .un]) (m1 := ⟨stc cs i j js (a / many) b c ++ gb, min lo i⟩) ?_).trans (k_rt (k_ret rfl)))
    · simp only [sAsg, sRet, e2, eCall, lCons, lNil, eC, eV, eIf, ts, truth, Res.bind, Res.toS, gName, setS, List.getElem?_cons_zero, List.getElem?_cons_succ, List.set_cons_zero, List.set_cons_succ, rAdd, rMul, rMod, rFdv, rInt, rAbs, rLtI, rPow, pGe, pGt, if_true, if_false, or_true, true_or, true_and, and_true, and_self, Int.reduceLE, Int.reduceLT, Int.reduceNeg, Int.reduceToNat, dIx1 h, h1]
    · refine (k_asg (v := .int (a / many)) (m1 := ⟨stc cs i j js a b c ++ gb, lo⟩) ?_).trans (dSet1 h _)
      simp only [sAsg, sRet, e2, eCall, lCons, lNil, eC, eV, eIf, ts, truth, Res.bind, Res.toS, gName, setS, List.getElem?_cons_zero, List.getElem?_cons_succ, List.set_cons_zero, List.set_cons_succ, rAdd, rMul, rMod, rFdv, rInt, rAbs, rLtI, rPow, pGe, pGt, if_true, if_false, or_true, true_or, true_and, and_true, and_self, Int.reduceLE, Int.reduceLT, Int.reduceNeg, Int.reduceToNat, dIx1 h, h1, h2]
  · obtain ⟨z, hz⟩ : ∃ z, z = (c + 7919 * b + 104729) ^ 5 % 2147483629 := ⟨_, rfl⟩
    have z0 : 0 ≤ z := by omega
    have z1 : z < 2147483629 := by omega
    refine ⟨(z * 48271 + 30011 * b + 29) ^ 3 % 1000000007 % many, a, lo, Int.emod_nonneg _ (by omega), Int.emod_lt_of_pos _ h1, ha, by omega, Nat.le_refl _, ?_⟩
    refine (k_nx (σ1 := [.val (.ref i), .val (.int many), s2, .un, .un]) (m1 := ⟨stc cs i j js a b c ++ gb, lo⟩) ?_).trans ((k_nx (σ1 := [.val (.ref i), .val (.int many), s2, .un, .val (.int z)]) (m1 := ⟨stc cs i j js a b c ++ gb, lo⟩) ?_).trans (k_rt ?_))
    · rw [k_if e0, if_neg (by simpa using hp)]; rfl
    · have q : sm64 (c + 7919 * b + 104729) = true := sm_lit (by omega) (by omega)
      simp only [sAsg, sRet, e2, eCall, lCons, lNil, eC, eV, eIf, ts, truth, Res.bind, Res.toS, gName, setS, List.getElem?_cons_zero, List.getElem?_cons_succ, List.set_cons_zero, List.set_cons_succ, rAdd, rMul, rMod, rFdv, rInt, rAbs, rLtI, rPow, pGe, pGt, if_true, if_false, or_true, true_or, true_and, and_true, and_self, Int.reduceLE, Int.reduceLT, Int.reduceNeg, Int.reduceToNat, dIx3 h, dIx2 h, s7919, q, hz]
    · have q : sm64 (z * 48271 + 30011 * b + 29) = true := sm_lit (by omega) (by omega)
      simp only [sAsg, sRet, e2, eCall, lCons, lNil, eC, eV, eIf, ts, truth, Res.bind, Res.toS, gName, setS, List.getElem?_cons_zero, List.getElem?_cons_succ, List.set_cons_zero, List.set_cons_succ, rAdd, rMul, rMod, rFdv, rInt, rAbs, rLtI, rPow, pGe, pGt, if_true, if_false, or_true, true_or, true_and, and_true, and_self, Int.reduceLE, Int.reduceLT, Int.reduceNeg, Int.reduceToNat, dIx2 h, s48271, s30011, q, h1]
theorem draw_ok (h : Ij cs i j) (hw : ∀ x ∈ cs, okC (fun k => decide (k < cs.length)) x = true) (hjs : js.length ≤ 63) (ha : 0 ≤ a) (hb : 0 ≤ b) (hb2 : b ≤ 1000000) (hc : 0 ≤ c) (hc2 : c < 2147483647) {many : Int} (h1 : 0 < many) (h2 : many < 1073741824) : ∃ d js' a' c' lo', js'.length ≤ js.length ∧ 0 ≤ d ∧ d < many ∧ 0 ≤ a' ∧ 0 ≤ c' ∧ c' < 2147483647 ∧ min lo (min i j) ≤ lo' ∧ lo' ≤ lo ∧
    rDraw [.ref i, .int many] ⟨stc cs i j js a b c, lo⟩ = .ok (.int d) ⟨stc cs i j js' a' (b + 1) c', lo'⟩ := by
  obtain ⟨js', a', c', gb', lo1, s2', q1, q2, q3, q4, q5, q6, q7⟩ := dWhile_eq h (many := .val (.int many)) (s3 := .un) (s4 := .un) (b := b + 1) 80 js a c [] (min (stc cs i j js a b c).length i) .un (fun k z => by cases z) (by omega) ha hc hc2
  obtain ⟨d, a2, lo2, p1, p2, p3, p4, p5, p6⟩ := dTail_eq (gb := gb') (lo := lo1) (js := js') h q2 (b := b + 1) (by omega) (by omega) q3 q4 h1 h2 s2'
  have hlt := h.hi
  have sl : (stc cs i j js a b c).length = cs.length := stc_len
  refine ⟨d, js', a2, c', min lo lo2, q1, p1, p2, p3, q3, q4, by omega, by omega, ?_⟩
  have body : vDraw (starts [false, false, false, false, false] [.ref i, .int many] (stc cs i j js a b c).length) ⟨stc cs i j js a b c ++ [], (stc cs i j js a b c).length⟩ = .ret (.int d) ⟨stc cs i j js' a2 (b + 1) c' ++ gb', lo2⟩ := by
    show vDraw [.val (.ref i), .val (.int many), .un, .un, .un] _ = _
    unfold vDraw
    refine (k_nx (σ1 := [.val (.ref i), .val (.int many), .un, .un, .un]) (m1 := ⟨stc cs i j js a (b + 1) c ++ [], min (stc cs i j js a b c).length i⟩) ?_).trans ((k_nx q7).trans p6)
    refine (k_asg (v := .int (b + 1)) (m1 := ⟨stc cs i j js a b c ++ [], (stc cs i j js a b c).length⟩) ?_).trans (dSet2 h _)
    simp only [sAsg, sRet, e2, eCall, lCons, lNil, eC, eV, eIf, ts, truth, Res.bind, Res.toS, gName, setS, List.getElem?_cons_zero, List.getElem?_cons_succ, List.set_cons_zero, List.set_cons_succ, rAdd, rMul, rMod, rFdv, rInt, rAbs, rLtI, rPow, pGe, pGt, if_true, if_false, or_true, true_or, true_and, and_true, and_self, Int.reduceLE, Int.reduceLT, Int.reduceNeg, Int.reduceToNat, dIx2 h]
  show fnR _ vDraw _ _ = _
  unfold fnR
  simp only [show startc [false, false, false, false, false] [D.ref i, D.int many] = [] by rfl]
  rw [body]
  dsimp only
  rw [gc_flat (by rw [stc_len, stc_len]) (by rw [stc_len]; exact stc_ok h h.hj hw) (by rfl)]
/-! ### made -/
theorem reach_new {cs : List Cel} {n f k : Nat} {w : List D} {acc : List Nat} {c : Cel} (hk : n ≤ k) (ha : k ∉ acc) (hc : cs[k]? = some c) : reach cs n (f + 1) (.ref k :: w) acc = reach cs n f (c.refs ++ w) (acc ++ [k]) := by
  rw [reach]
  have : (decide (k < n) || acc.contains k) = false := by simp [ha]; omega
  simp only [this, hc]
  rfl
theorem drop_take_all {cs l : List Cel} {n : Nat} (hn : cs.length = n) : ((cs ++ l).take n).drop n = [] := by simp [← hn]
theorem take_take_all {cs l : List Cel} {n : Nat} (hn : cs.length = n) : ((cs ++ l).take n).take n = cs := by simp [← hn]
theorem gc_two {n lo : Nat} {xs ys : List D} (hn : cs.length = n) (hx : okDs (fun _ => false) xs = true) (hy : okDs (fun _ => false) ys = true) : gcS n lo [.ref (n + 1)] ⟨cs ++ [.lst xs, .lst (.ref n :: ys)], n⟩ = ([.ref n], ⟨cs ++ [.lst (.ref (n + 1) :: ys), .lst xs], min lo n⟩) := by
  have g0 : (cs ++ [Cel.lst xs, .lst (.ref n :: ys)])[n]? = some (.lst xs) := by rw [← hn]; simp
  have g1 : (cs ++ [Cel.lst xs, .lst (.ref n :: ys)])[n + 1]? = some (.lst (.ref n :: ys)) := by
    rw [List.getElem?_append_right (by omega), hn, show n + 1 - n = 1 by omega]; rfl
  have any : ∀ {p : Nat → Bool} {v : List D}, okDs (fun _ => false) v = true → okDs p v = true := fun h => okDs_imp (fun i h => by cases h) _ h
  have r : reach (cs ++ [Cel.lst xs, .lst (.ref n :: ys)]) n 100000 [.ref (n + 1)] [] = [n + 1, n] := by
    rw [show (100000 : Nat) = 99998 + 1 + 1 by rfl, reach_new (by omega) (by simp) g1]
    show reach _ n (99998 + 1) (.ref n :: (ys ++ [])) [n + 1] = _
    rw [reach_new (Nat.le_refl _) (by simp) g0]
    exact reach_flat _ _ _ (okDs_append.mpr ⟨any hx, okDs_append.mpr ⟨any hy, rfl⟩⟩)
  have ok : gcOk n (cs ++ [Cel.lst xs, .lst (.ref n :: ys)]) [] [n + 1, n] [.ref (n + 1)] = true := by
    unfold gcOk
    have k1 : kept n [n + 1, n] n = true := by simp [kept]
    have k2 : kept n [n + 1, n] (n + 1) = true := by simp [kept]
    simp only [nds, List.all_cons, List.all_nil, g0, g1, okC, okDs, okD, k1, k2, any hx, any hy]
    simp
  have t0 : tau n [n + 1, n] n = n + 1 := by unfold tau; simp [idx]
  have t1 : tau n [n + 1, n] (n + 1) = n := by unfold tau; simp [idx]
  have rid : ∀ {t : Nat → Nat} {v : List D}, okDs (fun _ => false) v = true → renDs t v = v := fun {t v} h => by
    rw [rens_congr (t := id) (fun _ h => by cases h) v h]
    exact rens_id (n := 0) (fun i h => by omega) v (any h)
  unfold gcS
  simp only [drop_take_all hn, take_take_all hn, List.map_nil, List.flatten_nil, List.append_nil, r, ok, if_true, List.map_cons, g0, g1, Option.getD_some, renC, renDs, renD, t0, t1, rid hx, rid hy]
theorem gc_one_new {l : List Cel} {n lo low k : Nat} {c : Cel} (hn : cs.length = n) (hw : ∀ c ∈ cs, okC (fun j => decide (j < n)) c = true) (hk : n ≤ k) (hc : (cs ++ l)[k]? = some c) (ok : okC (fun j => decide (j < n)) c = true) : gcS n lo [.ref k] ⟨cs ++ l, low⟩ = ([.ref n], ⟨cs ++ [c], min lo low⟩) := by
  have t1 : (cs ++ l).take n = cs := by rw [List.take_append_of_le_length (by omega), List.take_of_length_le (by omega)]
  have hmid : ∀ c ∈ cs.drop low, okC (fun j => decide (j < n)) c = true := fun c hc => hw c (List.mem_of_mem_drop hc)
  have r : reach (cs ++ l) n 100000 ([.ref k] ++ ((cs.drop low).map Cel.refs).flatten) [] = [k] := by
    rw [show (100000 : Nat) = 99999 + 1 by rfl]
    show reach _ n (99999 + 1) (.ref k :: _) [] = _
    rw [reach_new hk (by simp) hc]
    exact reach_flat _ _ _ (okDs_append.mpr ⟨refs_ok ok, okDs_all.mpr fun v hv => by
      obtain ⟨r, hr, hv⟩ := List.mem_flatten.mp hv
      obtain ⟨c, hc, rfl⟩ := List.mem_map.mp hr
      exact okDs_all.mp (refs_ok (hmid c hc)) v hv⟩)
  have kk : ∀ i, decide (i < n) = true → kept n [k] i = true := fun i h => by unfold kept; rw [h]; rfl
  have up : ∀ c : Cel, okC (fun j => decide (j < n)) c = true → okC (kept n [k]) c = true := fun c h => by
    have := okC_ren (t := id) (q := kept n [k]) kk c h
    rwa [show renC id c = c from renC_id (n := n) (fun _ _ => rfl) c h] at this
  have g : gcOk n (cs ++ l) (cs.drop low) [k] [.ref k] = true := by
    unfold gcOk
    simp only [nds, List.all_cons, List.all_nil, hc, up c ok, okDs, okD, List.all_eq_true.mpr (fun x hx => up x (hmid x hx)), Bool.and_true, Bool.true_and]
    simp [kept, hk]
  have idt : ∀ i, i < n → tau n [k] i = i := fun i h => by unfold tau; rw [if_pos h]
  have tk : tau n [k] k = n := by unfold tau; rw [if_neg (by omega)]; simp [idx]
  have hm : (cs.drop low).map (renC (tau n [k])) = cs.drop low := (List.map_congr_left fun c hc => renC_id idt c (hmid c hc)).trans (List.map_id _)
  unfold gcS
  simp only [t1, r, g, if_true, hm, List.map_cons, List.map_nil, hc, Option.getD_some, renC_id idt c ok, List.take_append_drop, renDs, renD, tk]
theorem okDs_false_ints (js : List Int) : okDs (fun _ => false) (js.map D.int) = true := okDs_ints js
theorem stream_ok {m : Store} {p : Nat} {ns : List Int} (hp : src m (.ref p) = some (ns.map D.int)) (hl : m.low ≤ m.cs.length) (h63 : ns.length ≤ 63) : rStream [.ref p] m = .ok (.ref m.cs.length) ⟨m.cs ++ [.lst [.ref (m.cs.length + 1), .int 0, .int 0, .int 17], .lst (ns.map D.int)], m.low⟩ := by
  have body : vStream (starts [false] [.ref p] m.cs.length) ⟨m.cs ++ [], m.cs.length⟩ = .ret (.ref (m.cs.length + 1)) ⟨m.cs ++ [.lst (ns.map D.int), .lst (.ref m.cs.length :: [.int 0, .int 0, .int 17])], m.cs.length⟩ := by
    show vStream [.val (.ref p)] _ = _
    have e1 : src (⟨m.cs, m.cs.length⟩ : Store) (.ref p) = some (ns.map D.int) := hp
    unfold vStream
    refine k_rt (k_ret ?_)
    rw [List.append_nil]
    simp only [eLst, lCons, eCall, lNil, eV, eC, List.getElem?_cons_zero, Res.bind, rLst, e1, Store.push, Store.nx, List.length_cons, List.length_nil]
    rw [if_pos (by decide)]
    simp
  show fnR _ vStream _ _ = _
  unfold fnR
  simp only [show startc [false] [D.ref p] = [] by rfl]
  rw [body]
  dsimp only
  rw [gc_two rfl (okDs_false_ints ns) (by rfl)]
  simp only [Nat.min_eq_left hl]
end
end Z

set_option Elab.async false
set_option linter.all false
set_option maxRecDepth 100000
set_option maxHeartbeats 0
/-! the engine, part ZZi: things mixed by the laws' stream -/
namespace Z
open PySem PySem.Spec PyProof.Rows
open L2 (frs)

def mBody : SV := bCons (sDrop (eMeth "list" (eV 3) (lCons (eMeth "list" (eV 2) (lCons (eCall (lCons (eV 0) (lCons (eCall (lCons (eV 2) lNil) lNil (fun vs _ m => rLen vs m)) lNil)) lNil (bindR 2 0 [0, 1] rDraw)) lNil) rPop) lNil) rAppend)) bNil
def vMixed : SV := (bCons (sPar [2, 3] (lCons (eCall (lCons (eV 1) lNil) lNil (fun vs _ m => rLst vs m)) (lCons (eLst lNil) lNil))) (bCons (sFor (iCall (lCons (eCall (lCons (eV 2) lNil) lNil (fun vs _ m => rLen vs m)) lNil) rRng) (gName 4) mBody 80) (bCons (sRet (eV 3)) bNil)))
abbrev rMixed : List D → Store → Res D := fnR [false, false, false, false, false] vMixed
theorem low_a {lo k lo1 n : Nat} (h1 : min lo k ≤ lo1) (h2 : k ≤ n) : min lo k ≤ min (min lo1 n) (n + 1) := by omega
theorem low_b {lo lo1 n : Nat} (h1 : lo1 ≤ lo) : min (min lo1 n) (n + 1) ≤ lo := by omega
theorem low_c {lo k lo1 lo2 : Nat} (h1 : min lo k ≤ lo1) (h2 : min lo1 k ≤ lo2) : min lo k ≤ lo2 := by omega
theorem low_d {lo k lo1 n : Nat} (h1 : min n k ≤ lo1) (h2 : k ≤ n) : min lo k ≤ min lo lo1 := by omega
theorem Ij.mn {cs : List Cel} {i j : Nat} (h : Ij cs i j) : min i j ≤ cs.length := Nat.le_trans (Nat.min_le_left i j) (Nat.le_of_lt h.hi)
theorem bind2 {r : List D → Store → Res D} {v w : D} {m : Store} : bindR 2 0 [0, 1] r [v, w] [] m = r [v, w] m := by
  unfold bindR; rw [if_pos ⟨rfl, rfl⟩]; rfl
theorem bind1 {r : List D → Store → Res D} {v : D} {m : Store} : bindR 1 0 [0] r [v] [] m = r [v] m := by
  unfold bindR; rw [if_pos ⟨rfl, rfl⟩]; rfl
theorem bind0 {r : List D → Store → Res D} {m : Store} : bindR 0 0 [] r [] [] m = r [] m := by
  unfold bindR; rw [if_pos ⟨rfl, rfl⟩]; rfl
section
variable {cs l : List Cel} {i j lo : Nat} {js : List Int} {a b c : Int} {x y z : Cel}
theorem two0 : (stc cs i j js a b c ++ [x, y])[cs.length]? = some x := by
  rw [List.getElem?_append_right (by simp)]; simp
theorem two1 : (stc cs i j js a b c ++ [x, y])[cs.length + 1]? = some y := by
  rw [List.getElem?_append_right (by simp)]; simp
theorem twos0 : (stc cs i j js a b c ++ [x, y]).set cs.length z = stc cs i j js a b c ++ [z, y] := by
  rw [List.set_append_right _ _ (by simp)]; simp
theorem twos1 : (stc cs i j js a b c ++ [x, y]).set (cs.length + 1) z = stc cs i j js a b c ++ [x, z] := by
  rw [List.set_append_right _ _ (by simp)]; simp
theorem Ij.app2 (h : Ij cs i j) : Ij (cs ++ l) i j := ⟨by have := h.hi; simp; omega, by have := h.hj; simp; omega, h.ne⟩
theorem seqIx_pos {d : Int} {n : Nat} (h1 : 0 ≤ d) (h2 : d < n) : seqIndex? d n = some d.toNat := by
  have h3 : ¬ d < 0 := by omega
  simp [seqIndex?, h1, h2, h3]
theorem perm_erase : ∀ {l : List D} {d : Nat} (hd : d < l.length), (l[d] :: l.eraseIdx d).Perm l
  | [], d, hd => by simp at hd
  | x :: r, 0, hd => by simp
  | x :: r, d + 1, hd => by
    simp only [List.getElem_cons_succ, List.eraseIdx_cons_succ]
    exact (List.Perm.swap _ _ _).trans ((perm_erase (l := r) (by simpa using hd)).cons x)
theorem mBody_eq (h : Ij cs i j) (hw : ∀ x ∈ cs, okC (fun k => decide (k < cs.length)) x = true) (hjs : js.length ≤ 63) (ha : 0 ≤ a) (hb : 0 ≤ b) (hb2 : b ≤ 1000000) (hc : 0 ≤ c) (hc2 : c < 2147483647) {left found : List D} {t : Slot} {s4 : Slot}
    (hl0 : left ≠ []) (hl1 : left.length < 1000) (hf : found.length < 1000) (okl : okDs (fun k => decide (k < cs.length)) left = true) (okf : okDs (fun k => decide (k < cs.length)) found = true) : ∃ d v js' a' c' lo', js'.length ≤ js.length ∧ left[d]? = some v ∧ 0 ≤ a' ∧ 0 ≤ c' ∧ c' < 2147483647 ∧ min lo (min i j) ≤ lo' ∧ lo' ≤ lo ∧
    mBody [.val (.ref i), t, .val (.ref cs.length), .val (.ref (cs.length + 1)), s4] ⟨stc cs i j js a b c ++ [.lst left, .lst found], lo⟩ = .nxt [.val (.ref i), t, .val (.ref cs.length), .val (.ref (cs.length + 1)), s4] ⟨stc cs i j js' a' (b + 1) c' ++ [.lst (left.eraseIdx d), .lst (found ++ [v])], lo'⟩ := by
  have hlp : 0 < left.length := List.length_pos_iff.mpr hl0
  have hw2 : ∀ x ∈ cs ++ [Cel.lst left, .lst found], okC (fun k => decide (k < (cs ++ [Cel.lst left, .lst found]).length)) x = true := fun x hx => by
    have le : cs.length ≤ (cs ++ [Cel.lst left, .lst found]).length := by simp
    have up : ∀ c : Cel, okC (fun k => decide (k < cs.length)) c = true → okC (fun k => decide (k < (cs ++ [Cel.lst left, .lst found]).length)) c = true := fun c hc => by
      have := okC_ren (t := id) (q := fun k => decide (k < (cs ++ [Cel.lst left, .lst found]).length)) (fun i hi => by simp only [id, decide_eq_true_eq] at hi ⊢; omega) c hc
      rwa [show renC id c = c from renC_id (n := cs.length) (fun _ _ => rfl) c hc] at this
    rcases List.mem_append.mp hx with hx | hx
    · exact up x (hw x hx)
    · simp at hx
      rcases hx with rfl | rfl
      · exact up _ okl
      · exact up _ okf
  obtain ⟨d, js', a', c', lo1, q1, q2, q3, q4, q5, q6, q7, q8, q9⟩ := draw_ok (cs := cs ++ [.lst left, .lst found]) (lo := lo) (js := js) (a := a) (b := b) (c := c) h.app2 hw2 hjs ha hb hb2 hc hc2 (many := (left.length : Int)) (by omega) (by omega)
  rw [stc_app h, stc_app h] at q9
  have hd : d.toNat < left.length := by omega
  obtain ⟨v, hv⟩ : ∃ v, left[d.toNat]? = some v := ⟨_, List.getElem?_eq_getElem hd⟩
  have hd2 : -(2 ^ 63) ≤ d ∧ d < 2 ^ 63 := ⟨by omega, by omega⟩
  refine ⟨d.toNat, v, js', a', c', min (min lo1 cs.length) (cs.length + 1), q1, hv, q4, q5, q6, low_a q7 h.mn, low_b q8, ?_⟩
  unfold mBody
  refine Eq.trans (k_nx (σ1 := [.val (.ref i), t, .val (.ref cs.length), .val (.ref (cs.length + 1)), s4]) (m1 := ⟨stc cs i j js' a' (b + 1) c' ++ [.lst (left.eraseIdx d.toNat), .lst (found ++ [v])], min (min lo1 cs.length) (cs.length + 1)⟩) ?_) rfl
  refine k_drop (v := .non) ?_
  refine Eq.trans (k_meth (v := .ref (cs.length + 1)) (m1 := ⟨stc cs i j js a b c ++ [.lst left, .lst found], lo⟩) (vs := [v]) (m2 := ⟨stc cs i j js' a' (b + 1) c' ++ [.lst (left.eraseIdx d.toNat), .lst found], min lo1 cs.length⟩) rfl (by simp only [tyOf, two1]) (k_l1 (m1 := ⟨stc cs i j js' a' (b + 1) c' ++ [.lst (left.eraseIdx d.toNat), .lst found], min lo1 cs.length⟩) ?_ rfl)) ?_
  · refine Eq.trans (k_meth (v := .ref cs.length) (m1 := ⟨stc cs i j js a b c ++ [.lst left, .lst found], lo⟩) (vs := [.int d]) (m2 := ⟨stc cs i j js' a' (b + 1) c' ++ [.lst left, .lst found], lo1⟩) rfl (by simp only [tyOf, two0]) (k_l1 (m1 := ⟨stc cs i j js' a' (b + 1) c' ++ [.lst left, .lst found], lo1⟩) ?_ rfl)) ?_
    · refine Eq.trans (k_call (vs := [.ref i, .int left.length]) (zs := []) (m1 := ⟨stc cs i j js a b c ++ [.lst left, .lst found], lo⟩) (m2 := ⟨stc cs i j js a b c ++ [.lst left, .lst found], lo⟩) ?_ rfl) ?_
      rotate_left
      · refine Eq.trans bind2 ?_
        exact q9
      refine k_l1 rfl (k_l1 ?_ rfl)
      simp only [eCall, lCons, lNil, eV, Res.bind, List.getElem?_cons_succ, List.getElem?_cons_zero, rLen, lenOf, two0]
    · simp only [rPop, two0, Store.put]
      rw [if_pos hd2, seqIx_pos q2 (by omega)]
      simp only [hv, twos0]
  · simp only [rAppend, two1, Store.put, twos1]
    rw [if_pos (by omega)]
theorem mLoop (h : Ij cs i j) (hw : ∀ x ∈ cs, okC (fun k => decide (k < cs.length)) x = true) {t : Slot} {N : Nat} (hN : N < 500) : ∀ (n : Nat) (left found : List D) (k : Nat) (js : List Int) (a b c : Int) (lo : Nat) (s4 : Slot), (∀ q, s4 ≠ .box q) → left.length < n → k + left.length = N → found.length = k → js.length ≤ 63 → 0 ≤ a → 0 ≤ b → b + left.length ≤ 1000000 → 0 ≤ c → c < 2147483647 →
    okDs (fun k => decide (k < cs.length)) left = true → okDs (fun k => decide (k < cs.length)) found = true → ∃ fs js' a' c' lo' s4', js'.length ≤ js.length ∧ 0 ≤ a' ∧ 0 ≤ c' ∧ c' < 2147483647 ∧ min lo (min i j) ≤ lo' ∧ lo' ≤ lo ∧ fs.length = N ∧ fs.Perm (found ++ left) ∧
      forL (rngIt 0 1 N) (gName 4) mBody n k [.val (.ref i), t, .val (.ref cs.length), .val (.ref (cs.length + 1)), s4] ⟨stc cs i j js a b c ++ [.lst left, .lst found], lo⟩ = .nxt [.val (.ref i), t, .val (.ref cs.length), .val (.ref (cs.length + 1)), s4'] ⟨stc cs i j js' a' (b + left.length) c' ++ [.lst [], .lst fs], lo'⟩ := by
  intro n
  induction n with
  | zero => intro left found k js a b c lo s4 _ h1; omega
  | succ n ih =>
    intro left found k js a b c lo s4 l4 h1 hk hfk hjs ha hb hb2 hc hc2 okl okf
    unfold forL
    by_cases h0 : left = []
    · subst h0
      have hkN : k = N := by simpa using hk
      refine ⟨found, js, a, c, lo, s4, Nat.le_refl _, ha, hc, hc2, by omega, Nat.le_refl _, by omega, by simp, ?_⟩
      simp only [rngIt]
      rw [if_neg (by omega), if_pos hkN]
      simp
    · have hlp : 0 < left.length := List.length_pos_iff.mpr h0
      obtain ⟨d, v, js1, a1, c1, lo1, q1, q2, q3, q4, q5, q6, q7, q8⟩ := mBody_eq (lo := lo) (t := t) (s4 := .val (.int (0 + k * 1))) h hw hjs ha hb (by omega) hc hc2 h0 (by omega) (by omega) okl okf
      have hd := (List.getElem?_eq_some_iff.mp q2).1
      have le : (left.eraseIdx d).length = left.length - 1 := List.length_eraseIdx_of_lt hd
      have hv : v ∈ left := List.mem_of_getElem? q2
      obtain ⟨fs, js2, a2, c2, lo2, s4', p1, p2, p3, p4, p5, p6, p7, p8, p9⟩ := ih (left.eraseIdx d) (found ++ [v]) (k + 1) js1 a1 (b + 1) c1 lo1 (.val (.int (0 + k * 1))) (fun q z => by cases z) (by omega) (by omega) (by simp; omega) (by omega) q3 (by omega) (by omega) q4 q5
        (okDs_all.mpr fun w hw => okDs_all.mp okl w (List.mem_of_mem_eraseIdx hw)) (okDs_append.mpr ⟨okf, by simp only [okDs, okDs_all.mp okl v hv]; rfl⟩)
      refine ⟨fs, js2, a2, c2, lo2, s4', Nat.le_trans p1 q1, p2, p3, p4, low_c q6 p5, Nat.le_trans p6 q7, p7, p8.trans ?_, ?_⟩
      · have e : v = left[d] := by rw [List.getElem?_eq_getElem hd] at q2; exact (Option.some.inj q2).symm
        rw [List.append_assoc]
        refine List.Perm.append_left _ ?_
        rw [e]
        exact perm_erase hd
      · have hn : (rngIt 0 1 N).on k ⟨stc cs i j js a b c ++ [.lst left, .lst found], lo⟩ = some (some (.int (0 + k * 1))) := by
          simp only [rngIt]; rw [if_pos (by omega)]
        rw [hn]
        have hg : gName 4 (.int (0 + k * 1)) [.val (.ref i), t, .val (.ref cs.length), .val (.ref (cs.length + 1)), s4] ⟨stc cs i j js a b c ++ [.lst left, .lst found], lo⟩ = .nxt [.val (.ref i), t, .val (.ref cs.length), .val (.ref (cs.length + 1)), .val (.int (0 + k * 1))] ⟨stc cs i j js a b c ++ [.lst left, .lst found], lo⟩ := by
          cases s4 with
          | un => rfl
          | val v => rfl
          | box q => exact absurd rfl (l4 q)
        dsimp only
        rw [hg]
        simp only [SR.next]
        rw [q8]
        simp only
        rw [p9, show b + 1 + ((left.eraseIdx d).length : Int) = b + left.length by omega]
end
end Z

set_option Elab.async false
set_option linter.all false
set_option maxRecDepth 100000
set_option maxHeartbeats 0
/-! the engine, part ZZj: things mixed by the laws' stream, the call -/
namespace Z
open PySem PySem.Spec PyProof.Rows
open L2 (frs)
section
variable {cs l : List Cel} {i j lo : Nat} {js : List Int} {a b c : Int} {x y z : Cel}
theorem for_go {wi : Sl → Store → Res It} {g : GV} {tb : SV} {n : Nat} {σ : Sl} {m m1 : Store} {J : It} {r : SR} (h : wi σ m = .ok J m1) (h2 : forL J g tb n 0 σ m1 = r) : sFor wi g tb n σ m = r := by
  unfold sFor; rw [h]; exact h2
theorem par_go {is : List Nat} {fa : LV} {σ σ1 : Sl} {m m1 : Store} {vs : List D} (h : fa σ m = .ok vs m1) (hl : vs.length = is.length) (h2 : setAll is.reverse vs.reverse σ m1 = .nxt σ1 m1) : sPar is fa σ m = .nxt σ1 m1 := by
  unfold sPar; rw [h]; simp only [Res.toS]; rw [if_pos hl, h2]
theorem rRng_len {n : Nat} (h : n < 1000) (m : Store) : rRng [.int (n : Int)] m = .ok (rngIt 0 1 n) m := by
  have h1 : -(2 ^ 62) ≤ (n : Int) := by have : (0 : Int) ≤ n := Int.natCast_nonneg n; exact Int.le_trans (by decide) this
  have h2 : (n : Int) < 2 ^ 62 := Int.lt_trans (Int.ofNat_lt.mpr h) (by decide)
  have e : rRng [.int (n : Int)] m = if -(2 ^ 62) ≤ (n : Int) ∧ (n : Int) < 2 ^ 62 then .ok (rngIt 0 1 (n : Int).toNat) m else .bad := rfl
  rw [e, if_pos ⟨h1, h2⟩, Int.toNat_natCast]
theorem iCall_go {fa : LV} {r : List D → Store → Res It} {σ : Sl} {m m1 : Store} {vs : List D} (h : fa σ m = .ok vs m1) : iCall fa r σ m = r vs m1 := by unfold iCall; rw [h]; rfl
theorem l1_go {f : EV} {σ : Sl} {m m1 : Store} {v : D} (h : f σ m = .ok v m1) : lCons f lNil σ m = .ok [v] m1 := by unfold lCons; rw [h]; rfl
theorem fnR_ret {nb : List Bool} {body : SV} {vs : List D} {m m1 m2 : Store} {v w : D} (h : body (starts nb vs m.cs.length) ⟨m.cs ++ startc nb vs, m.cs.length⟩ = .ret v m1) (g : gcS m.cs.length m.low [v] m1 = ([w], m2)) : fnR nb body vs m = .ok w m2 := by
  unfold fnR; rw [h]; simp only [g]
theorem fnR_exc {nb : List Bool} {body : SV} {vs ws : List D} {m m1 m2 : Store} {x : Ex} {σ : Sl} (h : body (starts nb vs m.cs.length) ⟨m.cs ++ startc nb vs, m.cs.length⟩ = .exc x σ m1) (g : gcS m.cs.length m.low x.vs m1 = (ws, m2)) : fnR nb body vs m = .exc ⟨x.C, x.ns, ws⟩ m2 := by
  unfold fnR; rw [h]; simp only [g]
theorem mixed_ok (h : Ij cs i j) (hw : ∀ x ∈ cs, okC (fun k => decide (k < cs.length)) x = true) (hjs : js.length ≤ 63) (ha : 0 ≤ a) (hb : 0 ≤ b) {vs : List D} (hv : vs.length < 80) (hb2 : b + vs.length ≤ 1000000) (hc : 0 ≤ c) (hc2 : c < 2147483647) {t : Nat} (ht : src ⟨stc cs i j js a b c, lo⟩ (.ref t) = some vs) (okv : okDs (fun k => decide (k < cs.length)) vs = true) : ∃ fs js' a' c' lo', js'.length ≤ js.length ∧ 0 ≤ a' ∧ 0 ≤ c' ∧ c' < 2147483647 ∧ min lo (min i j) ≤ lo' ∧ lo' ≤ lo ∧ fs.Perm vs ∧
    rMixed [.ref i, .ref t] ⟨stc cs i j js a b c, lo⟩ = .ok (.ref cs.length) ⟨stc cs i j js' a' (b + vs.length) c' ++ [.lst fs], lo'⟩ := by
  have sl : (stc cs i j js a b c).length = cs.length := stc_len
  have hlt := h.hi
  obtain ⟨fs, js', a', c', lo1, s4', p1, p2, p3, p4, p5, p6, p7, p8, p9⟩ := mLoop h hw (t := .val (.ref t)) (N := vs.length) (by omega) 80 vs [] 0 js a b c cs.length .un (fun q z => by cases z) hv (by omega) rfl hjs ha hb (by omega) hc hc2 okv rfl
  refine ⟨fs, js', a', c', min lo lo1, p1, p2, p3, p4, low_d p5 h.mn, Nat.min_le_left _ _, by simpa using p8, ?_⟩
  have okf : okDs (fun k => decide (k < cs.length)) fs = true := okDs_all.mpr fun w hw => okDs_all.mp okv w (by simpa using p8.mem_iff.mp hw)
  have body : vMixed (starts [false, false, false, false, false] [.ref i, .ref t] (stc cs i j js a b c).length) ⟨stc cs i j js a b c ++ [], (stc cs i j js a b c).length⟩ = .ret (.ref (cs.length + 1)) ⟨stc cs i j js' a' (b + vs.length) c' ++ [.lst [], .lst fs], lo1⟩ := by
    have e1 : src (⟨stc cs i j js a b c, cs.length⟩ : Store) (.ref t) = some vs := ht
    have e2 : (lCons (eCall (lCons (eV 1) lNil) lNil (fun vs _ m => rLst vs m)) (lCons (eLst lNil) lNil)) [.val (.ref i), .val (.ref t), .un, .un, .un] ⟨stc cs i j js a b c, cs.length⟩ = .ok [.ref cs.length, .ref (cs.length + 1)] ⟨stc cs i j js a b c ++ [.lst vs, .lst []], cs.length⟩ := by
      simp only [eCall, lCons, lNil, eV, eLst, Res.bind, List.getElem?_cons_succ, List.getElem?_cons_zero, rLst, e1, Store.push, Store.nx, sl, List.length_nil]
      rw [if_pos (by decide)]
      simp
    have s1 : sPar [2, 3] (lCons (eCall (lCons (eV 1) lNil) lNil (fun vs _ m => rLst vs m)) (lCons (eLst lNil) lNil)) [.val (.ref i), .val (.ref t), .un, .un, .un] ⟨stc cs i j js a b c, cs.length⟩ = .nxt [.val (.ref i), .val (.ref t), .val (.ref cs.length), .val (.ref (cs.length + 1)), .un] ⟨stc cs i j js a b c ++ [.lst vs, .lst []], cs.length⟩ := by
      unfold sPar
      rw [e2]
      simp only [Res.toS, List.length_cons, List.length_nil, if_true, List.reverse_cons, List.reverse_nil, List.nil_append, List.cons_append, setAll, setS, List.getElem?_cons_succ, List.getElem?_cons_zero, List.set_cons_succ, List.set_cons_zero]
    have e4 : (eCall (lCons (eV 2) lNil) lNil (fun vs _ m => rLen vs m)) [.val (.ref i), .val (.ref t), .val (.ref cs.length), .val (.ref (cs.length + 1)), .un] ⟨stc cs i j js a b c ++ [.lst vs, .lst []], cs.length⟩ = .ok (.int vs.length) ⟨stc cs i j js a b c ++ [.lst vs, .lst []], cs.length⟩ := by
      simp only [eCall, lCons, lNil, eV, Res.bind, List.getElem?_cons_succ, List.getElem?_cons_zero, rLen, lenOf, two0]
    have e3 : (iCall (lCons (eCall (lCons (eV 2) lNil) lNil (fun vs _ m => rLen vs m)) lNil) rRng) [.val (.ref i), .val (.ref t), .val (.ref cs.length), .val (.ref (cs.length + 1)), .un] ⟨stc cs i j js a b c ++ [.lst vs, .lst []], cs.length⟩ = .ok (rngIt 0 1 vs.length) ⟨stc cs i j js a b c ++ [.lst vs, .lst []], cs.length⟩ := by
      rw [iCall_go (l1_go e4)]
      exact rRng_len (by omega) _
    have s2 := for_go (g := gName 4) (tb := mBody) (n := 80) e3 p9
    rw [List.append_nil, sl]
    show vMixed [.val (.ref i), .val (.ref t), .un, .un, .un] _ = _
    unfold vMixed
    rw [k_nx s1, k_nx s2]
    refine k_rt (k_ret ?_)
    simp only [eV, List.getElem?_cons_succ, List.getElem?_cons_zero]
  refine fnR_ret body ?_
  rw [gc_one_new (cs := stc cs i j js' a' (b + vs.length) c') (l := [.lst [], .lst fs]) (k := cs.length + 1) (c := .lst fs) (by rw [sl, stc_len]) (by rw [sl]; exact stc_ok h h.hj hw) (by rw [sl]; omega) two1 (by rw [sl]; exact okf), sl]
end
end Z

set_option Elab.async false
set_option linter.all false
set_option maxRecDepth 100000
set_option maxHeartbeats 0
/-! the engine, part ZZk: loops and comprehensions over known lists, asks put together -/
namespace Z
open PySem PySem.Spec PyProof.Rows
open L2 (frs)

theorem setS_lc {σ : Sl} {i : Nat} {s : Slot} {v : D} {m : Store} (h : σ[i]? = some s) (hs : ∀ k, s ≠ .box k) : setS i v σ m = some (σ.set i (.val v), m) := by
  unfold setS
  rw [h]
  cases s with
  | un => rfl
  | val w => rfl
  | box k => exact absurd rfl (hs k)
theorem gName_lc {σ : Sl} {i : Nat} {s : Slot} {v : D} {m : Store} (h : σ[i]? = some s) (hs : ∀ k, s ≠ .box k) : gName i v σ m = .nxt (σ.set i (.val v)) m := by
  unfold gName; rw [setS_lc h hs]
theorem gName_box {σ : Sl} {i j : Nat} {o : Option D} {v : D} {m : Store} (h : σ[i]? = some (.box j)) (hc : m.cs[j]? = some (.box o)) : gName i v σ m = .nxt σ (m.put j (.box (some v))) := by
  unfold gName setS; rw [h]; simp only [hc]
/-- a list made of a list, turn by turn -/
theorem lc_map {f : EV} {m : Store} {v : D} {xs : List D} {V : D → D} (hs : src m v = some xs) (hf : ∀ x ∈ xs, f [.val x] m = .ok (V x) m) : ∀ (n i : Nat) (s : Slot) (acc : List D), (∀ k, s ≠ .box k) → xs.length < i + n → acc.length + xs.length ≤ i + 16777216 → i ≤ xs.length →
    lcL (seqIt v) (gName 0) tYes f n i [s] acc m = .ok (acc ++ (xs.drop i).map V) m := by
  intro n
  induction n with
  | zero => intro i s acc _ h1 h2 h3; omega
  | succ n ih =>
    intro i s acc hb h1 h2 h3
    unfold lcL
    have on : (seqIt v).on i m = some xs[i]? := by simp only [seqIt, hs]
    rw [on]
    by_cases hi : i < xs.length
    · rw [List.getElem?_eq_getElem hi]
      dsimp only
      rw [gName_lc (s := s) rfl hb]
      simp only [List.set_cons_zero, tYes]
      rw [hf _ (List.getElem_mem hi)]
      dsimp only
      rw [if_pos (by omega), ih (i + 1) (.val xs[i]) _ (fun k z => by cases z) (by omega) (by simp; omega) (by omega), List.append_assoc, List.drop_eq_getElem_cons hi]
      rfl
    · rw [List.getElem?_eq_none (by omega)]
      dsimp only
      rw [List.drop_eq_nil_of_le (by omega)]
      simp [seqIt]
theorem eLc_map {fe f : EV} {σ : Sl} {m : Store} {v : D} {xs : List D} {V : D → D} {n : Nat} (he : fe σ m = .ok v m) (hs : src m v = some xs) (hf : ∀ x ∈ xs, f [.val x] m = .ok (V x) m) (hn : xs.length < n) (hl : xs.length ≤ 16777216) :
    eLc (iVal fe) [none] (gName 0) tYes f n σ m = .ok (.ref m.cs.length) ⟨m.cs ++ [.lst (xs.map V)], m.low⟩ := by
  have e1 : iVal fe σ m = .ok (seqIt v) m := by unfold iVal; rw [he]; simp only [Res.bind, hs]
  have e2 := lc_map hs hf n 0 .un [] (fun k z => by cases z) (by omega) (by simp; omega) (by omega)
  unfold eLc
  rw [e1]
  simp only [Res.bind]
  have e3 : blkS [none] σ = [.un] := rfl
  rw [e3, e2]
  simp only [List.drop_zero, List.nil_append, List.length_map]
  rw [if_pos hl]
  rfl
/-- a loop over a list -/
theorem for_list {v : D} {fs : List D} {g : GV} {tb : SV} {P : Nat → Sl → Store → Prop} (hs : ∀ k σ m, P k σ m → src m v = some fs) (hp : ∀ k σ m x, P k σ m → fs[k]? = some x → ∃ σ1 m1 σ2 m2, g x σ m = .nxt σ1 m1 ∧ tb σ1 m1 = .nxt σ2 m2 ∧ P (k + 1) σ2 m2) : ∀ (n k : Nat) (σ : Sl) (m : Store), fs.length < k + n → k ≤ fs.length → P k σ m →
    ∃ σ' m', forL (seqIt v) g tb n k σ m = .nxt σ' m' ∧ P fs.length σ' m' := by
  intro n
  induction n with
  | zero => intro k σ m h1 h2; omega
  | succ n ih =>
    intro k σ m h1 h2 h3
    unfold forL
    have on : (seqIt v).on k m = some fs[k]? := by simp only [seqIt, hs k σ m h3]
    rw [on]
    by_cases hk : k < fs.length
    · rw [List.getElem?_eq_getElem hk]
      obtain ⟨σ1, m1, σ2, m2, e1, e2, p⟩ := hp k σ m _ h3 (List.getElem?_eq_getElem hk)
      obtain ⟨σ', m', e3, p'⟩ := ih (k + 1) σ2 m2 (by omega) (by omega) p
      refine ⟨σ', m', ?_, p'⟩
      dsimp only
      rw [e1]
      simp only [SR.next]
      rw [e2]
      exact e3
    · rw [List.getElem?_eq_none (by omega)]
      have : k = fs.length := by omega
      subst this
      exact ⟨σ, m, rfl, h3⟩
theorem sFor_list {fe : EV} {v : D} {fs : List D} {g : GV} {tb : SV} {n : Nat} {σ : Sl} {m m1 : Store} {P : Nat → Sl → Store → Prop} (he : fe σ m = .ok v m1) (hs : ∀ k σ m, P k σ m → src m v = some fs) (hp : ∀ k σ m x, P k σ m → fs[k]? = some x → ∃ σ1 m1 σ2 m2, g x σ m = .nxt σ1 m1 ∧ tb σ1 m1 = .nxt σ2 m2 ∧ P (k + 1) σ2 m2)
    (hn : fs.length < n) (h0 : P 0 σ m1) : ∃ σ' m', sFor (iVal fe) g tb n σ m = .nxt σ' m' ∧ P fs.length σ' m' := by
  obtain ⟨σ', m', e, p⟩ := for_list hs hp n 0 σ m1 (by omega) (by omega) h0
  exact ⟨σ', m', for_go (by unfold iVal; rw [he]; simp only [Res.bind, hs 0 σ m1 h0]) e, p⟩
/-! ### a list of closures made by and by -/
theorem lam_go {tb t l j b : Nat} {σ : Sl} {m : Store} (h : m.cs[tb]? = some (.tbl t)) (hb : σ[j]? = some (.box b)) : eLam tb t l [j] σ m = .ok (.ref m.cs.length) ⟨m.cs ++ [.clo l [b]], m.low⟩ := by
  unfold eLam
  rw [h]
  simp only [if_true, omap, boxAt, hb]
  rfl
theorem lam_go0 {tb t l : Nat} {σ : Sl} {m : Store} (h : m.cs[tb]? = some (.tbl t)) : eLam tb t l [] σ m = .ok (.ref m.cs.length) ⟨m.cs ++ [.clo l []], m.low⟩ := by
  unfold eLam
  rw [h]
  simp only [if_true, omap]
  rfl
/-- asks.append(lambda: ..) in a store whose list of asks stands at n -/
theorem ask_go {tb t l j b n s lo : Nat} {σ : Sl} {cs r : List Cel} {xs : List D} (hn : cs.length = n) (h : cs[tb]? = some (.tbl t)) (hb : σ[j]? = some (.box b)) (hs : σ[s]? = some (.val (.ref n))) (hx : xs.length < 16777216) :
    sDrop (eMeth "list" (eV s) (lCons (eLam tb t l [j]) lNil) rAppend) σ ⟨cs ++ (.lst xs :: r), lo⟩ = .nxt σ ⟨cs ++ (.lst (xs ++ [.ref (n + (1 + r.length))]) :: (r ++ [.clo l [b]])), min lo n⟩ := by
  have htb : (cs ++ (.lst xs :: r))[tb]? = some (.tbl t) := by rw [List.getElem?_append_left (List.getElem?_eq_some_iff.mp h).1]; exact h
  have hl : (cs ++ (.lst xs :: r))[n]? = some (.lst xs) := by rw [← hn]; simp
  have e1 : eV s σ ⟨cs ++ (.lst xs :: r), lo⟩ = .ok (.ref n) ⟨cs ++ (.lst xs :: r), lo⟩ := by unfold eV; rw [hs]
  have e2 := lam_go (l := l) (m := ⟨cs ++ (.lst xs :: r), lo⟩) htb hb
  refine k_drop (v := .non) ?_
  rw [k_meth e1 (by simp only [tyOf, hl]) (l1_go e2)]
  have hl2 : ((cs ++ (.lst xs :: r)) ++ [Cel.clo l [b]])[n]? = some (.lst xs) := by
    rw [List.getElem?_append_left (List.getElem?_eq_some_iff.mp hl).1]; exact hl
  simp only [rAppend, hl2, Store.put]
  rw [if_pos hx]
  have e3 : (cs ++ (Cel.lst xs :: r) ++ [Cel.clo l [b]]).set n (.lst (xs ++ [.ref (cs ++ (Cel.lst xs :: r)).length])) = cs ++ (.lst (xs ++ [.ref (n + (1 + r.length))]) :: (r ++ [.clo l [b]])) := by
    rw [List.append_assoc, List.set_append_right _ _ (by omega), hn]
    simp [hn, Nat.add_comm]
  rw [e3]
end Z

set_option Elab.async false
set_option linter.all false
set_option maxRecDepth 100000
set_option maxHeartbeats 0
/-! the engine, part ZZl: sorted of ints and of pairs of ints -/
namespace Z
open PySem PySem.Spec PyProof.Rows
open L2 (frs)

def insB {α : Type} (lt : α → α → Bool) (x : α) : List α → List α
  | [] => [x]
  | y :: r => if lt y x = true then y :: insB lt x r else x :: y :: r
def srtB {α : Type} (lt : α → α → Bool) : List α → List α
  | [] => []
  | x :: r => insB lt x (srtB lt r)
theorem insB_perm {α : Type} (lt : α → α → Bool) (x : α) : ∀ l : List α, (insB lt x l).Perm (x :: l)
  | [] => List.Perm.refl _
  | y :: r => by
    unfold insB
    split
    · exact ((insB_perm lt x r).cons y).trans (List.Perm.swap _ _ _)
    · exact List.Perm.refl _
theorem srtB_perm {α : Type} (lt : α → α → Bool) : ∀ l : List α, (srtB lt l).Perm l
  | [] => List.Perm.refl _
  | x :: r => (insB_perm lt x _).trans ((srtB_perm lt r).cons x)
abbrev SrB {α : Type} (lt : α → α → Bool) (l : List α) : Prop := l.Pairwise fun x y => lt y x = false
theorem insB_srt {α : Type} {lt : α → α → Bool} (O : SrtO.Swo lt) (x : α) : ∀ l : List α, SrB lt l → SrB lt (insB lt x l)
  | [], _ => by simp [insB, SrB]
  | y :: r, h => by
    obtain ⟨h1, h2⟩ := List.pairwise_cons.mp h
    unfold insB
    split
    · rename_i hy
      refine List.pairwise_cons.mpr ⟨fun z hz => ?_, insB_srt O x r h2⟩
      rcases List.mem_cons.mp ((insB_perm lt x r).mem_iff.mp hz) with rfl | hz
      · exact O.asym _ _ hy
      · exact h1 z hz
    · rename_i hy
      have hy : lt y x = false := by simpa using hy
      refine List.pairwise_cons.mpr ⟨fun z hz => ?_, h⟩
      rcases List.mem_cons.mp hz with rfl | hz
      · exact hy
      · exact O.tr _ _ _ hy (h1 z hz)
theorem srtB_srt {α : Type} {lt : α → α → Bool} (O : SrtO.Swo lt) : ∀ l : List α, SrB lt (srtB lt l)
  | [] => List.Pairwise.nil
  | x :: r => insB_srt O x _ (srtB_srt O r)
theorem srt_one {α : Type} {lt : α → α → Bool} (anti : ∀ x y, lt x y = false → lt y x = false → x = y) : ∀ {l l' : List α}, l.Perm l' → SrB lt l → SrB lt l' → l = l'
  | [], l', p, _, _ => p.nil_eq
  | x :: r, [], p, _, _ => absurd p.length_eq (by simp)
  | x :: r, y :: r', p, h, h' => by
    obtain ⟨h1, h2⟩ := List.pairwise_cons.mp h
    obtain ⟨h3, h4⟩ := List.pairwise_cons.mp h'
    have e : x = y := by
      rcases List.mem_cons.mp (p.mem_iff.mp (.head _)) with e | hx
      · exact e
      · rcases List.mem_cons.mp (p.mem_iff.mpr (.head _)) with e | hy
        · exact e.symm
        · exact anti _ _ (h3 x hx) (h1 y hy)
    subst e
    rw [srt_one anti p.cons_inv h2 h4]
abbrev ltI (x y : Int) : Bool := decide (x < y)
theorem ltI_swo : SrtO.Swo ltI := ⟨fun x y h => by simp only [ltI, decide_eq_true_eq, decide_eq_false_iff_not] at h ⊢; omega, fun x y z h1 h2 => by simp only [ltI, decide_eq_false_iff_not] at h1 h2 ⊢; omega⟩
theorem ltI_anti (x y : Int) (h1 : ltI x y = false) (h2 : ltI y x = false) : x = y := by simp only [ltI, decide_eq_false_iff_not] at h1 h2; omega
theorem lex_anti (x y : Int × Int) (h1 : SrtO.lexB x y = false) (h2 : SrtO.lexB y x = false) : x = y := by
  have a := SrtO.lexB_no.mp h1
  have b := SrtO.lexB_no.mp h2
  exact Prod.ext (by omega) (by omega)
theorem lex_swo : SrtO.Swo SrtO.lexB := ⟨fun x y h => by
  have a := SrtO.lexB_iff.mp h
  exact SrtO.lexB_no.mpr (by omega), fun x y z h1 h2 => by
  have a := SrtO.lexB_no.mp h1
  have b := SrtO.lexB_no.mp h2
  exact SrtO.lexB_no.mpr (by omega)⟩
def pairD : D → Option (Int × Int)
  | .tup [.int i, .int j] => some (i, j)
  | _ => none
abbrev dPair (p : Int × Int) : D := .tup [.int p.1, .int p.2]
theorem pairD_eq {v : D} {p : Int × Int} (h : pairD v = some p) : v = dPair p := by
  unfold pairD at h
  split at h
  · cases h; rfl
  · cases h
theorem omap_pairs : ∀ {xs : List D} {ps : List (Int × Int)}, omap pairD xs = some ps → xs = ps.map dPair
  | [], ps, h => by cases h; rfl
  | x :: xs, ps, h => by
    unfold omap at h
    cases e : pairD x with
    | none => rw [e] at h; cases h
    | some p =>
      rw [e] at h
      cases e2 : omap pairD xs with
      | none => rw [e2] at h; cases h
      | some qs =>
        rw [e2] at h; cases h
        rw [pairD_eq e, omap_pairs e2]; rfl
/-- sorted(l) -/
def rSrt : List D → Store → Res D := fun vs m => match vs with
  | [.ref i] => (match m.seq? i with
    | some xs => (match intsD xs with
      | some ns => .ok (.ref m.nx) (m.push (.lst ((srtB ltI ns).map D.int)))
      | none => (match omap pairD xs with
        | some ps => .ok (.ref m.nx) (m.push (.lst ((srtB SrtO.lexB ps).map dPair)))
        | none => .bad))
    | none => .bad)
  | _ => .bad
theorem intsD_map : ∀ {xs : List D} {ns : List Int}, intsD xs = some ns → xs = ns.map D.int
  | [], ns, h => by cases h; rfl
  | v :: xs, ns, h => by
    cases v with
    | int i =>
      simp only [intsD, Option.map_eq_some_iff] at h
      obtain ⟨cs, e1, rfl⟩ := h
      rw [intsD_map e1]; rfl
    | _ => cases h
section
variable {X : Cx} {σ : Sl} {m m' : Store} {ρ ρ1 ρ' : Rho} {s s1 s' : Shared} {E : Value → Shared → Prop}
theorem pair_rv {h : Heap} {v : Value} {p : Int × Int} (r : RV ρ h (dPair p) v) : Srt.IsPair h v p.1 p.2 := by
  simp only [RV] at r
  obtain ⟨a, us, rfl, ⟨⟨o, e1, e2, n, e3⟩, _⟩, _, rr⟩ := r
  simp only [RVs, RV] at rr
  obtain ⟨u1, q1, rfl, ⟨t1, rfl⟩, u2, q2, rfl, ⟨t2, rfl⟩, rfl⟩ := rr
  exact ⟨a, o, t1, t2, n, rfl, e1, e2, e3⟩
theorem IsPair.one {h : Heap} {v : Value} {x y x' y' : Int} (a : Srt.IsPair h v x y) (b : Srt.IsPair h v x' y') : x = x' ∧ y = y' := by
  obtain ⟨p, o, t, u, n, rfl, e1, _, e3⟩ := a
  obtain ⟨p', o', t', u', n', e, f1, _, f3⟩ := b
  cases e
  rw [e1] at f1; cases f1
  rw [e3] at f3; cases f3
  exact ⟨rfl, rfl⟩
theorem RVs.mem {h : Heap} : ∀ {vs : List D} {us : List Value} {u : Value}, RVs ρ h vs us → u ∈ us → ∃ v ∈ vs, RV ρ h v u
  | [], us, u, r, hu => by simp only [RVs] at r; subst r; cases hu
  | v :: vs, us, u, r, hu => by
    simp only [RVs] at r
    obtain ⟨w, q, rfl, r1, r2⟩ := r
    rcases List.mem_cons.mp hu with rfl | hu
    · exact ⟨v, .head _, r1⟩
    · obtain ⟨v', hv, r⟩ := RVs.mem r2 hu
      exact ⟨v', .tail _ hv, r⟩
theorem RVs.of_all {h : Heap} {f : Value → D} : ∀ {us : List Value}, (∀ u ∈ us, RV ρ h (f u) u) → RVs ρ h (us.map f) us
  | [], _ => RVs.nil
  | u :: us, k => RVs.cons (k u (.head _)) (RVs.of_all fun w hw => k w (.tail _ hw))
theorem o_srt : O1s X (.builtin "sorted") rSrt := ⟨fun σ m ρ s vs us Q E I rs h => by
  unfold rSrt at h
  split at h
  · rename_i i
    obtain ⟨u, rfl, r⟩ := rs.one
    cases e : m.seq? i with
    | none => rw [e] at h; exact h.elim
    | some xs =>
      rw [e] at h
      dsimp only at h
      obtain ⟨p, its, n, hp, _, hz, rr, g⟩ := I.S.seq e
      have eu := RV.ref_of hp r
      subst eu
      have hl : s.heap.IsList p.1 its.toArray := ⟨_, g, rfl, n, rfl⟩
      have hz' : its.length ≤ sizeLine := by rw [← rr.len]; exact hz
      cases e2 : intsD xs with
      | some ns =>
        rw [e2] at h
        have hi := intsD_are rr e2
        refine SrtO.sorted_ord SrtO.swo_int hl hz' (fun h2 h₁ a' _ _ => SrtO.ints_sortable hi h2) fun out h1 h2 => ?_
        obtain ⟨k1, k2, k3⟩ := SrtO.ints_out hi h1 h2
        obtain ⟨ep, he'⟩ := PyProof.Rows.sortedAll_at s.heap its out.toArray
        have eq : out.map SrtO.iv = srtB ltI ns := srt_one ltI_anti (k2.trans (srtB_perm ltI ns).symm) (k3.imp fun {x y} h => by simp only [ltI, decide_eq_false_iff_not]; omega) (srtB_srt ltI_swo ns)
        have r2 : RVs ρ s.heap ((srtB ltI ns).map D.int) out := by rw [← eq]; exact ints_rv k1
        have hz2 : ((srtB ltI ns).map D.int).length ≤ sizeLine := by
          rw [List.length_map, (srtB_perm ltI ns).length_eq, ← List.length_map (f := D.int), ← intsD_map e2]; exact hz
        obtain ⟨I1, K1⟩ := I.newlist (t := s.toks) (l := s.heap.objs.size + 1) (fun _ _ => PyProof.Rows.sortedAll_old) (Nat.le_of_lt (Nat.lt_of_succ_lt (Heap.lt_size he'))) (Nat.le_succ _) r2 hz2 he'
        exact h _ _ _ I1 K1 ⟨_, _, nx_rho I, rfl⟩
      | none =>
        rw [e2] at h
        dsimp only at h
        cases e3 : omap pairD xs with
        | none => rw [e3] at h; exact h.elim
        | some ps =>
          rw [e3] at h
          have ex := omap_pairs e3
          have hpr : ∀ v ∈ its, ∃ q : Int × Int, q ∈ ps ∧ Srt.IsPair s.heap v q.1 q.2 ∧ RV ρ s.heap (dPair q) v := fun v hv => by
            obtain ⟨d, hd, rd⟩ := RVs.mem rr hv
            rw [ex] at hd
            obtain ⟨q, hq, rfl⟩ := List.mem_map.mp hd
            exact ⟨q, hq, pair_rv rd, rd⟩
          open Classical in
          obtain ⟨k, hk⟩ : ∃ k : Value → Int × Int, ∀ v ∈ its, Srt.IsPair s.heap v (k v).1 (k v).2 ∧ RV ρ s.heap (dPair (k v)) v := by
            refine ⟨fun v => if hv : v ∈ its then Classical.choose (hpr v hv) else (0, 0), fun v hv => ?_⟩
            simp only [hv, dif_pos]
            have := Classical.choose_spec (hpr v hv)
            exact ⟨this.2.1, this.2.2⟩
          have ek : its.map k = ps := by
            have : ∀ {qs : List (Int × Int)} {us : List Value}, RVs ρ s.heap (qs.map dPair) us → (∀ v ∈ us, Srt.IsPair s.heap v (k v).1 (k v).2) → us.map k = qs := by
              intro qs
              induction qs with
              | nil => intro us r _; simp only [List.map_nil, RVs] at r; subst r; rfl
              | cons q qs ih =>
                intro us r hu
                simp only [List.map_cons, RVs] at r
                obtain ⟨w, t, rfl, r1, r2⟩ := r
                rw [List.map_cons, ih r2 fun v hv => hu v (.tail _ hv)]
                have := IsPair.one (hu w (.head _)) (pair_rv r1)
                rw [Prod.ext this.1 this.2]
            exact this (by rw [← ex]; exact rr) fun v hv => (hk v hv).1
          refine wpAny_hz (SrtO.sorted_pairsO (k := k) hl hz' (fun v hv => (hk v hv).1) fun h' d out h1 h2 kp hd ⟨n', hn⟩ sz => ?_)
          have eq : out.map k = srtB SrtO.lexB ps := srt_one lex_anti ((h2.perm.map k).trans (by rw [ek]; exact (srtB_perm _ ps).symm)) (List.pairwise_map.mpr h1) (srtB_srt lex_swo ps)
          have r2 : RVs ρ s.heap ((srtB SrtO.lexB ps).map dPair) out := by
            rw [← eq, List.map_map]
            exact RVs.of_all fun u hu => (hk u (h2.perm.mem_iff.mp hu)).2
          have hz2 : ((srtB SrtO.lexB ps).map dPair).length ≤ sizeLine := by
            rw [List.length_map, (srtB_perm _ ps).length_eq, ← List.length_map (f := dPair), ← ex]; exact hz
          obtain ⟨I1, K1⟩ := I.newlist (t := s.toks) (l := d) kp sz hd r2 hz2 hn
          exact h _ _ _ I1 K1 ⟨_, _, nx_rho I, rfl⟩
  · exact h.elim⟩
end
end Z

set_option Elab.async false
set_option linter.all false
set_option maxRecDepth 100000
set_option maxHeartbeats 0
/-! the engine, part ZZm: sorted of a dict's int keys, list.extend, min and max of two ints -/
namespace Z
open PySem PySem.Spec PyProof.Rows
open L2 (frs)
section
variable {X : Cx} {σ : Sl} {m m' : Store} {ρ ρ1 ρ' : Rho} {s s1 s' : Shared} {E : Value → Shared → Prop}
def rSrt2 : List D → Store → Res D := fun vs m => match vs with
  | [.ref i] => (match m.cs[i]? with
    | some (.dct kvs) => (match intsD (kvs.map (·.1)) with
      | some ns => if ns.length < 64 then .ok (.ref m.nx) (m.push (.lst ((srtB ltI ns).map D.int))) else .bad
      | none => .bad)
    | _ => rSrt vs m)
  | _ => .bad
theorem lk_ints : ∀ {kvs : List (D × D)} {ns : List Int}, intsD (kvs.map (·.1)) = some ns → lkAll kvs = true
  | [], ns, _ => rfl
  | p :: kvs, ns, h => by
    obtain ⟨k, v⟩ := p
    cases k with
    | int i =>
      simp only [List.map_cons, intsD, Option.map_eq_some_iff] at h
      obtain ⟨cs, e1, _⟩ := h
      have := lk_ints e1
      unfold lkAll at this ⊢
      simp only [List.all_cons, this, Bool.and_true]
      rfl
    | _ => simp only [List.map_cons, intsD] at h; cases h
theorem lf_keys {ρ : Rho} {h : Heap} : ∀ {kvs : List (D × D)} {ys : List (L2.Key × Value)} {ns : List Int}, Paired (LfR ρ h) kvs ys → intsD (kvs.map (·.1)) = some ns → ys.map (·.1) = ns.map Sum.inl
  | [], _, ns, .nil, e => by cases e; rfl
  | (k, v) :: kvs, y :: ys, ns, .cons r p, e => by
    cases k with
    | int i =>
      simp only [List.map_cons, intsD, Option.map_eq_some_iff] at e
      obtain ⟨cs, e1, rfl⟩ := e
      have h1 := r.1
      simp only [lk, Option.some.injEq] at h1
      rw [List.map_cons, lf_keys p e1, ← h1]; rfl
    | _ => simp only [List.map_cons, intsD] at e; cases e
theorem o_srt2 (hc : X.calm = true) : O1s X (.builtin "sorted") rSrt2 := ⟨fun σ m ρ s vs us Q E I rs h => by
  unfold rSrt2 at h
  split at h
  · rename_i i
    split at h
    · rename_i kvs ed
      split at h
      · rename_i ns e2
        split at h
        · rename_i h64
          obtain ⟨u, rfl, r⟩ := rs.one
          obtain ⟨q, rfl, hp, d⟩ := I.dct ed r
          obtain ⟨vs, dd, fr⟩ := d.leaf (lk_ints e2)
          obtain ⟨z, lo, _⟩ := d
          obtain ⟨ep, hat⟩ := dd.dictAt
          have hkeys : vs.map (·.1) = ns.map Sum.inl := lf_keys fr e2
          have hl : vs.length = ns.length := by
            have e := congrArg List.length hkeys
            rw [List.length_map, List.length_map] at e
            exact e
          have h16 : vs.length ≤ sizeLine := by rw [hl, sizeLine_eq]; omega
          refine wpAny_hz (Calls.call_function_entry PyProof.Rows.kind_sorted PyProof.Rows.plain_sorted PyProof.Rows.entry_sorted (PyProof.Rows.args_sorted1 _) ?_)
          unfold Builtin.«sorted»
          refine wpAny_bind (m := checkCount "sorted" 1 1 _) (wpAny_pure ?_)
          refine wpAny_bind (wpAny_hz (PySem.W.kdu_collect (A := X.A.in1) (PySem.W.kdl_dict (knd := keyS X.G.P X.G.w) (kvs := vs) (ep := ep) lo) (I.ok.hd hc) hat h16 fun h' tk acc hk hacc ksz => ?_))
          have hal : acc.toList.length = ns.length := by rw [Array.length_toList, hacc.1, hl]
          have hS : IntsAre acc.toList ns := L2.ints_each hal fun j v e => by
            obtain ⟨k, x, e1, e2⟩ := hacc.2 j v (by rw [← Array.getElem?_toList]; exact e)
            have e3 : (vs.map (·.1))[j]? = some k := by rw [List.getElem?_map, e1]; rfl
            rw [hkeys, List.getElem?_map] at e3
            cases e4 : ns[j]? with
            | none => rw [e4] at e3; cases e3
            | some y =>
              rw [e4] at e3
              have e5 : Sum.inl y = k := Option.some.inj e3
              subst e5
              rcases L2.keyIs_shape (show L2.keyIs (Sum.inl y) v = true from e2) with ⟨i, t, ek, ev⟩ | ⟨z, t, ek, ev⟩
              · cases ek
                exact ⟨y, t, rfl, ev⟩
              · cases ek
          refine wpAny_bind (wpAny_newList ?_ (by rw [hal, sizeLine_eq]; omega))
          have hoL : (h'.push (seqObj "list" acc.toList.toArray 0)).get? h'.objs.size = some (seqObj "list" acc.toList.toArray 0) := Heap.get?_push_size _ rfl
          show wpAny _ _ _ _ _ { s with heap := h'.push (seqObj "list" acc.toList.toArray 0), toks := tk }
          refine wpAny_bind (wpAny_holding (wpAny_call_entry PyProof.Rows.slot_list_sort ⟨_, hoL, rfl⟩ PyProof.Rows.entry_list_sort
            (PyProof.Rows.list_sort_tree (s := { s with heap := h'.push (seqObj "list" acc.toList.toArray 0), toks := tk }) hoL hS (by rw [hal]; exact h64) fun out ys g1 g2 g3 => ⟨_, rfl, ?_⟩) (PyProof.Rows.args_list_sort _)))
          obtain ⟨e', he'⟩ := PyProof.Rows.sortedHeap_at (vs := acc.toList) (out := out) hoL
          have eq : ys = srtB ltI ns := srt_one ltI_anti (g2.trans (srtB_perm ltI ns).symm) (g3.imp fun {x y} h => by simp only [ltI, decide_eq_false_iff_not]; omega) (srtB_srt ltI_swo ns)
          have hz2 : ((srtB ltI ns).map D.int).length ≤ sizeLine := by
            rw [List.length_map, (srtB_perm ltI ns).length_eq, sizeLine_eq]; omega
          refine wpAny_pure ⟨_, rfl, fun sz => ?_⟩
          obtain ⟨I1, K1⟩ := I.newlist (t := tk) (l := h'.objs.size) (fun b u e => by
            have hb : b < h'.objs.size := Heap.lt_size (hk b u e)
            rw [PyProof.Rows.sortedHeap_old (Nat.ne_of_lt hb) (by rw [Heap.size_push]; exact Nat.lt_succ_of_lt hb)]
            exact Heap.get?_push_of_some _ (hk b u e)) (Nat.le_trans ksz (Nat.le_of_lt (Heap.lt_size he'))) ksz (by rw [← eq]; exact ints_rv g1) hz2 (by rw [Array.toArray_toList] at *; exact he')
          exact h _ _ _ I1 K1 ⟨_, _, nx_rho I, rfl⟩
        · exact h.elim
      · exact h.elim
    · exact o_srt.run σ m ρ s _ us Q E I rs h
  · exact h.elim⟩
def rExtend : D → List D → Store → Res D := fun v vs m => match v, vs with
  | .ref i, [.ref j] => (match m.cs[i]?, m.cs[j]? with
    | some (.lst xs), some (.lst ys) => if xs.length + ys.length ≤ 16777216 then .ok .non (m.put i (.lst (xs ++ ys))) else .bad
    | _, _ => .bad)
  | _, _ => .bad
theorem m_extend : OM X "list.extend" rExtend := ⟨fun σ m ρ s v vs u us Q E I rx rs h => by
  unfold rExtend at h
  split at h
  · rename_i i j
    split at h
    · rename_i xs ys e1 e2
      split at h
      · rename_i hz
        obtain ⟨w, rfl, rw'⟩ := rs.one
        obtain ⟨z, p, its, n, hp, rfl, r, hl, g⟩ := I.lat e1 rx
        obtain ⟨z2, p2, its2, n2, hp2, rfl, r2, hl2, g2⟩ := I.lat e2 rw'
        have hsz : its.toArray.size + its2.toArray.size ≤ sizeLine := by rw [List.size_toArray, List.size_toArray, sizeLine_eq]; omega
        have hlong : ¬ (!its.toArray.isEmpty && Builtin.List.listTooLong (its.toArray.size + its2.toArray.size)) = true := by
          rw [L2.notLongL hsz, Bool.and_false]
          exact Bool.false_ne_true
        refine call_meets F.slot_list_extend ⟨_, g, rfl⟩ F.entry_list_extend (F.args_list_extend_2 _ _) (AutoSeq1.list_extend_list_list_0 p its.toArray n p2 its2.toArray n2 hlong (by omega) (by omega)) ⟨g, g2, ?_⟩
        obtain ⟨I1, K1⟩ := I.lput (us' := its ++ its2) (t := s.toks) (F := fun xs => xs ++ its2.toArray) e1 hp (r.app r2) (by rw [List.length_append, sizeLine_eq]; exact hz) g (by simp)
        exact h _ _ ρ I1 K1 rfl
      · exact h.elim
    · exact h.elim
  · exact h.elim⟩
theorem RVs.duo {ρ : Rho} {h : Heap} {v w : D} {us : List Value} (r : RVs ρ h [v, w] us) : ∃ u u', us = [u, u'] ∧ RV ρ h v u ∧ RV ρ h w u' := by
  simp only [RVs] at r
  obtain ⟨u, q, rfl, a, u', q', rfl, b, rfl⟩ := r
  exact ⟨u, u', rfl, a, b⟩
def rMax : List D → Store → Res D := fun vs m => match vs with
  | [.int i, .int j] => .ok (.int (if j > i then j else i)) m
  | _ => .bad
def rMin : List D → Store → Res D := fun vs m => match vs with
  | [.int i, .int j] => .ok (.int (if j < i then j else i)) m
  | _ => .bad
theorem o_max (hc : X.calm = true) : O1s X (.builtin "max") rMax := ⟨fun σ m ρ s vs us Q E I rs h => by
  unfold rMax at h
  split at h
  · rename_i i j
    obtain ⟨u, u', rfl, ⟨t, rfl⟩, ⟨t', rfl⟩⟩ := rs.duo
    refine wpAny_hz (max_two_ints (I.ok.hd hc) fun h' tk k sz => ?_)
    obtain ⟨I1, K1⟩ := I.kept (h' := h') (t := tk) k sz
    refine h _ _ _ I1 K1 ?_
    by_cases hj : j > i
    · rw [if_pos hj, if_pos hj]; exact ⟨_, rfl⟩
    · rw [if_neg hj, if_neg hj]; exact ⟨_, rfl⟩
  · exact h.elim⟩
theorem o_min (hc : X.calm = true) : O1s X (.builtin "min") rMin := ⟨fun σ m ρ s vs us Q E I rs h => by
  unfold rMin at h
  split at h
  · rename_i i j
    obtain ⟨u, u', rfl, ⟨t, rfl⟩, ⟨t', rfl⟩⟩ := rs.duo
    refine wpAny_hz (min_two_ints (I.ok.hd hc) fun h' tk k sz => ?_)
    obtain ⟨I1, K1⟩ := I.kept (h' := h') (t := tk) k sz
    refine h _ _ _ I1 K1 ?_
    by_cases hj : j < i
    · rw [if_pos hj, if_pos hj]; exact ⟨_, rfl⟩
    · rw [if_neg hj, if_neg hj]; exact ⟨_, rfl⟩
  · exact h.elim⟩
end
end Z

set_option Elab.async false
set_option linter.all false
set_option maxRecDepth 100000
set_option maxHeartbeats 0
/-! the engine, part ZZn: calls that look at what they reach alone, by reaching it -/
namespace Z
open PySem PySem.Spec PyProof.Rows
open L2 (frs)

def frOk (m : Store) (sel : List Nat) (vs : List D) : Bool :=
  nds sel && (sel.all fun i => match m.cs[i]? with | some c => okC (fun k => sel.contains k) c | none => false) && (m.cs.all Cel.nz) && okDs (fun k => sel.contains k) vs
def frC (m : Store) (sel : List Nat) : List Cel := sel.map fun i => renC (fun k => idx k sel) ((m.cs[i]?).getD (.tbl 0))
/-- r run in the cells that its arguments reach (and the T tables ahead of them) -/
def frm (T : Nat) (r : List D → Store → Res D) : List D → Store → Res D := fun vs m =>
  let sel := List.range T ++ reach m.cs T 100000 vs []
  if frOk m sel vs = true then
    match r (renDs (fun k => idx k sel) vs) ⟨frC m sel, sel.length⟩ with
    | .ok v m1 => if m1.low = sel.length then .ok (renD (tS sel m.cs.length) v) (Sub.res m sel m1) else r vs m
    | .exc x m1 => if m1.low = sel.length then .exc ⟨x.C, x.ns, renDs (tS sel m.cs.length) x.vs⟩ (Sub.res m sel m1) else r vs m
    | .bad => r vs m
  else r vs m
section
variable {m : Store} {sel : List Nat} {vs : List D}
theorem frOk_sub (h : frOk m sel vs = true) : Sub m sel (frC m sel) ∧ okDs (fun j => decide (j < (frC m sel).length)) (renDs (fun k => idx k sel) vs) = true ∧ vs = renDs (tS sel m.cs.length) (renDs (fun k => idx k sel) vs) := by
  unfold frOk at h
  simp only [Bool.and_eq_true] at h
  obtain ⟨⟨⟨h1, h2⟩, h3⟩, h4⟩ := h
  have nd := nds_ok h1
  have fl : (frC m sel).length = sel.length := by unfold frC; rw [List.length_map]
  have at2 : ∀ i ∈ sel, ∃ c, m.cs[i]? = some c ∧ okC (fun k => sel.contains k) c = true := fun i hi => by
    have := List.all_eq_true.mp h2 i hi
    split at this
    · rename_i c e; exact ⟨c, e, this⟩
    · cases this
  have bk : ∀ k, sel.contains k = true → tS sel m.cs.length (idx k sel) = k := fun k hk => tS_lt (idx_get (by simpa using hk))
  have ix : ∀ k, sel.contains k = true → decide (idx k sel < (frC m sel).length) = true := fun k hk => by
    have := (List.getElem?_eq_some_iff.mp (idx_get (l := sel) (i := k) (by simpa using hk))).1
    rw [fl]; simpa using this
  refine ⟨⟨nd, fl, fun j i c e1 e2 => ?_, fun c hc => ?_, fun c hc => List.all_eq_true.mp h3 c hc⟩, okDs_ren ix vs h4, (rens_rens bk vs h4).symm⟩
  · obtain ⟨c', hc', ok⟩ := at2 i (List.mem_of_getElem? e1)
    unfold frC at e2
    rw [List.getElem?_map, e1] at e2
    simp only [Option.map_some, hc', Option.getD_some, Option.some.injEq] at e2
    rw [← e2, renC_renC bk c' ok, hc']
  · unfold frC at hc
    obtain ⟨i, hi, rfl⟩ := List.mem_map.mp hc
    obtain ⟨c', hc', ok⟩ := at2 i hi
    rw [hc', Option.getD_some]
    exact okC_ren ix c' ok
end
theorem FnZ.frm {G : Gl} {k : Nat} {f : Addr} {fd : FuncData} {ps : List Str} {r : List D → Store → Res D} (F : FnZ G k f fd ps r) (T : Nat) : FnZ G k f fd ps (frm T r) := F.spec fun vs m => by
  unfold Z.frm
  dsimp only
  generalize List.range T ++ reach m.cs T 100000 vs [] = sel
  split
  · rename_i h
    obtain ⟨U, ok, e⟩ := frOk_sub h
    have fl : (frC m sel).length = sel.length := by unfold frC; rw [List.length_map]
    cases hr : r (renDs (fun k => idx k sel) vs) ⟨frC m sel, sel.length⟩ with
    | ok v m1 =>
      dsimp only
      split
      · rename_i lo
        exact Fr.ok U ok e (by rw [fl]; exact hr) (by rw [fl]; exact lo)
      · exact .same
    | exc x m1 =>
      dsimp only
      split
      · rename_i lo
        exact Fr.exc U ok e (by rw [fl]; exact hr) (by rw [fl]; exact lo)
      · exact .same
    | bad => exact .same
  · exact .same
/-! ### such a call over known cells -/
theorem renDs_append (t : Nat → Nat) : ∀ (a b : List D), renDs t (a ++ b) = renDs t a ++ renDs t b
  | [], b => rfl
  | v :: a, b => by simp only [List.cons_append, renDs, renDs_append t a b]
theorem refs_ren (t : Nat → Nat) (c : Cel) : (renC t c).refs = renDs t c.refs := by
  cases c with
  | lst vs => rfl
  | frz vs => rfl
  | dct kvs =>
    simp only [renC, Cel.refs, renDs_map, List.map_map, List.map_append]
    rfl
  | box v => cases v <;> rfl
  | clo l cs => simp only [renC, Cel.refs, renDs_map, List.map_map]; rfl
  | exc C ns vs => rfl
  | tbl l => rfl
  | zb => rfl
  | zd => rfl
section
variable {m : Store} {sel : List Nat} {cs0 : List Cel} {T : Nat}
theorem At.get (a : At m sel cs0) {j : Nat} (h : j < cs0.length) : ∃ c, cs0[j]? = some c ∧ sel[j]? = some (tP sel j) ∧ m.cs[tP sel j]? = some (renC (tP sel) c) := by
  have hj : j < sel.length := by rw [← a.len]; exact h
  have e : sel[j]? = some (tP sel j) := by unfold tP; rw [List.getD_eq_getElem?_getD, List.getElem?_eq_getElem hj]; rfl
  exact ⟨_, List.getElem?_eq_getElem h, e, a.here j _ _ e (List.getElem?_eq_getElem h)⟩
theorem At.inj (a : At m sel cs0) {i j : Nat} (hi : i < cs0.length) (hj : j < cs0.length) (e : tP sel i = tP sel j) : i = j := by
  obtain ⟨_, _, e1, _⟩ := a.get hi
  obtain ⟨_, _, e2, _⟩ := a.get hj
  rw [← e] at e2
  have hk := (List.getElem?_eq_some_iff.mp e1).1
  exact (List.getElem?_inj hk a.nd).mp (e1.trans e2.symm)
theorem reach_ren (a : At m sel cs0) (hT : ∀ i, i < T → tP sel i = i) (hTl : T ≤ cs0.length) : ∀ (f : Nat) (w : List D) (acc : List Nat), okDs (fun j => decide (j < cs0.length)) w = true → (∀ i ∈ acc, i < cs0.length) →
    reach m.cs T f (renDs (tP sel) w) (acc.map (tP sel)) = (reach cs0 T f w acc).map (tP sel) ∧ ∀ i ∈ reach cs0 T f w acc, i < cs0.length := by
  have lt : ∀ i, i < cs0.length → (tP sel i < T ↔ i < T) := fun i hi => by
    constructor
    · intro h
      have := a.inj (i := tP sel i) (j := i) (by omega) hi (hT _ h)
      omega
    · intro h; rw [hT i h]; exact h
  intro f
  induction f with
  | zero => intro w acc _ ha; unfold reach; exact ⟨rfl, ha⟩
  | succ f ih =>
    intro w acc hw ha
    cases w with
    | nil => simp only [renDs]; unfold reach; exact ⟨rfl, ha⟩
    | cons v w =>
      simp only [okDs, Bool.and_eq_true] at hw
      cases v with
      | ref i =>
        have hi : i < cs0.length := by simpa [okD] using hw.1
        obtain ⟨c, e1, e2, e3⟩ := a.get hi
        have hc : (acc.map (tP sel)).contains (tP sel i) = acc.contains i := by
          rw [Bool.eq_iff_iff]
          simp only [List.contains_eq_mem, decide_eq_true_eq, List.mem_map]
          constructor
          · rintro ⟨j, hj, e⟩
            rw [← a.inj (ha j hj) hi e]; exact hj
          · intro h; exact ⟨i, h, rfl⟩
        have hd : decide (tP sel i < T) = decide (i < T) := by rw [decide_eq_decide]; exact lt i hi
        simp only [renDs, renD]
        rw [reach, reach]
        simp only [hc, hd]
        by_cases hh : (decide (i < T) || acc.contains i) = true
        · rw [if_pos hh, if_pos hh]
          exact ih w acc hw.2 ha
        · rw [if_neg hh, if_neg hh]
          simp only [e1, e3, refs_ren, ← renDs_append]
          have := ih (c.refs ++ w) (acc ++ [i]) (okDs_append.mpr ⟨refs_ok (List.all_eq_true.mp a.ok c (List.mem_of_getElem? e1)), hw.2⟩) (fun j hj => by
            rcases List.mem_append.mp hj with hj | hj
            · exact ha j hj
            · simp at hj; omega)
          rw [List.map_append, List.map_cons, List.map_nil] at this
          exact this
      | tup vs =>
        simp only [renDs, renD]
        rw [reach, reach]
        have h1 : okDs (fun j => decide (j < cs0.length)) vs = true := by simpa [okD] using hw.1
        rw [← renDs_append]
        exact ih (vs ++ w) acc (okDs_append.mpr ⟨h1, hw.2⟩) ha
      | _ =>
        simp only [renDs, renD]
        unfold reach
        exact ih w acc hw.2 ha
theorem tP_range (sel : List Nat) : (List.range sel.length).map (tP sel) = sel := by
  refine List.ext_getElem? fun i => ?_
  rw [List.getElem?_map]
  by_cases h : i < sel.length
  · rw [List.getElem?_range h]
    simp only [Option.map_some, tP, List.getD_eq_getElem?_getD, List.getElem?_eq_getElem h, Option.getD_some]
  · rw [List.getElem?_eq_none (by simpa using h), List.getElem?_eq_none (by omega)]; rfl
theorem nds_of : ∀ {l : List Nat}, l.Nodup → nds l = true
  | [], _ => rfl
  | i :: r, h => by
    obtain ⟨h1, h2⟩ := List.nodup_cons.mp h
    unfold nds
    simp [h1, nds_of h2]
/-- what frm is over known cells: all that is asked of the lot is looked at in cs0 -/
def frK (T : Nat) (cs0 : List Cel) (vs0 : List D) : Bool := decide (List.range T ++ reach cs0 T 100000 vs0 [] = List.range cs0.length) && okDs (fun j => decide (j < cs0.length)) vs0 && okCs cs0 && decide (T ≤ cs0.length)
theorem frm_at (a : At m sel cs0) (nz : NoZ m) (hT : ∀ i, i < T → tP sel i = i) {vs0 : List D} (h : frK T cs0 vs0 = true) :
    List.range T ++ reach m.cs T 100000 (renDs (tP sel) vs0) [] = sel ∧ frOk m sel (renDs (tP sel) vs0) = true ∧ renDs (fun k => idx k sel) (renDs (tP sel) vs0) = vs0 ∧ frC m sel = cs0 := by
  unfold frK at h
  simp only [Bool.and_eq_true, decide_eq_true_eq] at h
  obtain ⟨⟨⟨h1, h2⟩, h3⟩, h4⟩ := h
  have hr := (reach_ren a hT h4 100000 vs0 [] h2 (fun i hi => by cases hi)).1
  simp only [List.map_nil] at hr
  have rT : List.range T = (List.range T).map (tP sel) := by
    exact ((List.map_congr_left fun i hi => hT i (List.mem_range.mp hi)).trans (List.map_id _)).symm
  have hsel : List.range T ++ reach m.cs T 100000 (renDs (tP sel) vs0) [] = sel := by
    rw [hr, rT, ← List.map_append, h1, a.len, tP_range]
  have ix : ∀ j, decide (j < cs0.length) = true → idx (tP sel j) sel = j := fun j hj => by
    obtain ⟨_, _, e, _⟩ := a.get (j := j) (by simpa using hj)
    have hm := List.mem_of_getElem? e
    have e2 := idx_get hm
    have hk := (List.getElem?_eq_some_iff.mp e2).1
    exact (List.getElem?_inj hk a.nd).mp (e2.trans e.symm)
  have ct : ∀ j, decide (j < cs0.length) = true → sel.contains (tP sel j) = true := fun j hj => by
    obtain ⟨_, _, e, _⟩ := a.get (j := j) (by simpa using hj)
    simpa using List.mem_of_getElem? e
  refine ⟨hsel, ?_, rens_rens ix vs0 h2, ?_⟩
  · unfold frOk
    simp only [Bool.and_eq_true]
    refine ⟨⟨⟨nds_of a.nd, List.all_eq_true.mpr fun i hi => ?_⟩, List.all_eq_true.mpr nz⟩, okDs_ren ct vs0 h2⟩
    obtain ⟨j, hj⟩ := List.mem_iff_getElem?.mp hi
    have hl : j < cs0.length := by rw [a.len]; exact (List.getElem?_eq_some_iff.mp hj).1
    have e := a.here j i _ hj (List.getElem?_eq_getElem hl)
    simp only [e]
    exact okC_ren ct _ (List.all_eq_true.mp h3 _ (List.getElem_mem hl))
  · refine List.ext_getElem? fun j => ?_
    unfold frC
    rw [List.getElem?_map]
    by_cases hl : j < cs0.length
    · obtain ⟨c, e1, e2, e3⟩ := a.get hl
      rw [e2, e1]
      simp only [Option.map_some, e3, Option.getD_some]
      rw [renC_renC ix c (List.all_eq_true.mp h3 c (List.mem_of_getElem? e1))]
    · have := a.len
      rw [List.getElem?_eq_none (l := sel) (by omega), List.getElem?_eq_none (l := cs0) (by omega)]; rfl
theorem frm_ok {r : List D → Store → Res D} (a : At m sel cs0) (nz : NoZ m) (hT : ∀ i, i < T → tP sel i = i) {vs0 : List D} {v0 : D} {m1 : Store} (h : frK T cs0 vs0 = true) (hr : r vs0 ⟨cs0, cs0.length⟩ = .ok v0 m1) (lo : m1.low = cs0.length) :
    frm T r (renDs (tP sel) vs0) m = .ok (renD (tS sel m.cs.length) v0) (Sub.res m sel m1) := by
  obtain ⟨h1, h2, h3, h4⟩ := frm_at a nz hT h
  unfold frm
  simp only [h1, h2, h3, h4, if_true, ← a.len, hr, lo]
theorem frm_exc {r : List D → Store → Res D} (a : At m sel cs0) (nz : NoZ m) (hT : ∀ i, i < T → tP sel i = i) {vs0 : List D} {x : Ex} {m1 : Store} (h : frK T cs0 vs0 = true) (hr : r vs0 ⟨cs0, cs0.length⟩ = .exc x m1) (lo : m1.low = cs0.length) :
    frm T r (renDs (tP sel) vs0) m = .exc ⟨x.C, x.ns, renDs (tS sel m.cs.length) x.vs⟩ (Sub.res m sel m1) := by
  obtain ⟨h1, h2, h3, h4⟩ := frm_at a nz hT h
  unfold frm
  simp only [h1, h2, h3, h4, if_true, ← a.len, hr, lo]
end
end Z

set_option Elab.async false
set_option linter.all false
set_option maxRecDepth 100000
set_option maxHeartbeats 0
/-! the engine, part ZZo: the program's plainest defs, and a web that is one -/
namespace Z
open PySem PySem.Spec PyProof.Rows
open L2 (frs)

def vIsList : SV := (bCons (sRet (eCall (lCons (eV 0) (lCons (eTup (lCons (eC (.ty "list")) (lCons (eC (.ty "tuple")) lNil))) lNil)) lNil (fun vs _ m => rIsi vs m))) bNil)
abbrev rIsList : List D → Store → Res D := fnR [false] vIsList
def vIsWhole : SV := (bCons (sRet (eAnd (eCall (lCons (eV 0) (lCons (eC (.ty "int")) lNil)) lNil (fun vs _ m => rIsi vs m)) (eNot (eCall (lCons (eV 0) (lCons (eC (.ty "bool")) lNil)) lNil (fun vs _ m => rIsi vs m))))) bNil)
abbrev rIsWhole : List D → Store → Res D := fnR [false] vIsWhole
def vIsNumber : SV := (bCons (sRet (eAnd (eCall (lCons (eV 0) lNil) lNil (bindR 1 0 [0] rIsWhole)) (e2 (rLtI pGe) (eV 0) (eC (.int 0))))) bNil)
abbrev rIsNumber : List D → Store → Res D := fnR [false] vIsNumber
def vIsBelow : SV := (bCons (sRet (eAnd (eCall (lCons (eV 0) lNil) lNil (bindR 1 0 [0] rIsNumber)) (e2 rLt (eV 0) (eV 1)))) bNil)
abbrev rIsBelow : List D → Store → Res D := fnR [false, false] vIsBelow
def vIsRow : SV := (bCons (sRet (eAnd (eCall (lCons (eV 0) lNil) lNil (bindR 1 0 [0] rIsList)) (e2 rEq (eCall (lCons (eV 0) lNil) lNil (fun vs _ m => rLen vs m)) (eV 1)))) bNil)
abbrev rIsRow : List D → Store → Res D := fnR [false, false] vIsRow
def vIsAscending : SV := (bCons (sRet (eCall (lCons (eLc (iCall (lCons (eV 0) (lCons (eSl (eV 0) (oSome (eC (.int 1))) oNone) lNil)) rZip) [none, none] (gTup 2 (gCons (gName 0) (gCons (gName 1) gNil))) tYes (e2 rLt (eV 0) (eV 1)) 80) lNil) lNil (fun vs _ m => rAll vs m))) bNil)
abbrev rIsAscending : List D → Store → Res D := fnR [false] vIsAscending
section
variable {m : Store}
/-- a call that changes nothing -/
theorem fnR_pure {nb : List Bool} {body : SV} {vs : List D} {v : D} {l : List Cel} {lo : Nat} (hw : WS m) (hl : m.low ≤ m.cs.length) (h : body (starts nb vs m.cs.length) ⟨m.cs ++ startc nb vs, m.cs.length⟩ = .ret v ⟨m.cs ++ l, lo⟩) (hlo : m.cs.length ≤ lo) (ok : okD (fun j => decide (j < m.cs.length)) v = true) : fnR nb body vs m = .ok v m := by
  refine fnR_ret h ?_
  rw [gc_flat rfl hw (by simp only [okDs, ok]; rfl)]
  rw [Nat.min_eq_left (Nat.le_trans hl hlo)]
theorem fnR_pureX {nb : List Bool} {body : SV} {vs : List D} {x : Ex} {σ : Sl} {l : List Cel} {lo : Nat} (hw : WS m) (hl : m.low ≤ m.cs.length) (h : body (starts nb vs m.cs.length) ⟨m.cs ++ startc nb vs, m.cs.length⟩ = .exc x σ ⟨m.cs ++ l, lo⟩) (hlo : m.cs.length ≤ lo) (ok : okDs (fun j => decide (j < m.cs.length)) x.vs = true) : fnR nb body vs m = .exc x m := by
  have := fnR_exc h (gc_flat rfl hw ok)
  rw [this, Nat.min_eq_left (Nat.le_trans hl hlo)]
theorem WS.low {lo : Nat} (h : WS m) : WS ⟨m.cs, lo⟩ := h
theorem WS.push {c : Cel} {lo : Nat} (h : WS m) (ok : okC (fun j => decide (j < m.cs.length)) c = true) : WS ⟨m.cs ++ [c], lo⟩ := fun x hx => by
  have up : ∀ c : Cel, okC (fun j => decide (j < m.cs.length)) c = true → okC (fun j => decide (j < (m.cs ++ [c]).length)) c = true ∧ ∀ y, okC (fun j => decide (j < (m.cs ++ [y]).length)) c = true := fun c hc => by
    have : ∀ y, okC (fun j => decide (j < (m.cs ++ [y]).length)) c = true := fun y => by
      have := okC_ren (t := id) (q := fun j => decide (j < (m.cs ++ [y]).length)) (fun i hi => by simp only [decide_eq_true_eq, id, List.length_append, List.length_singleton] at hi ⊢; omega) c hc
      rwa [show renC id c = c from renC_id (n := m.cs.length) (fun _ _ => rfl) c hc] at this
    exact ⟨this _, this⟩
  rcases List.mem_append.mp hx with hx | hx
  · exact (up x (h x hx)).2 c
  · simp at hx; subst hx; exact (up x ok).1
theorem is_list_tup (hw : WS m) (hl : m.low ≤ m.cs.length) (xs : List D) : rIsList [.tup xs] m = .ok (.bl true) m :=
  fnR_pure (l := []) hw hl (show vIsList [.val (.tup xs)] ⟨m.cs ++ [], m.cs.length⟩ = .ret (.bl true) ⟨m.cs ++ [], m.cs.length⟩ from rfl) (Nat.le_refl _) rfl
theorem is_list_ref (hw : WS m) (hl : m.low ≤ m.cs.length) {k : Nat} {xs : List D} (h : m.cs[k]? = some (.lst xs)) : rIsList [.ref k] m = .ok (.bl true) m := by
  refine fnR_pure (l := []) hw hl ?_ (Nat.le_refl _) rfl
  show vIsList [.val (.ref k)] ⟨m.cs ++ [], m.cs.length⟩ = .ret (.bl true) ⟨m.cs ++ [], m.cs.length⟩
  rw [List.append_nil]
  refine k_rt (k_ret ?_)
  have e1 : lCons (eV 0) (lCons (eTup (lCons (eC (.ty "list")) (lCons (eC (.ty "tuple")) lNil))) lNil) [.val (.ref k)] ⟨m.cs, m.cs.length⟩ = .ok [.ref k, .tup [.ty "list", .ty "tuple"]] ⟨m.cs, m.cs.length⟩ := rfl
  have ty : tyOf ⟨m.cs, m.cs.length⟩ (.ref k) = some "list" := by simp only [tyOf, h]
  refine (k_call (fk := lNil) (r := fun vs _ m => rIsi vs m) e1 rfl).trans ?_
  show (match tyOf ⟨m.cs, m.cs.length⟩ (.ref k) with
    | some t => (match subAny t [.ty "list", .ty "tuple"] with | some b => Res.ok (D.bl b) (⟨m.cs, m.cs.length⟩ : Store) | none => .bad)
    | none => .bad) = _
  rw [ty]
  rfl
theorem is_whole_int (hw : WS m) (hl : m.low ≤ m.cs.length) (i : Int) : rIsWhole [.int i] m = .ok (.bl true) m :=
  fnR_pure (l := []) hw hl (show vIsWhole [.val (.int i)] ⟨m.cs ++ [], m.cs.length⟩ = .ret (.bl true) ⟨m.cs ++ [], m.cs.length⟩ from rfl) (Nat.le_refl _) rfl
theorem k_and {f g : EV} {σ : Sl} {m1 : Store} (h : f σ m = .ok (.bl true) m1) : eAnd f g σ m = g σ m1 := by unfold eAnd; rw [h]; rfl
theorem k_and0 {f g : EV} {σ : Sl} {m1 : Store} (h : f σ m = .ok (.bl false) m1) : eAnd f g σ m = .ok (.bl false) m1 := by unfold eAnd; rw [h]; rfl
theorem is_number_int (hw : WS m) (hl : m.low ≤ m.cs.length) {i : Int} (h0 : 0 ≤ i) : rIsNumber [.int i] m = .ok (.bl true) m := by
  refine fnR_pure (l := []) hw hl ?_ (Nat.le_refl _) rfl
  show vIsNumber [.val (.int i)] ⟨m.cs ++ [], m.cs.length⟩ = .ret (.bl true) ⟨m.cs ++ [], m.cs.length⟩
  rw [List.append_nil]
  have e0 : eV 0 [.val (.int i)] ⟨m.cs, m.cs.length⟩ = .ok (.int i) ⟨m.cs, m.cs.length⟩ := rfl
  refine k_rt (k_ret ?_)
  rw [k_and ((k_call (fk := lNil) (r := bindR 1 0 [0] rIsWhole) (l1_go e0) rfl).trans (bind1.trans (is_whole_int hw.low (Nat.le_refl _) i)))]
  simp only [sAsg, sRet, e2, eCall, lCons, lNil, eC, eV, eIf, ts, truth, Res.bind, Res.toS, gName, setS, List.getElem?_cons_zero, List.getElem?_cons_succ, List.set_cons_zero, List.set_cons_succ, rAdd, rMul, rMod, rFdv, rInt, rAbs, rLtI, rPow, pGe, pGt, if_true, if_false, or_true, true_or, true_and, and_true, and_self, Int.reduceLE, Int.reduceLT, Int.reduceNeg, Int.reduceToNat, h0]
  simp
theorem is_below_int (hw : WS m) (hl : m.low ≤ m.cs.length) {i n : Int} (h0 : 0 ≤ i) (h1 : i < n) : rIsBelow [.int i, .int n] m = .ok (.bl true) m := by
  refine fnR_pure (l := []) hw hl ?_ (Nat.le_refl _) rfl
  show vIsBelow [.val (.int i), .val (.int n)] ⟨m.cs ++ [], m.cs.length⟩ = .ret (.bl true) ⟨m.cs ++ [], m.cs.length⟩
  rw [List.append_nil]
  have e0 : eV 0 [.val (.int i), .val (.int n)] ⟨m.cs, m.cs.length⟩ = .ok (.int i) ⟨m.cs, m.cs.length⟩ := rfl
  refine k_rt (k_ret ?_)
  rw [k_and ((k_call (fk := lNil) (r := bindR 1 0 [0] rIsNumber) (l1_go e0) rfl).trans (bind1.trans (is_number_int hw.low (Nat.le_refl _) h0)))]
  simp only [sAsg, sRet, e2, eCall, lCons, lNil, eC, eV, eIf, ts, truth, Res.bind, Res.toS, gName, setS, List.getElem?_cons_zero, List.getElem?_cons_succ, List.set_cons_zero, List.set_cons_succ, rAdd, rMul, rMod, rFdv, rInt, rAbs, rLtI, rPow, pGe, pGt, if_true, if_false, or_true, true_or, true_and, and_true, and_self, Int.reduceLE, Int.reduceLT, Int.reduceNeg, Int.reduceToNat, rLt, h1]
  simp
theorem is_row_tup (hw : WS m) (hl : m.low ≤ m.cs.length) (xs : List D) (n : Int) : rIsRow [.tup xs, .int n] m = .ok (.bl (decide ((xs.length : Int) = n))) m := by
  refine fnR_pure (l := []) hw hl ?_ (Nat.le_refl _) rfl
  show vIsRow [.val (.tup xs), .val (.int n)] ⟨m.cs ++ [], m.cs.length⟩ = .ret (.bl (decide ((xs.length : Int) = n))) ⟨m.cs ++ [], m.cs.length⟩
  rw [List.append_nil]
  have e0 : eV 0 [.val (.tup xs), .val (.int n)] ⟨m.cs, m.cs.length⟩ = .ok (.tup xs) ⟨m.cs, m.cs.length⟩ := rfl
  refine k_rt (k_ret ?_)
  rw [k_and ((k_call (fk := lNil) (r := bindR 1 0 [0] rIsList) (l1_go e0) rfl).trans (bind1.trans (is_list_tup hw.low (Nat.le_refl _) xs)))]
  rfl
/-! ### zip with the rest -/
theorem lc_zip {f : EV} {v w : D} {xs ys : List D} {jz : Nat} {V : D} (hx : src m v = some xs) (hy : src m w = some ys) (hz : m.cs[jz]? = some .zb) (hf : ∀ (i : Nat) x y, xs[i]? = some x → ys[i]? = some y → f [.val x, .val y] m = .ok V m) : ∀ (n i : Nat) (s1 s2 : Slot) (acc : List D), (∀ k, s1 ≠ .box k) → (∀ k, s2 ≠ .box k) →
    min xs.length ys.length < i + n → acc.length + min xs.length ys.length ≤ i + 16777216 → i ≤ min xs.length ys.length →
    lcL (zipIt v w jz) (gTup 2 (gCons (gName 0) (gCons (gName 1) gNil))) tYes f n i [s1, s2] acc m = .ok (acc ++ List.replicate (min xs.length ys.length - i) V) (m.put jz .zd) := by
  intro n
  induction n with
  | zero => intro i s1 s2 acc _ _ h1 h2 h3; omega
  | succ n ih =>
    intro i s1 s2 acc b1 b2 h1 h2 h3
    unfold lcL
    by_cases hi : i < min xs.length ys.length
    · have hix : i < xs.length := by omega
      have hiy : i < ys.length := by omega
      have ex : xs[i]? = some xs[i] := List.getElem?_eq_getElem hix
      have ey : ys[i]? = some ys[i] := List.getElem?_eq_getElem hiy
      obtain ⟨x, hx'⟩ : ∃ x, xs[i]? = some x := ⟨_, ex⟩
      obtain ⟨y, hy'⟩ : ∃ y, ys[i]? = some y := ⟨_, ey⟩
      have on : (zipIt v w jz).on i m = some (some (.tup [x, y])) := by
        show (match src m v, src m w, m.cs[jz]? with
          | some xs, some ys, some .zb => _
          | _, _, _ => _) = _
        rw [hx, hy, hz]
        simp only [hx', hy']
      rw [on]
      have g : gTup 2 (gCons (gName 0) (gCons (gName 1) gNil)) (.tup [x, y]) [s1, s2] m = .nxt [.val x, .val y] m := by
        unfold gTup
        simp only [List.length_cons, List.length_nil]
        rw [if_pos (by decide)]
        show (gName 0 x [s1, s2] m).next (fun σ m => (gName 1 y σ m).next fun σ m => .nxt σ m) = _
        rw [gName_lc (s := s1) rfl b1]
        show (gName 1 y [.val x, s2] m).next (fun σ m => .nxt σ m) = _
        rw [gName_lc (s := s2) rfl b2]
        rfl
      dsimp only
      rw [g]
      simp only [tYes]
      rw [hf i x y hx' hy']
      dsimp only
      rw [if_pos (by omega), ih (i + 1) (.val x) (.val y) _ (fun k z => by cases z) (fun k z => by cases z) (by omega) (by simp; omega) (by omega), List.append_assoc]
      congr 2
      rw [show min xs.length ys.length - i = (min xs.length ys.length - (i + 1)) + 1 by omega, List.replicate_succ]
      rfl
    · have he : i = min xs.length ys.length := by omega
      have on : (zipIt v w jz).on i m = some none := by
        show (match src m v, src m w, m.cs[jz]? with
          | some xs, some ys, some .zb => _
          | _, _, _ => _) = _
        rw [hx, hy, hz]
        dsimp only
        split
        · rename_i x y e1 e2
          have := (List.getElem?_eq_some_iff.mp e1).1
          have := (List.getElem?_eq_some_iff.mp e2).1
          omega
        · rw [if_pos he]
      rw [on]
      dsimp only
      rw [show min xs.length ys.length - i = 0 by omega]
      simp [zipIt]
theorem bls_rep : ∀ n, bls (List.replicate n (D.bl true)) = some (List.replicate n true)
  | 0 => rfl
  | n + 1 => by rw [List.replicate_succ, bls, bls_rep n]; rfl
theorem cut_tail (xs : List D) : cut xs (some 1) none = xs.drop 1 := by
  have h1 : HT.sIx xs.length 0 (some 1) = min 1 xs.length := HT.sIx_nat xs.length 0 1
  unfold cut
  rw [h1, HT.sIx_none]
  cases xs with
  | nil => rfl
  | cons x r =>
    have : min 1 (x :: r).length = 1 := by simp
    rw [this]
    simp
theorem is_ascending_ok (hw : WS m) (hl : m.low ≤ m.cs.length) {k : Nat} {ps : List (Int × Int)} (hk : m.cs[k]? = some (.lst (ps.map dPair))) (hlen : ps.length < 80) (asc : ∀ (i : Nat) p q, ps[i]? = some p → ps[i + 1]? = some q → SrtO.lexB p q = true) : rIsAscending [.ref k] m = .ok (.bl true) m := by
  obtain ⟨n, hn⟩ : ∃ n, n = m.cs.length := ⟨_, rfl⟩
  have kn : k < n := by rw [hn]; exact (List.getElem?_eq_some_iff.mp hk).1
  obtain ⟨xs, hxs⟩ : ∃ xs, xs = ps.map dPair := ⟨_, rfl⟩
  rw [← hxs] at hk
  have xl : xs.length = ps.length := by rw [hxs, List.length_map]
  obtain ⟨C, hC⟩ : ∃ C, C = m.cs ++ [Cel.lst (xs.drop 1), .zb] := ⟨_, rfl⟩
  have s1 : src ⟨C, n⟩ (.ref k) = some xs := by
    show Store.seq? _ _ = _
    unfold Store.seq?
    rw [hC]
    simp only [List.getElem?_append_left (show k < m.cs.length by omega), hk]
    rfl
  have s2 : src ⟨C, n⟩ (.ref n) = some (xs.drop 1) := by
    show Store.seq? _ _ = _
    unfold Store.seq?
    rw [hC, hn]
    simp [Cel.seq?]
  have s3 : (⟨C, n⟩ : Store).cs[n + 1]? = some .zb := by
    rw [hC, hn]
    simp
  have sq : (⟨m.cs, n⟩ : Store).seq? k = some xs := by unfold Store.seq?; rw [hk]; rfl
  have it : iCall (lCons (eV 0) (lCons (eSl (eV 0) (oSome (eC (.int 1))) oNone) lNil)) rZip [.val (.ref k)] ⟨m.cs, n⟩ = .ok (zipIt (.ref k) (.ref n) (n + 1)) ⟨C, n⟩ := by
    have e0 : eV 0 [.val (.ref k)] ⟨m.cs, n⟩ = .ok (.ref k) ⟨m.cs, n⟩ := rfl
    have e1 : eSl (eV 0) (oSome (eC (.int 1))) oNone [.val (.ref k)] ⟨m.cs, n⟩ = .ok (.ref n) ⟨m.cs ++ [.lst (xs.drop 1)], n⟩ := by
      unfold eSl
      rw [e0]
      simp only [Res.bind, oSome, eC, oNone, rSl, sq, Store.push, Store.nx, cut_tail]
      rw [← hn]
    rw [iCall_go (k_l1 e0 (l1_go e1))]
    have s1' : src ⟨m.cs ++ [.lst (xs.drop 1)], n⟩ (.ref k) = some xs := by
      show Store.seq? _ _ = _
      unfold Store.seq?
      simp only [List.getElem?_append_left (show k < m.cs.length by omega), hk]
      rfl
    have s2' : src ⟨m.cs ++ [.lst (xs.drop 1)], n⟩ (.ref n) = some (xs.drop 1) := by
      show Store.seq? _ _ = _
      unfold Store.seq?
      rw [hn]
      simp [Cel.seq?]
    simp only [rZip, s1', s2', Store.push, Store.nx]
    rw [hC, hn]
    simp
  have hf : ∀ (i : Nat) x y, xs[i]? = some x → (xs.drop 1)[i]? = some y → e2 rLt (eV 0) (eV 1) [.val x, .val y] ⟨C, n⟩ = .ok (.bl true) ⟨C, n⟩ := fun i x y h1 h2 => by
    rw [hxs, List.getElem?_map] at h1
    rw [List.getElem?_drop, hxs, List.getElem?_map] at h2
    cases q1 : ps[i]? with
    | none => rw [q1] at h1; cases h1
    | some p =>
      cases q2 : ps[1 + i]? with
      | none => rw [q2] at h2; cases h2
      | some q =>
        rw [q1] at h1; rw [q2] at h2
        cases h1; cases h2
        have hlt := asc i p q q1 (by rw [Nat.add_comm]; exact q2)
        have hh : HT.lexLt [p.1, p.2] [q.1, q.2] = true := by
          rw [HT.lexLt_cons, HT.lexLt_cons]
          unfold SrtO.lexB at hlt
          by_cases e : p.1 = q.1
          · rw [if_pos e] at hlt ⊢
            have : p.2 < q.2 := by simpa using hlt
            rw [if_neg (by omega)]; exact hlt
          · rw [if_neg e] at hlt ⊢; exact hlt
        have : rLt (dPair p) (dPair q) ⟨C, n⟩ = .ok (.bl (HT.lexLt [p.1, p.2] [q.1, q.2])) ⟨C, n⟩ := rfl
        rw [hh] at this
        exact (k_e2 (r := rLt) rfl rfl).trans this
  have lc := lc_zip s1 s2 s3 hf 80 0 .un .un [] (fun q z => by cases z) (fun q z => by cases z) (by omega) (by simp; omega) (by omega)
  have ll : ∀ c, (⟨C, n⟩ : Store).put (n + 1) c = ⟨m.cs ++ [.lst (xs.drop 1), c], n⟩ := fun c => by
    unfold Store.put
    rw [hC, hn]
    simp
  rw [ll] at lc
  refine fnR_pure (l := [.lst (xs.drop 1), .zd, .lst (List.replicate (min xs.length (xs.drop 1).length) (.bl true))]) hw hl ?_ (Nat.le_of_eq hn.symm) rfl
  show vIsAscending [.val (.ref k)] ⟨m.cs ++ [], m.cs.length⟩ = _
  rw [List.append_nil, ← hn]
  refine k_rt (k_ret ?_)
  have e2 : eLc (iCall (lCons (eV 0) (lCons (eSl (eV 0) (oSome (eC (.int 1))) oNone) lNil)) rZip) [none, none] (gTup 2 (gCons (gName 0) (gCons (gName 1) gNil))) tYes (e2 rLt (eV 0) (eV 1)) 80 [.val (.ref k)] ⟨m.cs, n⟩ = .ok (.ref (n + 2)) ⟨m.cs ++ [.lst (xs.drop 1), .zd, .lst (List.replicate (min xs.length (xs.drop 1).length) (.bl true))], n⟩ := by
    unfold eLc
    rw [it]
    simp only [Res.bind]
    have e3 : blkS [none, none] [.val (.ref k)] = [.un, .un] := rfl
    rw [e3, lc]
    simp only [List.nil_append, List.length_replicate, Nat.sub_zero]
    rw [if_pos (by omega)]
    simp [Store.push, Store.nx, hn]
  refine (k_call (fk := lNil) (r := fun vs _ m => rAll vs m) (l1_go e2) rfl).trans ?_
  have s4 : Store.seq? ⟨m.cs ++ [.lst (xs.drop 1), .zd, .lst (List.replicate (min xs.length (xs.drop 1).length) (.bl true))], n⟩ (n + 2) = some (List.replicate (min xs.length (xs.drop 1).length) (.bl true)) := by
    unfold Store.seq?
    rw [hn]
    simp [Cel.seq?]
  simp only [rAll, s4, bls_rep]
  congr 2
  simp
end
end Z

set_option Elab.async false
set_option linter.all false
set_option maxRecDepth 100000
set_option maxHeartbeats 0
/-! the engine, part ZZp: kept_web of a web -/
namespace Z
open PySem PySem.Spec PyProof.Rows
open L2 (frs)

def kwTest1 : TV := (tOr (tNot (ts (eCall (lCons (eV 0) (lCons (eC (.int 2)) lNil)) lNil (bindR 2 0 [0, 1] rIsRow)))) (tOr (tNot (ts (eCall (lCons (e2 rIx (eV 0) (eC (.int 0))) lNil) lNil (bindR 1 0 [0] rIsWhole)))) (tOr (ts (e2 rLt (e2 rIx (eV 0) (eC (.int 0))) (eC (.int 1)))) (tNot (ts (eCall (lCons (e2 rIx (eV 0) (eC (.int 1))) lNil) lNil (bindR 1 0 [0] rIsList)))))))
def kwTest2 : TV := (tOr (tNot (ts (eCall (lCons (eV 1) (lCons (eC (.int 2)) lNil)) lNil (bindR 2 0 [0, 1] rIsRow)))) (tOr (tNot (ts (eCall (lCons (e2 rIx (eV 1) (eC (.int 0))) (lCons (e2 rIx (eV 0) (eC (.int 0))) lNil)) lNil (bindR 2 0 [0, 1] rIsBelow)))) (tOr (tNot (ts (eCall (lCons (e2 rIx (eV 1) (eC (.int 1))) (lCons (e2 rIx (eV 0) (eC (.int 0))) lNil)) lNil (bindR 2 0 [0, 1] rIsBelow)))) (ts (e2 (rLtI pGt) (e2 rIx (eV 1) (eC (.int 0))) (e2 rIx (eV 1) (eC (.int 1))))))))
def vKeptWeb : SV := (bCons (sIf kwTest1 (bCons (sRet (eC .non)) bNil) bNil) (bCons (sFor (iVal (e2 rIx (eV 0) (eC (.int 1)))) (gName 1) (bCons (sIf kwTest2 (bCons (sRet (eC .non)) bNil) bNil) bNil) 80) (bCons (sAsg (eLc (iVal (e2 rIx (eV 0) (eC (.int 1)))) [none] (gName 0) tYes (eCall (lCons (eV 0) lNil) lNil (fun vs _ m => rTup vs m)) 80) (gName 2)) (bCons (sRet (eIf (ts (eCall (lCons (eV 2) lNil) lNil (bindR 1 0 [0] rIsAscending))) (eTup (lCons (e2 rIx (eV 0) (eC (.int 0))) (lCons (eCall (lCons (eV 2) lNil) lNil (fun vs _ m => rTup vs m)) lNil))) (eC .non))) bNil))))
abbrev rKeptWeb : List D → Store → Res D := fnR [false, false, false] vKeptWeb
/-- a web: n spots, the ties between them ascending -/
structure Web (n : Int) (ps : List (Int × Int)) : Prop where
  n1 : 1 ≤ n
  len : ps.length < 80
  sp : ∀ p ∈ ps, 0 ≤ p.1 ∧ p.1 ≤ p.2 ∧ p.2 < n
  asc : ∀ (i : Nat) p q, ps[i]? = some p → ps[i + 1]? = some q → SrtO.lexB p q = true
section
variable {m : Store} {σ : Sl}
theorem k_or {t u : TV} {m1 : Store} (h : t σ m = .ok false m1) : tOr t u σ m = u σ m1 := by unfold tOr; rw [h]; rfl
theorem k_orT {t u : TV} {m1 : Store} (h : t σ m = .ok true m1) : tOr t u σ m = .ok true m1 := by unfold tOr; rw [h]; rfl
theorem k_tsb {f : EV} {b : Bool} {m1 : Store} (h : f σ m = .ok (.bl b) m1) : ts f σ m = .ok b m1 := k_ts h rfl
theorem k_ntT {f : EV} {m1 : Store} (h : f σ m = .ok (.bl true) m1) : tNot (ts f) σ m = .ok false m1 := k_not (k_tsb h)
theorem okDs_pairs {p : Nat → Bool} (ps : List (Int × Int)) : okDs p (ps.map dPair) = true := okDs_all.mpr fun v hv => by
  obtain ⟨x, _, rfl⟩ := List.mem_map.mp hv
  rfl
theorem call_1 {f : EV} {r : List D → Store → Res D} {v w : D} {m1 m2 : Store} (h : f σ m = .ok v m1) (h2 : r [v] m1 = .ok w m2) : eCall (lCons f lNil) lNil (bindR 1 0 [0] r) σ m = .ok w m2 := (k_call (fk := lNil) (l1_go h) rfl).trans (bind1.trans h2)
theorem call_2 {f g : EV} {r : List D → Store → Res D} {v u w : D} {m1 m2 m3 : Store} (h : f σ m = .ok v m1) (h1 : g σ m1 = .ok u m2) (h2 : r [v, u] m2 = .ok w m3) : eCall (lCons f (lCons g lNil)) lNil (bindR 2 0 [0, 1] r) σ m = .ok w m3 := (k_call (fk := lNil) (k_l1 h (l1_go h1)) rfl).trans (bind2.trans h2)
theorem kw1_ok (hw : WS m) (hl : m.low ≤ m.cs.length) {k : Nat} {n : Int} {xs : List D} (hn : 1 ≤ n) (hk : m.cs[k]? = some (.lst xs)) {s1 s2 : Slot} : kwTest1 [.val (.tup [.int n, .ref k]), s1, s2] m = .ok false m := by
  unfold kwTest1
  rw [k_or (k_ntT (call_2 rfl rfl (is_row_tup hw hl _ 2)))]
  rw [k_or (k_ntT (call_1 (f := e2 rIx (eV 0) (eC (.int 0))) (v := .int n) rfl (is_whole_int hw hl n)))]
  have e : e2 rLt (e2 rIx (eV 0) (eC (.int 0))) (eC (.int 1)) [.val (.tup [.int n, .ref k]), s1, s2] m = .ok (.bl false) m := by
    rw [k_e2 (f := e2 rIx (eV 0) (eC (.int 0))) (v := .int n) (w := .int 1) rfl rfl]
    simp only [rLt]
    rw [show decide (n < 1) = false by simp; omega]
  rw [k_or (k_tsb e)]
  exact k_ntT (call_1 (f := e2 rIx (eV 0) (eC (.int 1))) (v := .ref k) rfl (is_list_ref hw hl hk))
theorem kw2_ok (hw : WS m) (hl : m.low ≤ m.cs.length) {k : Nat} {n : Int} {p : Int × Int} (h : 0 ≤ p.1 ∧ p.1 ≤ p.2 ∧ p.2 < n) {s2 : Slot} : kwTest2 [.val (.tup [.int n, .ref k]), .val (dPair p), s2] m = .ok false m := by
  unfold kwTest2
  rw [k_or (k_ntT (call_2 rfl rfl (is_row_tup hw hl _ 2)))]
  rw [k_or (k_ntT (call_2 (f := e2 rIx (eV 1) (eC (.int 0))) (g := e2 rIx (eV 0) (eC (.int 0))) (v := .int p.1) (u := .int n) rfl rfl (is_below_int hw hl h.1 (by omega))))]
  rw [k_or (k_ntT (call_2 (f := e2 rIx (eV 1) (eC (.int 1))) (g := e2 rIx (eV 0) (eC (.int 0))) (v := .int p.2) (u := .int n) rfl rfl (is_below_int hw hl (by omega) h.2.2)))]
  refine k_tsb ?_
  rw [k_e2 (f := e2 rIx (eV 1) (eC (.int 0))) (g := e2 rIx (eV 1) (eC (.int 1))) (v := .int p.1) (w := .int p.2) rfl rfl]
  simp only [rLtI, pGt]
  rw [show decide (p.2 < p.1) = false by simp; omega]
theorem kept_web_ok (hw : WS m) (hl : m.low ≤ m.cs.length) {k : Nat} {n : Int} {ps : List (Int × Int)} (W : Web n ps) (hk : m.cs[k]? = some (.lst (ps.map dPair))) : rKeptWeb [.tup [.int n, .ref k]] m = .ok (.tup [.int n, .tup (ps.map dPair)]) m := by
  obtain ⟨N, hN⟩ : ∃ N, N = m.cs.length := ⟨_, rfl⟩
  obtain ⟨M, hM⟩ : ∃ M : Store, M = ⟨m.cs, N⟩ := ⟨_, rfl⟩
  have wM : WS M := by rw [hM]; exact hw
  have lM : M.low ≤ M.cs.length := by rw [hM, hN]; exact Nat.le_refl _
  have kM : M.cs[k]? = some (.lst (ps.map dPair)) := by rw [hM]; exact hk
  obtain ⟨w, hw'⟩ : ∃ w, w = D.tup [.int n, .ref k] := ⟨_, rfl⟩
  obtain ⟨xs, hxs⟩ : ∃ xs, xs = ps.map dPair := ⟨_, rfl⟩
  have sM : src M (.ref k) = some xs := by
    show Store.seq? _ _ = _
    unfold Store.seq?
    rw [kM, hxs]; rfl
  have ix1 : ∀ {s1 s2 : Slot}, e2 rIx (eV 0) (eC (.int 1)) [.val w, s1, s2] M = .ok (.ref k) M := by intro s1 s2; rw [hw']; rfl
  -- the loop
  obtain ⟨σ1, m1, e1, ⟨em, s1, es, l1⟩⟩ := sFor_list (g := gName 1) (tb := bCons (sIf kwTest2 (bCons (sRet (eC .non)) bNil) bNil) bNil) (n := 80) (fs := xs) (σ := [.val w, .un, .un]) (m := M) (P := fun _ σ m => m = M ∧ ∃ s1, σ = [.val w, s1, .un] ∧ ∀ q, s1 ≠ .box q) ix1 (fun i σ m p => by rw [p.1]; exact sM) (fun i σ m x p hx => by
    obtain ⟨rfl, s1, rfl, l1⟩ := p
    rw [hxs, List.getElem?_map] at hx
    cases q : ps[i]? with
    | none => rw [q] at hx; cases hx
    | some p =>
      rw [q] at hx; cases hx
      refine ⟨[.val w, .val (dPair p), .un], m, [.val w, .val (dPair p), .un], m, gName_lc (s := s1) rfl l1, ?_, rfl, _, rfl, fun q z => by cases z⟩
      rw [k_nx (b2 := bNil) (σ1 := [.val w, .val (dPair p), .un]) (m1 := m) (by
        rw [hw', k_if (kw2_ok wM lM (W.sp p (List.mem_of_getElem? q)))]; rfl)]
      rfl) (by rw [hxs, List.length_map]; exact W.len) ⟨rfl, .un, rfl, fun q z => by cases z⟩
  -- the ties
  have lc := eLc_map (fe := e2 rIx (eV 0) (eC (.int 1))) (f := eCall (lCons (eV 0) lNil) lNil (fun vs _ m => rTup vs m)) (σ := [.val w, s1, .un]) (V := id) (n := 80) ix1 sM (fun x hx => by
    rw [hxs] at hx
    obtain ⟨p, _, rfl⟩ := List.mem_map.mp hx
    rfl) (by rw [hxs, List.length_map]; exact W.len) (by rw [hxs, List.length_map]; have := W.len; omega)
  rw [List.map_id] at lc
  obtain ⟨M2, hM2⟩ : ∃ M2 : Store, M2 = ⟨M.cs ++ [.lst xs], M.low⟩ := ⟨_, rfl⟩
  rw [← hM2] at lc
  have ML : M.cs.length = N := by rw [hM, hN]
  rw [ML] at lc
  have k2 : M2.cs[N]? = some (.lst (ps.map dPair)) := by rw [hM2, ← hxs]; exact (by rw [← ML]; simp)
  have w2 : WS M2 := by rw [hM2]; exact wM.push (by rw [hxs]; exact okDs_pairs ps)
  have l2 : M2.low ≤ M2.cs.length := by rw [hM2]; show M.low ≤ (M.cs ++ _).length; rw [List.length_append]; omega
  have sM2 : src M2 (.ref N) = some xs := by
    show Store.seq? _ _ = _
    unfold Store.seq?
    rw [k2, hxs]; rfl
  refine fnR_pure (l := [.lst xs]) (lo := N) hw hl ?_ (by rw [hN]; exact Nat.le_refl _) ?_
  · have s0 : (⟨m.cs ++ startc [false, false, false] [.tup [.int n, .ref k]], m.cs.length⟩ : Store) = M := by
      rw [hM, hN]
      show (⟨m.cs ++ [], _⟩ : Store) = _
      rw [List.append_nil]
    rw [s0]
    show vKeptWeb [.val (.tup [.int n, .ref k]), .un, .un] M = _
    rw [← hw']
    unfold vKeptWeb
    rw [k_nx (σ1 := [.val w, .un, .un]) (m1 := M) (by rw [hw', k_if (kw1_ok wM lM W.n1 kM)]; rfl), k_nx e1, em, es]
    rw [k_nx (σ1 := [.val w, s1, .val (.ref N)]) (m1 := M2) (by rw [k_asg lc, gName_lc (s := .un) rfl (fun q z => by cases z)]; rfl)]
    refine k_rt (k_ret ?_)
    rw [k_eif (k_tsb (call_1 (f := eV 2) (v := .ref N) rfl (is_ascending_ok w2 l2 k2 W.len W.asc)))]
    rw [if_pos rfl]
    have e3 : eCall (lCons (eV 2) lNil) lNil (fun vs _ m => rTup vs m) [.val w, s1, .val (.ref N)] M2 = .ok (.tup xs) M2 := by
      refine (k_call (fk := lNil) (r := fun vs _ m => rTup vs m) (l1_go (f := eV 2) (v := .ref N) rfl) rfl).trans ?_
      simp only [rTup, sM2]
    have e4 : e2 rIx (eV 0) (eC (.int 0)) [.val w, s1, .val (.ref N)] M2 = .ok (.int n) M2 := by rw [hw']; rfl
    unfold eTup
    rw [k_l1 e4 (l1_go e3)]
    simp only [Res.bind, List.length_cons, List.length_nil]
    rw [if_pos (by decide), hM2, hM, ← hxs]
  · simp only [okD, okDs, okDs_pairs]; rfl
end
end Z

set_option Elab.async false
set_option linter.all false
set_option maxRecDepth 100000
set_option maxHeartbeats 0
/-! the engine, part ZZq: draws in a store that goes on, a comprehension that draws -/
namespace Z
open PySem PySem.Spec PyProof.Rows
open L2 (frs)

/-- the stream's cells stand at i, j of cs; behind cs stands rest; at most B draws were made -/
structure Stm (cs : List Cel) (i j : Nat) (L : Nat) (rest : List Cel) (B : Int) (m : Store) : Prop where
  ex : ∃ js a b c, m.cs = stc cs i j js a b c ++ rest ∧ js.length ≤ 63 ∧ 0 ≤ a ∧ 0 ≤ b ∧ b ≤ B ∧ 0 ≤ c ∧ c < 2147483647
  lo : L ≤ m.low
  le : m.low ≤ m.cs.length
/-- what stays for a whole call -/
structure Sok (cs : List Cel) (i j : Nat) (L : Nat) : Prop where
  h : Ij cs i j
  hw : ∀ x ∈ cs, okC (fun k => decide (k < cs.length)) x = true
  li : L ≤ i
  lj : L ≤ j
section
variable {cs rest : List Cel} {i j L : Nat} {B : Int} {m : Store}
theorem Stm.len (s : Stm cs i j L rest B m) : m.cs.length = cs.length + rest.length := by
  obtain ⟨⟨js, a, b, c, e, _⟩, _, _⟩ := s
  rw [e, List.length_append, stc_len]
theorem Stm.up (s : Stm cs i j L rest B m) {B' : Int} (h : B ≤ B') : Stm cs i j L rest B' m := by
  obtain ⟨⟨js, a, b, c, e, h1, h2, h3, h4, h5⟩, l1, l2⟩ := s
  exact ⟨⟨js, a, b, c, e, h1, h2, h3, by omega, h5⟩, l1, l2⟩
theorem okC_lt {n : Nat} {c : Cel} {k : Nat} (h : k ≤ n) (o : okC (fun j => decide (j < k)) c = true) : okC (fun j => decide (j < n)) c = true := by
  have := okC_ren (t := id) (q := fun j => decide (j < n)) (fun i hi => by simp only [decide_eq_true_eq, id] at hi ⊢; omega) c o
  rwa [show renC id c = c from renC_id (n := k) (fun _ _ => rfl) c o] at this
theorem Sok.ws (S : Sok cs i j L) (hr : ∀ x ∈ rest, okC (fun k => decide (k < cs.length)) x = true) (s : Stm cs i j L rest B m) : WS m := fun x hx => by
  have hl := s.len
  obtain ⟨⟨js, a, b, c, e, _⟩, _, _⟩ := s
  refine okC_lt (k := cs.length) (by omega) ?_
  rw [e] at hx
  rcases List.mem_append.mp hx with hx | hx
  · exact stc_ok S.h S.h.hj S.hw x hx
  · exact hr x hx
/-- a draw -/
theorem draw_go (S : Sok cs i j L) (hr : ∀ x ∈ rest, okC (fun k => decide (k < cs.length)) x = true) (s : Stm cs i j L rest B m) (hB : B ≤ 1000000) {many : Int} (h1 : 0 < many) (h2 : many < 1073741824) : ∃ d m', 0 ≤ d ∧ d < many ∧ rDraw [.ref i, .int many] m = .ok (.int d) m' ∧ Stm cs i j L rest (B + 1) m' := by
  obtain ⟨⟨js, a, b, c, e, q1, q2, q3, q4, q5, q6⟩, l1, l2⟩ := s
  have hw : ∀ x ∈ cs ++ rest, okC (fun k => decide (k < (cs ++ rest).length)) x = true := fun x hx => by
    refine okC_lt (k := cs.length) (by simp) ?_
    rcases List.mem_append.mp hx with hx | hx
    · exact S.hw x hx
    · exact hr x hx
  obtain ⟨d, js', a', c', lo', p1, p2, p3, p4, p5, p6, p7, p8, p9⟩ := draw_ok (cs := cs ++ rest) (lo := m.low) (js := js) (a := a) (b := b) (c := c) (S.h.app (gb := rest)) hw q1 q2 q3 (by omega) q5 q6 h1 h2
  rw [stc_app S.h, stc_app S.h, ← e] at p9
  have li := S.li
  have lj := S.lj
  refine ⟨d, ⟨stc cs i j js' a' (b + 1) c' ++ rest, lo'⟩, p2, p3, p9, ⟨js', a', b + 1, c', rfl, by omega, p4, by omega, by omega, p5, p6⟩, by show L ≤ lo'; omega, ?_⟩
  show lo' ≤ (stc cs i j js' a' (b + 1) c' ++ rest).length
  rw [List.length_append, stc_len]
  have : m.cs.length = cs.length + rest.length := by rw [e, List.length_append, stc_len]
  omega
/-- behind cs: a cell is looked at -/
theorem Stm.at (s : Stm cs i j L rest B m) {k n : Nat} {c : Cel} (h : rest[k]? = some c) (hn : n = cs.length + k) : m.cs[n]? = some c := by
  obtain ⟨⟨js, a, b, d, e, _⟩, _, _⟩ := s
  rw [e, hn, List.getElem?_append_right (by simp), stc_len, Nat.add_sub_cancel_left, h]
/-- ... is made -/
theorem Stm.push (s : Stm cs i j L rest B m) (c : Cel) : Stm cs i j L (rest ++ [c]) B (m.push c) := by
  obtain ⟨⟨js, a, b, d, e, q⟩, l1, l2⟩ := s
  exact ⟨⟨js, a, b, d, by show m.cs ++ [c] = _; rw [e, List.append_assoc], q⟩, l1, by show m.low ≤ (m.cs ++ [c]).length; rw [List.length_append]; omega⟩
/-- ... is written -/
theorem Stm.put (s : Stm cs i j L rest B m) {k n : Nat} (hk : k < rest.length) (hn : n = cs.length + k) (hL : L ≤ cs.length) (c : Cel) : Stm cs i j L (rest.set k c) B (m.put n c) := by
  obtain ⟨⟨js, a, b, d, e, q⟩, l1, l2⟩ := s
  refine ⟨⟨js, a, b, d, ?_, q⟩, by show L ≤ min m.low n; omega, by show min m.low n ≤ (m.cs.set n c).length; rw [List.length_set]; omega⟩
  show m.cs.set n c = _
  rw [e, hn, List.set_append_right _ _ (by simp), stc_len, Nat.add_sub_cancel_left]
def dTest : TV := (ts (e2 rEq (eCall (lCons (eV 3) (lCons (eV 1) lNil)) lNil (bindR 2 0 [0, 1] rDraw)) (eC (.int 0))))
theorem dTest_go (S : Sok cs i j L) (hr : ∀ x ∈ rest, okC (fun k => decide (k < cs.length)) x = true) (s : Stm cs i j L rest B m) (hB : B ≤ 1000000) {many : Int} (h1 : 0 < many) (h2 : many < 1073741824) {s0 s2 : Slot} : ∃ b m', dTest [s0, .val (.int many), s2, .val (.ref i)] m = .ok b m' ∧ Stm cs i j L rest (B + 1) m' := by
  obtain ⟨d, m', d0, d1, e, s'⟩ := draw_go S hr s hB h1 h2
  refine ⟨decide (d = 0), m', ?_, s'⟩
  unfold dTest
  refine k_tsb ?_
  rw [k_e2 (v := .int d) (w := .int 0) (call_2 (f := eV 3) (g := eV 1) (v := .ref i) (u := .int many) rfl rfl e) rfl]
  rfl
/-- [(one, other) for other in range(.., ..) if a draw is 0] -/
theorem lc_draws (S : Sok cs i j L) (hr : ∀ x ∈ rest, okC (fun k => decide (k < cs.length)) x = true) {many one lo0 : Int} {cnt : Nat} (h1 : 0 < many) (h2 : many < 1073741824) (hc : cnt ≤ 1000) : ∀ (n k : Nat) (s0 : Slot) (acc : List (Int × Int)) (B : Int) (m : Store), (∀ q, s0 ≠ .box q) → cnt < k + n → k ≤ cnt → acc.length ≤ k → Stm cs i j L rest B m → B + (cnt - k : Nat) ≤ 1000000 →
    ∃ qs m', lcL (rngIt lo0 1 cnt) (gName 0) dTest (eTup (lCons (eV 2) (lCons (eV 0) lNil))) n k [s0, .val (.int many), .val (.int one), .val (.ref i)] (acc.map dPair) m = .ok ((acc ++ qs).map dPair) m' ∧ Stm cs i j L rest (B + (cnt - k : Nat)) m' ∧ qs.length ≤ cnt - k ∧ (∀ q ∈ qs, q.1 = one ∧ lo0 + k ≤ q.2 ∧ q.2 < lo0 + cnt) ∧ qs.Pairwise fun p q => p.2 < q.2 := by
  intro n
  induction n with
  | zero => intro k s0 acc B m _ h3 h4; omega
  | succ n ih =>
    intro k s0 acc B m hb h3 h4 ha s hB
    unfold lcL
    by_cases hk : k < cnt
    · have on : (rngIt lo0 1 cnt).on k m = some (some (.int (lo0 + k * 1))) := by simp only [rngIt]; rw [if_pos hk]
      rw [on]
      dsimp only
      rw [gName_lc (s := s0) rfl hb]
      obtain ⟨b, m1, e1, s1⟩ := dTest_go S hr s (by omega) h1 h2 (s0 := .val (.int (lo0 + k * 1))) (s2 := .val (.int one))
      simp only [List.set_cons_zero]
      rw [e1]
      have sk : cnt - k = (cnt - (k + 1)) + 1 := by omega
      cases b with
      | true =>
        have e2 : eTup (lCons (eV 2) (lCons (eV 0) lNil)) [.val (.int (lo0 + k * 1)), .val (.int many), .val (.int one), .val (.ref i)] m1 = .ok (dPair (one, lo0 + k * 1)) m1 := rfl
        dsimp only
        rw [e2]
        dsimp only
        rw [if_pos (by rw [List.length_map]; omega)]
        obtain ⟨qs, m', p1, p2, p3, p4, p5⟩ := ih (k + 1) (.val (.int (lo0 + k * 1))) (acc ++ [(one, lo0 + k * 1)]) (B + 1) m1 (fun q z => by cases z) (by omega) (by omega) (by simp; omega) s1 (by omega)
        rw [List.map_append] at p1
        refine ⟨(one, lo0 + k * 1) :: qs, m', ?_, by rw [sk]; exact p2.up (by omega), by simp; omega, fun q hq => ?_, List.pairwise_cons.mpr ⟨fun q hq => ?_, p5⟩⟩
        · rw [List.append_assoc] at p1
          exact p1
        · rcases List.mem_cons.mp hq with rfl | hq
          · exact ⟨rfl, by show lo0 + k ≤ lo0 + k * 1; omega, by show lo0 + k * 1 < _; omega⟩
          · have := p4 q hq
            exact ⟨this.1, by omega, this.2.2⟩
        · have := p4 q hq
          show lo0 + k * 1 < q.2
          omega
      | false =>
        obtain ⟨qs, m', p1, p2, p3, p4, p5⟩ := ih (k + 1) (.val (.int (lo0 + k * 1))) acc (B + 1) m1 (fun q z => by cases z) (by omega) (by omega) (by omega) s1 (by omega)
        exact ⟨qs, m', p1, by rw [sk]; exact p2.up (by omega), by omega, fun q hq => ⟨(p4 q hq).1, by have := (p4 q hq).2.1; omega, (p4 q hq).2.2⟩, p5⟩
    · have on : (rngIt lo0 1 cnt).on k m = some none := by simp only [rngIt]; rw [if_neg hk, if_pos (by omega)]
      rw [on]
      refine ⟨[], m, ?_, by rw [show cnt - k = 0 by omega]; exact s.up (by omega), by simp, (fun q hq => nomatch hq), List.Pairwise.nil⟩
      simp [rngIt]
end
end Z

set_option Elab.async false
set_option linter.all false
set_option maxRecDepth 100000
set_option maxHeartbeats 0
/-! the engine, part ZZr: a web that is drawn -/
namespace Z
open PySem PySem.Spec PyProof.Rows
open L2 (frs)

theorem rRng2_len {a b : Int} (ha : -1000 < a) (ha2 : a < 1000) (hb : -1000 < b) (hb2 : b < 1000) (m : Store) : rRng [.int a, .int b] m = .ok (rngIt a 1 (b - a).toNat) m := by
  have e : rRng [.int a, .int b] m = if (-(2 ^ 62) ≤ a ∧ a < 2 ^ 62) ∧ (-(2 ^ 62) ≤ b ∧ b < 2 ^ 62) then .ok (rngIt a 1 (b - a).toNat) m else .bad := rfl
  have k1 : -(2 ^ 62) ≤ (-1000 : Int) := by decide
  have k2 : (1000 : Int) < 2 ^ 62 := by decide
  rw [e, if_pos ⟨⟨Int.le_trans k1 (Int.le_of_lt ha), Int.lt_trans ha2 k2⟩, ⟨Int.le_trans k1 (Int.le_of_lt hb), Int.lt_trans hb2 k2⟩⟩]
/-- a loop over a range -/
theorem for_rng {lo0 : Int} {cnt : Nat} {g : GV} {tb : SV} {P : Nat → Sl → Store → Prop} (hp : ∀ k σ m, k < cnt → P k σ m → ∃ σ1 m1 σ2 m2, g (.int (lo0 + k * 1)) σ m = .nxt σ1 m1 ∧ tb σ1 m1 = .nxt σ2 m2 ∧ P (k + 1) σ2 m2) : ∀ (n k : Nat) (σ : Sl) (m : Store), cnt < k + n → k ≤ cnt → P k σ m → ∃ σ' m', forL (rngIt lo0 1 cnt) g tb n k σ m = .nxt σ' m' ∧ P cnt σ' m' := by
  intro n
  induction n with
  | zero => intro k σ m h1 h2; omega
  | succ n ih =>
    intro k σ m h1 h2 h3
    unfold forL
    by_cases hk : k < cnt
    · have on : (rngIt lo0 1 cnt).on k m = some (some (.int (lo0 + k * 1))) := by simp only [rngIt]; rw [if_pos hk]
      rw [on]
      obtain ⟨σ1, m1, σ2, m2, e1, e2, p⟩ := hp k σ m hk h3
      obtain ⟨σ', m', e3, p'⟩ := ih (k + 1) σ2 m2 (by omega) (by omega) p
      refine ⟨σ', m', ?_, p'⟩
      dsimp only
      rw [e1]
      simp only [SR.next]
      rw [e2]
      exact e3
    · have on : (rngIt lo0 1 cnt).on k m = some none := by simp only [rngIt]; rw [if_neg hk, if_pos (by omega)]
      have : k = cnt := by omega
      subst this
      rw [on]
      exact ⟨σ, m, rfl, h3⟩
/-- what is told holds one new cell -/
theorem gc_tup_new {cs l : List Cel} {n lo low k : Nat} {c : Cel} {z : Int} (hn : cs.length = n) (hw : ∀ c ∈ cs, okC (fun j => decide (j < n)) c = true) (hk : n ≤ k) (hc : (cs ++ l)[k]? = some c) (ok : okC (fun j => decide (j < n)) c = true) : gcS n lo [.tup [.int z, .ref k]] ⟨cs ++ l, low⟩ = ([.tup [.int z, .ref n]], ⟨cs ++ [c], min lo low⟩) := by
  have t1 : (cs ++ l).take n = cs := by rw [List.take_append_of_le_length (by omega), List.take_of_length_le (by omega)]
  have hmid : ∀ c ∈ cs.drop low, okC (fun j => decide (j < n)) c = true := fun c hc => hw c (List.mem_of_mem_drop hc)
  have flat : okDs (fun j => decide (j < n)) ((cs.drop low).map Cel.refs).flatten = true := okDs_all.mpr fun v hv => by
    obtain ⟨r, hr, hv⟩ := List.mem_flatten.mp hv
    obtain ⟨c, hc, rfl⟩ := List.mem_map.mp hr
    exact okDs_all.mp (refs_ok (hmid c hc)) v hv
  have r : reach (cs ++ l) n 100000 ([.tup [.int z, .ref k]] ++ ((cs.drop low).map Cel.refs).flatten) [] = [k] := by
    rw [show (100000 : Nat) = 99997 + 1 + 1 + 1 by rfl]
    show reach _ n (99997 + 1 + 1 + 1) (.tup [.int z, .ref k] :: _) [] = _
    rw [reach]
    show reach _ n (99997 + 1 + 1) (.int z :: .ref k :: ((cs.drop low).map Cel.refs).flatten) [] = _
    have e : reach (cs ++ l) n (99997 + 1 + 1) (.int z :: .ref k :: ((cs.drop low).map Cel.refs).flatten) [] = reach (cs ++ l) n (99997 + 1) (.ref k :: ((cs.drop low).map Cel.refs).flatten) [] := by
      conv => lhs; unfold reach
    rw [e, reach_new hk (by simp) hc]
    exact reach_flat _ _ _ (okDs_append.mpr ⟨refs_ok ok, flat⟩)
  have kk : ∀ i, decide (i < n) = true → kept n [k] i = true := fun i h => by unfold kept; rw [h]; rfl
  have up : ∀ c : Cel, okC (fun j => decide (j < n)) c = true → okC (kept n [k]) c = true := fun c h => by
    have := okC_ren (t := id) (q := kept n [k]) kk c h
    rwa [show renC id c = c from renC_id (n := n) (fun _ _ => rfl) c h] at this
  have g : gcOk n (cs ++ l) (cs.drop low) [k] [.tup [.int z, .ref k]] = true := by
    unfold gcOk
    simp only [nds, List.all_cons, List.all_nil, hc, up c ok, okDs, okD, List.all_eq_true.mpr (fun x hx => up x (hmid x hx)), Bool.and_true, Bool.true_and]
    simp [kept, hk]
  have idt : ∀ i, i < n → tau n [k] i = i := fun i h => by unfold tau; rw [if_pos h]
  have tk : tau n [k] k = n := by unfold tau; rw [if_neg (by omega)]; simp [idx]
  have hm : (cs.drop low).map (renC (tau n [k])) = cs.drop low := (List.map_congr_left fun c hc => renC_id idt c (hmid c hc)).trans (List.map_id _)
  unfold gcS
  simp only [t1, r, g, if_true, hm, List.map_cons, List.map_nil, hc, Option.getD_some, renC_id idt c ok, List.take_append_drop, renDs, renD, tk]

def uTest : TV := (tOr (ts (e2 rEq (eV 3) (eC (.int 0)))) (tAnd (ts (e2 rEq (eV 3) (eC (.int 2)))) (ts (e2 rEq (eCall (lCons (eV 0) (lCons (eC (.int 2)) lNil)) lNil (bindR 2 0 [0, 1] rDraw)) (eC (.int 0))))))
def uOwn : SV := (sDrop (eMeth "list" (eV 5) (lCons (eTup (lCons (eV 6) (lCons (eV 6) lNil))) lNil) rAppend))
def uMore : SV := (sDrop (eMeth "list" (eV 5) (lCons (eLc (iCall (lCons (e2 rAdd (eV 6) (eC (.int 1))) (lCons (eV 2) lNil)) rRng) [none, (some 4), (some 6), (some 0)] (gName 0) dTest (eTup (lCons (eV 2) (lCons (eV 0) lNil))) 80) lNil) rExtend))
def uBody : SV := (bCons (sIf uTest (bCons uOwn bNil) bNil) (bCons uMore bNil))
section
variable {cs rest : List Cel} {i j L : Nat} {B : Int} {m : Store}
/-- the frame's list of ties and what is forgotten -/
structure Ties (cs : List Cel) (i j L : Nat) (B : Int) (tt : List (Int × Int)) (m : Store) : Prop where
  ex : ∃ gb, Stm cs i j L (.lst (tt.map dPair) :: gb) B m ∧ ∀ x ∈ gb, ∃ ps, x = .lst (List.map dPair ps)
theorem rest_ok {tt : List (Int × Int)} {gb : List Cel} (h : ∀ x ∈ gb, ∃ ps, x = .lst (List.map dPair ps)) : ∀ x ∈ (Cel.lst (tt.map dPair) :: gb), okC (fun k => decide (k < cs.length)) x = true := fun x hx => by
  rcases List.mem_cons.mp hx with rfl | hx
  · exact okDs_pairs tt
  · obtain ⟨ps, rfl⟩ := h x hx
    exact okDs_pairs ps
abbrev uSl (i : Nat) (most spots way dense : Int) (N : Nat) (s6 : Slot) : Sl := [.val (.ref i), .val (.int most), .val (.int spots), .val (.int way), .val (.int dense), .val (.ref N), s6]
theorem uTest_go (S : Sok cs i j L) {tt : List (Int × Int)} (t : Ties cs i j L B tt m) (hB : B ≤ 999999) {most spots way dense : Int} {s6 : Slot} : ∃ b m', uTest (uSl i most spots way dense cs.length s6) m = .ok b m' ∧ Ties cs i j L (B + 1) tt m' := by
  obtain ⟨gb, s, hg⟩ := t
  unfold uTest
  have e0 : ∀ z : Int, ts (e2 rEq (eV 3) (eC (.int z))) (uSl i most spots way dense cs.length s6) m = .ok (decide (way = z)) m := fun z => k_tsb rfl
  by_cases h0 : way = 0
  · exact ⟨true, m, k_orT (by rw [e0, h0]; rfl), gb, s.up (by omega), hg⟩
  · rw [k_or (m1 := m) (by rw [e0]; simp [h0])]
    unfold tAnd
    rw [e0]
    by_cases h2 : way = 2
    · obtain ⟨d, m', d0, d1, e, s'⟩ := draw_go S (rest_ok hg) s (by omega) (many := 2) (by decide) (by decide)
      refine ⟨decide (d = 0), m', ?_, gb, s', hg⟩
      simp only [h2, Res.bind, decide_true, if_true]
      refine k_tsb ?_
      rw [k_e2 (v := .int d) (w := .int 0) (call_2 (f := eV 0) (g := eC (.int 2)) (v := .ref i) (u := .int 2) rfl rfl e) rfl]
      rfl
    · refine ⟨false, m, ?_, gb, s.up (by omega), hg⟩
      simp only [h2, Res.bind, decide_false]
      rfl
theorem Sok.lN (S : Sok cs i j L) : L ≤ cs.length := Nat.le_trans S.li (Nat.le_of_lt S.h.hi)
theorem uOwn_go (S : Sok cs i j L) {tt : List (Int × Int)} (t : Ties cs i j L B tt m) (hl : tt.length < 1000) {most spots way dense one : Int} : ∃ m', uOwn (uSl i most spots way dense cs.length (.val (.int one))) m = .nxt (uSl i most spots way dense cs.length (.val (.int one))) m' ∧ Ties cs i j L B (tt ++ [(one, one)]) m' := by
  obtain ⟨gb, s, hg⟩ := t
  have c0 : m.cs[cs.length]? = some (.lst (tt.map dPair)) := s.at (k := 0) rfl rfl
  have s' := s.put (k := 0) (n := cs.length) (by simp) rfl S.lN (.lst (tt.map dPair ++ [dPair (one, one)]))
  refine ⟨m.put cs.length (.lst (tt.map dPair ++ [dPair (one, one)])), ?_, gb, ?_, hg⟩
  · unfold uOwn
    refine k_drop (v := .non) ?_
    have e1 : eTup (lCons (eV 6) (lCons (eV 6) lNil)) (uSl i most spots way dense cs.length (.val (.int one))) m = .ok (dPair (one, one)) m := rfl
    rw [k_meth (f := eV 5) (v := .ref cs.length) (m1 := m) rfl (by simp only [tyOf, c0]) (l1_go e1)]
    simp only [rAppend, c0]
    rw [if_pos (by rw [List.length_map]; omega)]
  · rw [List.map_append]
    exact s'
theorem uMore_go (S : Sok cs i j L) {tt : List (Int × Int)} (t : Ties cs i j L B tt m) (hl : tt.length < 1000) (hB : B ≤ 999000) {most spots way dense one : Int} (h1 : 0 < dense) (h2 : dense < 1000) (o0 : 0 ≤ one) (o1 : one < spots) (o2 : spots ≤ 70) : ∃ qs m', uMore (uSl i most spots way dense cs.length (.val (.int one))) m = .nxt (uSl i most spots way dense cs.length (.val (.int one))) m' ∧ Ties cs i j L (B + 70) (tt ++ qs) m' ∧ (qs.length : Int) ≤ spots - 1 - one ∧ (∀ q ∈ qs, q.1 = one ∧ one + 1 ≤ q.2 ∧ q.2 < spots) ∧ qs.Pairwise fun p q => p.2 < q.2 := by
  obtain ⟨gb, s, hg⟩ := t
  obtain ⟨cnt, hc⟩ : ∃ cnt : Nat, cnt = (spots - (one + 1)).toNat := ⟨_, rfl⟩
  obtain ⟨qs, m1, p1, p2, p3, p4, p5⟩ := lc_draws S (rest_ok hg) (many := dense) (one := one) (lo0 := one + 1) (cnt := cnt) h1 (by omega) (by omega) 80 0 .un [] B m (fun q z => by cases z) (by omega) (by omega) (by simp) s (by omega)
  simp only [List.map_nil, List.nil_append] at p1
  have s2 := p2.push (.lst (qs.map dPair))
  obtain ⟨m2, hm2⟩ : ∃ m2, m2 = m1.push (.lst (qs.map dPair)) := ⟨_, rfl⟩
  rw [← hm2] at s2
  have K1 := p2.len
  have c0 : m1.cs[cs.length]? = some (.lst (tt.map dPair)) := p2.at (k := 0) rfl rfl
  have d0 : m2.cs[cs.length]? = some (.lst (tt.map dPair)) := s2.at (k := 0) rfl rfl
  have d1 : m2.cs[m1.cs.length]? = some (.lst (qs.map dPair)) := s2.at (k := (Cel.lst (tt.map dPair) :: gb).length) (by simp) K1
  have c00 : m.cs[cs.length]? = some (.lst (tt.map dPair)) := s.at (k := 0) rfl rfl
  have s3 := s2.put (k := 0) (n := cs.length) (by simp) rfl S.lN (.lst (tt.map dPair ++ qs.map dPair))
  have e1 : eLc (iCall (lCons (e2 rAdd (eV 6) (eC (.int 1))) (lCons (eV 2) lNil)) rRng) [none, (some 4), (some 6), (some 0)] (gName 0) dTest (eTup (lCons (eV 2) (lCons (eV 0) lNil))) 80 (uSl i most spots way dense cs.length (.val (.int one))) m = .ok (.ref m1.cs.length) m2 := by
    have e0 : lCons (e2 rAdd (eV 6) (eC (.int 1))) (lCons (eV 2) lNil) (uSl i most spots way dense cs.length (.val (.int one))) m = .ok [.int (one + 1), .int spots] m := rfl
    unfold eLc
    rw [iCall_go e0, rRng2_len (by omega) (by omega) (by omega) (by omega), ← hc]
    simp only [Res.bind]
    have e3 : blkS [none, (some 4), (some 6), (some 0)] (uSl i most spots way dense cs.length (.val (.int one))) = [.un, .val (.int dense), .val (.int one), .val (.ref i)] := rfl
    rw [e3, p1]
    simp only [List.length_map]
    rw [if_pos (by omega), hm2]
  refine ⟨qs, m2.put cs.length (.lst (tt.map dPair ++ qs.map dPair)), ?_, ⟨gb ++ [.lst (qs.map dPair)], ?_, fun x hx => ?_⟩, by omega, fun q hq => ?_, p5⟩
  · unfold uMore
    refine k_drop (v := .non) ?_
    rw [k_meth (f := eV 5) (v := .ref cs.length) (m1 := m) rfl (by simp only [tyOf, c00]) (l1_go e1)]
    simp only [rExtend, d0, d1]
    rw [if_pos (by rw [List.length_map, List.length_map]; omega)]
  · rw [List.map_append]
    exact s3.up (by omega)
  · rcases List.mem_append.mp hx with hx | hx
    · exact hg x hx
    · simp at hx; exact ⟨qs, hx⟩
  · have := p4 q hq
    exact ⟨this.1, by omega, by omega⟩
/-- a turn: the new ties of one spot -/
theorem uBody_go (S : Sok cs i j L) {tt : List (Int × Int)} (t : Ties cs i j L B tt m) (hl : tt.length < 900) (hB : B ≤ 900000) {most spots way dense one : Int} (h1 : 0 < dense) (h2 : dense < 1000) (o0 : 0 ≤ one) (o1 : one < spots) (o2 : spots ≤ 70) : ∃ new m', uBody (uSl i most spots way dense cs.length (.val (.int one))) m = .nxt (uSl i most spots way dense cs.length (.val (.int one))) m' ∧ Ties cs i j L (B + 71) (tt ++ new) m' ∧ (new.length : Int) ≤ spots - one ∧ (∀ q ∈ new, q.1 = one ∧ one ≤ q.2 ∧ q.2 < spots) ∧ new.Pairwise fun p q => p.2 < q.2 := by
  obtain ⟨b, m1, e1, t1⟩ := uTest_go S t (by omega) (most := most) (spots := spots) (way := way) (dense := dense) (s6 := .val (.int one))
  unfold uBody
  cases b with
  | true =>
    obtain ⟨m2, e2, t2⟩ := uOwn_go S t1 (by omega) (most := most) (spots := spots) (way := way) (dense := dense) (one := one)
    obtain ⟨qs, m3, e3, t3, q1, q2, q3⟩ := uMore_go S t2 (by simp; omega) (by omega) (most := most) (spots := spots) (way := way) (dense := dense) (one := one) h1 h2 o0 o1 o2
    refine ⟨(one, one) :: qs, m3, ?_, ?_, by simp; omega, fun q hq => ?_, List.pairwise_cons.mpr ⟨fun q hq => ?_, q3⟩⟩
    · rw [k_nx (σ1 := uSl i most spots way dense cs.length (.val (.int one))) (m1 := m2) (by rw [k_if e1, if_pos rfl, k_nx e2]; rfl), k_nx e3]
      rfl
    · obtain ⟨gb, s, hg⟩ := t3
      exact ⟨gb, by rw [List.append_assoc] at s; exact s.up (by omega), hg⟩
    · rcases List.mem_cons.mp hq with rfl | hq
      · exact ⟨rfl, Int.le_refl _, o1⟩
      · have := q2 q hq
        exact ⟨this.1, by omega, this.2.2⟩
    · have := (q2 q hq).2.1
      show one < q.2
      omega
  | false =>
    obtain ⟨qs, m3, e3, t3, q1, q2, q3⟩ := uMore_go S t1 (by omega) (by omega) (most := most) (spots := spots) (way := way) (dense := dense) (one := one) h1 h2 o0 o1 o2
    refine ⟨qs, m3, ?_, ?_, by omega, fun q hq => ?_, q3⟩
    · rw [k_nx (σ1 := uSl i most spots way dense cs.length (.val (.int one))) (m1 := m1) (by rw [k_if e1]; rfl), k_nx e3]
      rfl
    · obtain ⟨gb, s, hg⟩ := t3
      exact ⟨gb, s.up (by omega), hg⟩
    · have := q2 q hq
      exact ⟨this.1, by omega, this.2.2⟩
/-- the ties of the spots below k -/
structure Tt (spots : Int) (k : Nat) (tt : List (Int × Int)) : Prop where
  len : (tt.length : Int) ≤ k * spots
  sp : ∀ p ∈ tt, 0 ≤ p.1 ∧ p.1 < k ∧ p.1 ≤ p.2 ∧ p.2 < spots
  asc : tt.Pairwise fun p q => SrtO.lexB p q = true
theorem Tt.more {spots : Int} {k : Nat} {tt new : List (Int × Int)} (h : Tt spots k tt) (h1 : (new.length : Int) ≤ spots - k) (h2 : ∀ q ∈ new, q.1 = (k : Int) ∧ (k : Int) ≤ q.2 ∧ q.2 < spots) (h3 : new.Pairwise fun p q => p.2 < q.2) : Tt spots (k + 1) (tt ++ new) := by
  refine ⟨?_, fun p hp => ?_, List.pairwise_append.mpr ⟨h.asc, ?_, fun p hp q hq => ?_⟩⟩
  · have := h.len
    rw [List.length_append]
    have e : ((k + 1 : Nat) : Int) * spots = k * spots + spots := by rw [Int.natCast_add, Int.add_mul]; simp
    rw [e]
    omega
  · rcases List.mem_append.mp hp with hp | hp
    · have := h.sp p hp
      exact ⟨this.1, by omega, this.2.2⟩
    · have := h2 p hp
      exact ⟨by omega, by omega, by omega, this.2.2⟩
  · refine h3.imp_of_mem fun {p q} hp hq h => ?_
    have a := h2 p hp
    have b := h2 q hq
    exact SrtO.lexB_iff.mpr (.inr ⟨by omega, h⟩)
  · have a := h.sp p hp
    have b := h2 q hq
    exact SrtO.lexB_iff.mpr (.inl (by omega))
theorem pw_next {lt : (Int × Int) → (Int × Int) → Prop} : ∀ {l : List (Int × Int)}, l.Pairwise lt → ∀ (i : Nat) p q, l[i]? = some p → l[i + 1]? = some q → lt p q
  | [], _, i, p, q, h, _ => by simp at h
  | x :: r, h, 0, p, q, h1, h2 => by
    simp at h1 h2
    subst h1
    exact (List.pairwise_cons.mp h).1 q (List.mem_of_getElem? h2)
  | x :: r, h, i + 1, p, q, h1, h2 => pw_next (List.pairwise_cons.mp h).2 i p q (by simpa using h1) (by simpa using h2)
theorem intsD_pairs : ∀ {ps : List (Int × Int)} {ns : List Int}, intsD (ps.map dPair) = some ns → ps = [] ∧ ns = []
  | [], ns, h => by cases h; exact ⟨rfl, rfl⟩
  | p :: ps, ns, h => by simp only [List.map_cons, intsD] at h; cases h
theorem omap_pairD : ∀ ps : List (Int × Int), omap pairD (ps.map dPair) = some ps
  | [] => rfl
  | p :: ps => by
    have : pairD (dPair p) = some p := rfl
    simp only [List.map_cons, omap, this, omap_pairD ps]
/-- sorted of pairs that are sorted -/
theorem srt_pairs {k : Nat} {ps : List (Int × Int)} (hk : m.cs[k]? = some (.lst (ps.map dPair))) (hs : ps.Pairwise fun p q => SrtO.lexB p q = true) : rSrt2 [.ref k] m = .ok (.ref m.cs.length) (m.push (.lst (ps.map dPair))) := by
  have e : srtB SrtO.lexB ps = ps := srt_one lex_anti (srtB_perm _ ps) (srtB_srt lex_swo ps) (hs.imp fun {p q} h => lex_swo.asym _ _ h)
  have sq : m.seq? k = some (ps.map dPair) := by unfold Store.seq?; rw [hk]; rfl
  unfold rSrt2
  simp only [hk, rSrt, sq]
  cases h : intsD (ps.map dPair) with
  | some ns =>
    obtain ⟨rfl, rfl⟩ := intsD_pairs h
    rfl
  | none =>
    simp only [omap_pairD, e]
def vUWeb : SV := (bCons (sAsg (eTup (lCons (e2 rAdd (eC (.int 1)) (eCall (lCons (eV 0) (lCons (eV 1) lNil)) lNil (bindR 2 0 [0, 1] rDraw))) (lCons (eCall (lCons (eV 0) (lCons (eC (.int 3)) lNil)) lNil (bindR 2 0 [0, 1] rDraw)) (lCons (e2 rAdd (eC (.int 2)) (eCall (lCons (eV 0) (lCons (eC (.int 3)) lNil)) lNil (bindR 2 0 [0, 1] rDraw))) lNil)))) (gTup 3 (gCons (gName 2) (gCons (gName 3) (gCons (gName 4) gNil))))) (bCons (sAsg (eLst lNil) (gName 5)) (bCons (sFor (iCall (lCons (eV 2) lNil) rRng) (gName 6) uBody 80) (bCons (sRet (eTup (lCons (eV 2) (lCons (eCall (lCons (eV 5) lNil) lNil (fun vs _ m => rSrt2 vs m)) lNil)))) bNil))))
abbrev rUWeb : List D → Store → Res D := fnR [false, false, false, false, false, false, false] vUWeb
theorem u_web_ok (S : Sok cs i j L) (s : Stm cs i j L [] B m) (hB : B ≤ 800000) {most : Int} (h1 : 0 < most) (h2 : most ≤ 8) : ∃ n ps m', rUWeb [.ref i, .int most] m = .ok (.tup [.int n, .ref cs.length]) m' ∧ n ≤ most ∧ Web n ps ∧ Stm cs i j L [.lst (ps.map dPair)] (B + 3 + 71 * 8) m' := by
  have ml : m.cs.length = cs.length := by rw [s.len]; rfl
  have lN := S.lN
  -- the frame's store
  obtain ⟨M, hM⟩ : ∃ M : Store, M = ⟨m.cs, m.cs.length⟩ := ⟨_, rfl⟩
  have sM : Stm cs i j L [] B M := by
    obtain ⟨⟨js, a, b, c, e, q⟩, l1, l2⟩ := s
    rw [hM]
    exact ⟨⟨js, a, b, c, e, q⟩, by show L ≤ m.cs.length; omega, Nat.le_refl _⟩
  obtain ⟨d1, M1, a1, a2, e1, s1⟩ := draw_go S (fun x hx => by cases hx) sM (by omega) (many := most) h1 (by omega)
  obtain ⟨d2, M2, b1, b2, e2', s2⟩ := draw_go S (fun x hx => by cases hx) s1 (by omega) (many := 3) (by decide) (by decide)
  obtain ⟨d3, M3, c1, c2, e3, s3⟩ := draw_go S (fun x hx => by cases hx) s2 (by omega) (many := 3) (by decide) (by decide)
  obtain ⟨k, hk⟩ : ∃ k : Nat, (k : Int) = 1 + d1 := ⟨(1 + d1).toNat, by omega⟩
  obtain ⟨dense, hd⟩ : ∃ dense : Int, dense = 2 + d3 := ⟨_, rfl⟩
  have s4 := s3.push (.lst (([] : List (Int × Int)).map dPair))
  obtain ⟨M4, hM4⟩ : ∃ M4, M4 = M3.push (.lst (([] : List (Int × Int)).map dPair)) := ⟨_, rfl⟩
  rw [← hM4] at s4
  have M3l : M3.cs.length = cs.length := by rw [s3.len]; rfl
  -- the loop
  obtain ⟨σ5, M5, e5, ⟨s6, es5, l6⟩, tt, Ht, Tts⟩ := for_rng (lo0 := 0) (cnt := k) (g := gName 6) (tb := uBody) (P := fun q σ m => (∃ s6, σ = uSl i most (k : Int) d2 dense cs.length s6 ∧ ∀ z, s6 ≠ .box z) ∧ ∃ tt, Tt (k : Int) q tt ∧ Ties cs i j L (B + 3 + 71 * (q : Int)) tt m) (fun q σ m hq ⟨⟨s6, es, l6⟩, tt, Ht, t⟩ => by
    subst es
    have hl := Ht.len
    have kk : (q : Int) * k ≤ 8 * 8 := by
      have a : q ≤ 8 := by omega
      have b : k ≤ 8 := by omega
      exact_mod_cast Nat.mul_le_mul a b
    obtain ⟨new, m', p1, p2, p3, p4, p5⟩ := uBody_go S t (by omega) (by omega) (most := most) (spots := (k : Int)) (way := d2) (dense := dense) (one := 0 + (q : Int) * 1) (by omega) (by omega) (by omega) (by omega) (by omega)
    refine ⟨uSl i most (k : Int) d2 dense cs.length (.val (.int (0 + (q : Int) * 1))), m, _, m', gName_lc (s := s6) rfl l6, p1, ⟨_, rfl, fun z w => by cases w⟩, tt ++ new, Ht.more (by omega) (fun x hx => by have := p4 x hx; omega) p5, ?_⟩
    obtain ⟨gb, z, hg⟩ := p2
    exact ⟨gb, z.up (by omega), hg⟩) 80 0 (uSl i most (k : Int) d2 dense cs.length .un) M4 (by omega) (by omega) ⟨⟨.un, rfl, fun z w => by cases w⟩, [], ⟨by simp, (fun p hp => nomatch hp), List.Pairwise.nil⟩, [], s4.up (by omega), (fun x hx => nomatch hx)⟩
  obtain ⟨gb, s5, hg⟩ := Tts
  have c5 : M5.cs[cs.length]? = some (.lst (tt.map dPair)) := s5.at (k := 0) rfl rfl
  have sr := srt_pairs c5 Ht.asc
  have s7 := s5.push (.lst (tt.map dPair))
  have kk : (k : Int) * k ≤ 8 * 8 := by
    have b : k ≤ 8 := by omega
    exact_mod_cast Nat.mul_le_mul b b
  have hl := Ht.len
  refine ⟨(k : Int), tt, ?_⟩
  obtain ⟨⟨js, a, b, c, e, q1⟩, l1, l2⟩ := s7
  have c7 : (M5.push (.lst (tt.map dPair))).cs[M5.cs.length]? = some (.lst (tt.map dPair)) := by show (M5.cs ++ [_])[M5.cs.length]? = _; simp
  have M5l := s5.len
  have mlo := s.lo
  have mle := s.le
  have body : vUWeb (starts [false, false, false, false, false, false, false] [.ref i, .int most] m.cs.length) ⟨m.cs ++ startc [false, false, false, false, false, false, false] [.ref i, .int most], m.cs.length⟩ = .ret (.tup [.int k, .ref M5.cs.length]) (M5.push (.lst (tt.map dPair))) := by
    have s0 : (⟨m.cs ++ startc [false, false, false, false, false, false, false] [.ref i, .int most], m.cs.length⟩ : Store) = M := by
      rw [hM]
      show (⟨m.cs ++ [], _⟩ : Store) = _
      rw [List.append_nil]
    rw [s0]
    show vUWeb [.val (.ref i), .val (.int most), .un, .un, .un, .un, .un] M = _
    unfold vUWeb
    have f1 : e2 rAdd (eC (.int 1)) (eCall (lCons (eV 0) (lCons (eV 1) lNil)) lNil (bindR 2 0 [0, 1] rDraw)) [.val (.ref i), .val (.int most), .un, .un, .un, .un, .un] M = .ok (.int k) M1 := by
      rw [k_e2 (v := .int 1) (w := .int d1) rfl (call_2 (f := eV 0) (g := eV 1) (v := .ref i) (u := .int most) rfl rfl e1)]
      simp only [rAdd]; rw [hk]
    have f2 : eCall (lCons (eV 0) (lCons (eC (.int 3)) lNil)) lNil (bindR 2 0 [0, 1] rDraw) [.val (.ref i), .val (.int most), .un, .un, .un, .un, .un] M1 = .ok (.int d2) M2 := call_2 (f := eV 0) (g := eC (.int 3)) (v := .ref i) (u := .int 3) rfl rfl e2'
    have f3 : e2 rAdd (eC (.int 2)) (eCall (lCons (eV 0) (lCons (eC (.int 3)) lNil)) lNil (bindR 2 0 [0, 1] rDraw)) [.val (.ref i), .val (.int most), .un, .un, .un, .un, .un] M2 = .ok (.int dense) M3 := by
      rw [k_e2 (v := .int 2) (w := .int d3) rfl (call_2 (f := eV 0) (g := eC (.int 3)) (v := .ref i) (u := .int 3) rfl rfl e3)]
      simp only [rAdd]; rw [hd]
    have f4 := k_l1 f1 (k_l1 f2 (l1_go f3))
    have f5 : eTup (lCons (e2 rAdd (eC (.int 1)) (eCall (lCons (eV 0) (lCons (eV 1) lNil)) lNil (bindR 2 0 [0, 1] rDraw))) (lCons (eCall (lCons (eV 0) (lCons (eC (.int 3)) lNil)) lNil (bindR 2 0 [0, 1] rDraw)) (lCons (e2 rAdd (eC (.int 2)) (eCall (lCons (eV 0) (lCons (eC (.int 3)) lNil)) lNil (bindR 2 0 [0, 1] rDraw))) lNil))) [.val (.ref i), .val (.int most), .un, .un, .un, .un, .un] M = .ok (.tup [.int k, .int d2, .int dense]) M3 := by
      unfold eTup
      rw [f4]
      simp only [Res.bind, List.length_cons, List.length_nil]
      rw [if_pos (by decide)]
    rw [k_nx (σ1 := [.val (.ref i), .val (.int most), .val (.int k), .val (.int d2), .val (.int dense), .un, .un]) (m1 := M3) (by rw [k_asg f5]; rfl)]
    have g1 : eLst lNil [.val (.ref i), .val (.int most), .val (.int k), .val (.int d2), .val (.int dense), .un, .un] M3 = .ok (.ref cs.length) M4 := by
      unfold eLst lNil
      simp only [Res.bind, List.length_nil, Store.nx, M3l, hM4]
      rfl
    rw [k_nx (σ1 := uSl i most (k : Int) d2 dense cs.length .un) (m1 := M4) (by rw [k_asg g1]; rfl)]
    have g2 : iCall (lCons (eV 2) lNil) rRng (uSl i most (k : Int) d2 dense cs.length .un) M4 = .ok (rngIt 0 1 k) M4 := by
      rw [iCall_go (l1_go (f := eV 2) (v := .int (k : Int)) rfl)]
      exact rRng_len (by omega) _
    rw [k_nx (for_go g2 e5), es5]
    refine k_rt (k_ret ?_)
    have g3 : eCall (lCons (eV 5) lNil) lNil (fun vs _ m => rSrt2 vs m) (uSl i most (k : Int) d2 dense cs.length s6) M5 = .ok (.ref M5.cs.length) (M5.push (.lst (tt.map dPair))) := (k_call (fk := lNil) (r := fun vs _ m => rSrt2 vs m) (l1_go (f := eV 5) (v := .ref cs.length) rfl) rfl).trans sr
    unfold eTup
    rw [k_l1 (f := eV 2) (v := .int (k : Int)) rfl (l1_go g3)]
    simp only [Res.bind, List.length_cons, List.length_nil]
    rw [if_pos (by decide)]
  have gc : gcS m.cs.length m.low [.tup [.int (k : Int), .ref M5.cs.length]] (M5.push (.lst (tt.map dPair))) = ([.tup [.int (k : Int), .ref cs.length]], ⟨stc cs i j js a b c ++ [.lst (tt.map dPair)], min m.low (M5.push (.lst (tt.map dPair))).low⟩) := by
    rw [ml]
    have ee : M5.push (.lst (tt.map dPair)) = ⟨stc cs i j js a b c ++ (.lst (tt.map dPair) :: gb ++ [.lst (tt.map dPair)]), (M5.push (.lst (tt.map dPair))).low⟩ := by rw [← e]
    rw [ee] at c7 ⊢
    exact gc_tup_new stc_len (stc_ok S.h S.h.hj S.hw) (by rw [M5l]; omega) c7 (okDs_pairs tt)
  refine ⟨_, fnR_ret body gc, by omega, ⟨by omega, by omega, fun p hp => ?_, pw_next Ht.asc⟩, ⟨js, a, b, c, rfl, by omega⟩, ?_, ?_⟩
  · have := Ht.sp p hp
    exact ⟨this.1, this.2.2.1, this.2.2.2⟩
  · show L ≤ min m.low _
    omega
  · show min m.low _ ≤ (stc cs i j js a b c ++ [Cel.lst (tt.map dPair)]).length
    rw [List.length_append, stc_len]
    omega
end
end Z

set_option Elab.async false
set_option linter.all false
set_option maxRecDepth 100000
set_option maxHeartbeats 0
/-! the engine, part ZZs: calls replaced by what is known of them -/
namespace Z
open PySem PySem.Spec PyProof.Rows
open L2 (frs)

/-- a call known to tell v over a lot of m's cells -/
def Tells (r : List D → Store → Res D) (vs : List D) (m : Store) (v : D) : Prop := ∃ (cs0 : List Cel) (vs0 : List D) (v0 : D) (S : List Nat), r vs0 ⟨cs0, cs0.length⟩ = .ok v0 ⟨cs0, cs0.length⟩ ∧ okDs (fun j => decide (j < cs0.length)) vs0 = true ∧ okD (fun j => decide (j < cs0.length)) v0 = true ∧ At m S cs0 ∧ NoZ m ∧ vs = renDs (tP S) vs0 ∧ v = renD (tP S) v0
-- True where that is known
open Classical in
noncomputable def cT (r : List D → Store → Res D) : List D → Store → Res D := fun vs m => if Tells r vs m (.bl true) then .ok (.bl true) m else r vs m
theorem FnZ.cT {G : Gl} {k : Nat} {f : Addr} {fd : FuncData} {ps : List Str} {r : List D → Store → Res D} (F : FnZ G k f fd ps r) : FnZ G k f fd ps (cT r) := F.spec fun vs m => by
  unfold Z.cT
  split
  · rename_i h
    obtain ⟨cs0, vs0, v0, S, h1, h2, h3, h4, h5, h6, h7⟩ := h
    exact Fr.pure h4 h5 h2 h6 h3 h7 h1
  · exact .same
theorem cT_eq {r : List D → Store → Res D} {vs : List D} {m : Store} (h : Tells r vs m (.bl true)) : cT r vs m = .ok (.bl true) m := by unfold cT; rw [if_pos h]
-- a call without arguments that makes cells
open Classical in
noncomputable def cN (r : List D → Store → Res D) : List D → Store → Res D := fun vs m => match r [] ⟨[], 0⟩ with
  | .ok v0 ⟨cs, 0⟩ => if vs = [] ∧ NoZ m then .ok (renD (fun j => m.cs.length + j) v0) ⟨m.cs ++ cs.map (renC fun j => m.cs.length + j), m.low⟩ else r vs m
  | _ => r vs m
theorem FnZ.cN {G : Gl} {k : Nat} {f : Addr} {fd : FuncData} {ps : List Str} {r : List D → Store → Res D} (F : FnZ G k f fd ps r) : FnZ G k f fd ps (cN r) := F.spec fun vs m => by
  unfold Z.cN
  split
  · rename_i v0 cs e
    split
    · rename_i h
      obtain ⟨rfl, nz⟩ := h
      exact Fr.new nz e
    · exact .same
  · exact .same
theorem cN_eq {r : List D → Store → Res D} {m : Store} {v0 : D} {cs : List Cel} (h : r [] ⟨[], 0⟩ = .ok v0 ⟨cs, 0⟩) (nz : NoZ m) : cN r [] m = .ok (renD (fun j => m.cs.length + j) v0) ⟨m.cs ++ cs.map (renC fun j => m.cs.length + j), m.low⟩ := by
  unfold cN
  rw [h]
  simp only
  rw [if_pos ⟨rfl, nz⟩]
/-- a call that makes cells: mk tells them by the arguments and the number of the first -/
def Makes (r : List D → Store → Res D) (mk : List D → Nat → List Cel) (vs : List D) (m : Store) : Prop := ∃ (cs0 : List Cel) (vs0 : List D) (S : List Nat), r vs0 ⟨cs0, cs0.length⟩ = .ok (.ref cs0.length) ⟨cs0 ++ mk vs0 cs0.length, cs0.length⟩ ∧ okDs (fun j => decide (j < cs0.length)) vs0 = true ∧ At m S cs0 ∧ NoZ m ∧ vs = renDs (tP S) vs0
open Classical in
noncomputable def cM (r : List D → Store → Res D) (mk : List D → Nat → List Cel) : List D → Store → Res D := fun vs m => if Makes r mk vs m then .ok (.ref m.cs.length) ⟨m.cs ++ mk vs m.cs.length, m.low⟩ else r vs m
/-- mk goes with the numbers -/
def MkOk (mk : List D → Nat → List Cel) : Prop := ∀ (S : List Nat) (n : Nat) (vs0 : List D), okDs (fun j => decide (j < S.length)) vs0 = true → (mk vs0 S.length).map (renC (tS S n)) = mk (renDs (tP S) vs0) n
theorem FnZ.cM {G : Gl} {k : Nat} {f : Addr} {fd : FuncData} {ps : List Str} {r : List D → Store → Res D} {mk : List D → Nat → List Cel} (F : FnZ G k f fd ps r) (hm : MkOk mk) : FnZ G k f fd ps (cM r mk) := F.spec fun vs m => by
  unfold Z.cM
  split
  · rename_i h
    obtain ⟨cs0, vs0, S, h1, h2, h3, h4, h5⟩ := h
    have x := Fr.ok (r := r) (vs := vs) (h3.sub h4) h2 (by rw [h5, h3.vals h2]) h1 rfl
    have e1 : renD (tS S m.cs.length) (.ref cs0.length) = .ref m.cs.length := by
      simp only [renD, tS, h3.len]
      rw [if_neg (by omega)]
      simp
    have e2 : Sub.res m S ⟨cs0 ++ mk vs0 cs0.length, cs0.length⟩ = ⟨m.cs ++ mk vs m.cs.length, m.low⟩ := by
      unfold Sub.res
      rw [← h3.len, List.drop_left, h3.len, hm S m.cs.length vs0 (by rw [← h3.len]; exact h2), ← h5]
    rw [e1, e2] at x
    exact x
  · exact .same
theorem cM_eq {r : List D → Store → Res D} {mk : List D → Nat → List Cel} {vs : List D} {m : Store} (h : Makes r mk vs m) : cM r mk vs m = .ok (.ref m.cs.length) ⟨m.cs ++ mk vs m.cs.length, m.low⟩ := by unfold cM; rw [if_pos h]
theorem tS_new {S : List Nat} {n j : Nat} : tS S n (S.length + j) = n + j := by unfold tS; rw [if_neg (by omega)]; omega
theorem tS_new0 {S : List Nat} {n : Nat} : tS S n S.length = n := tS_new (j := 0)
end Z

set_option Elab.async false
set_option linter.all false
set_option maxRecDepth 100000
set_option maxHeartbeats 0
/-! the engine, part ZZt: exceptions that go on, lots put behind others -/
namespace Z
open PySem PySem.Spec PyProof.Rows
open L2 (frs)
section
variable {f g : EV} {fa fk : LV} {b1 b2 : SV} {gv : GV} {σ σ1 : Sl} {m m1 m2 m3 : Store} {v w : D} {vs zs : List D} {x : Ex}
theorem x_cons (h : b1 σ m = .exc x σ1 m1) : bCons b1 b2 σ m = .exc x σ1 m1 := by unfold bCons; rw [h]; rfl
theorem x_asg (h : f σ m = .exc x m1) : sAsg f gv σ m = .exc x σ m1 := by unfold sAsg; rw [h]; rfl
theorem x_ret (h : f σ m = .exc x m1) : sRet f σ m = .exc x σ m1 := by unfold sRet; rw [h]; rfl
theorem x_l1 (h : f σ m = .exc x m1) : lCons f fa σ m = .exc x m1 := by unfold lCons; rw [h]; rfl
theorem x_l2 (h : f σ m = .ok v m1) (h2 : fa σ m1 = .exc x m2) : lCons f fa σ m = .exc x m2 := by unfold lCons; rw [h]; show (fa σ m1).bind _ = _; rw [h2]; rfl
theorem x_tup (h : fa σ m = .exc x m1) : eTup fa σ m = .exc x m1 := by unfold eTup; rw [h]; rfl
theorem x_callA {r : List D → List D → Store → Res D} (h : fa σ m = .exc x m1) : eCall fa fk r σ m = .exc x m1 := by unfold eCall; rw [h]; rfl
theorem bind_go {np nk : Nat} {perm : List Nat} {r : List D → Store → Res D} {xs : List D} (h1 : vs.length = np) (h2 : zs.length = nk) (h3 : omap (fun i => (vs ++ zs)[i]?) perm = some xs) : bindR np nk perm r vs zs m = r xs m := by
  unfold bindR; rw [if_pos ⟨h1, h2⟩, h3]
/-- the test of a value that is no None -/
theorem is_non_tup {xs : List D} (h : f σ m = .ok (.tup xs) m1) : ts (e2 rIs f (eC .non)) σ m = .ok false m1 := k_ts (v := .bl false) (by rw [k_e2 (v := .tup xs) (w := .non) h rfl]; rfl) rfl
end
mutual
theorem ren_comp (s t : Nat → Nat) : ∀ v : D, renD s (renD t v) = renD (fun i => s (t i)) v
  | .non => rfl
  | .bl _ => rfl
  | .int _ => rfl
  | .str _ => rfl
  | .glo _ => rfl
  | .ty _ => rfl
  | .ref i => rfl
  | .tup vs => by simp only [renD, rens_comp s t vs]
theorem rens_comp (s t : Nat → Nat) : ∀ vs : List D, renDs s (renDs t vs) = renDs (fun i => s (t i)) vs
  | [] => rfl
  | v :: vs => by simp only [renDs, ren_comp s t v, rens_comp s t vs]
end
theorem renC_comp (s t : Nat → Nat) (c : Cel) : renC s (renC t c) = renC (fun i => s (t i)) c := by
  cases c with
  | lst vs => simp only [renC, rens_comp]
  | frz vs => simp only [renC, rens_comp]
  | dct kvs =>
    simp only [renC, List.map_map]
    congr 1
    refine List.map_congr_left fun x _ => ?_
    show renP s (renP t x) = renP _ x
    unfold renP
    rw [ren_comp, ren_comp]
  | box v =>
    cases v with
    | none => rfl
    | some d => simp only [renC, Option.map_some, ren_comp]
  | clo l cs => simp only [renC, List.map_map]; rfl
  | exc C ns vs => simp only [renC, rens_comp]
  | tbl l => rfl
  | zb => rfl
  | zd => rfl
section
variable {m : Store} {sel pre : List Nat} {cs0 preC : List Cel} {v : D}
theorem tP_pre {j k : Nat} (hk : k = pre.length) : tP (pre ++ sel) (j + k) = tP sel j := by
  unfold tP
  rw [List.getD_eq_getElem?_getD, List.getD_eq_getElem?_getD, List.getElem?_append_right (by omega), show j + k - pre.length = j by omega]
theorem ren_pre {k : Nat} (hk : k = pre.length) : renD (tP (pre ++ sel)) (renD (fun j => j + k) v) = renD (tP sel) v := by
  rw [ren_comp]
  congr 1
  funext j
  exact tP_pre hk
/-- a lot behind other cells -/
theorem At.shift (a : At m sel cs0) {k : Nat} (hk : k = pre.length) (hp : preC.length = k) (nd : (pre ++ sel).Nodup) (ok : okCs (preC ++ cs0.map (renC fun j => j + k)) = true) (h : ∀ (j i : Nat) c, pre[j]? = some i → preC[j]? = some c → m.cs[i]? = some (renC (tP (pre ++ sel)) c)) : At m (pre ++ sel) (preC ++ cs0.map (renC fun j => j + k)) := by
  refine ⟨nd, by rw [List.length_append, List.length_append, List.length_map, a.len, hp, hk], ok, fun j i c h1 h2 => ?_⟩
  by_cases hj : j < k
  · rw [List.getElem?_append_left (by omega)] at h1
    rw [List.getElem?_append_left (by omega)] at h2
    exact h j i c h1 h2
  · rw [List.getElem?_append_right (by omega)] at h1
    rw [List.getElem?_append_right (by omega), List.getElem?_map] at h2
    cases e : cs0[j - preC.length]? with
    | none => rw [e] at h2; cases h2
    | some c0 =>
      rw [e] at h2
      simp only [Option.map_some, Option.some.injEq] at h2
      rw [a.here (j - pre.length) i c0 h1 (by rw [← e]; congr 1; omega), ← h2, renC_comp]
      congr 2
      funext q
      exact (tP_pre hk).symm
end
end Z

set_option Elab.async false
set_option linter.all false
set_option maxRecDepth 100000
set_option maxHeartbeats 0
namespace K
open PySem PySem.Spec PyProof.Rows Z
open L2 (defArgs defBody defScope FnScope)
def top (i : Nat) : Stmt := PySem.Challenge.pw_foldedwebs_k35_steps_of_maps_refused.main.body.getD i (.Pass ⟨0, 0, 0, 0⟩)
theorem hbx_by {nb : List Bool} {N : List Str} {sc : Scope} (h : ((nb.zip N).all fun p => !p.1 || decide (sc.names.lookup p.2 = some .cell)) = true) : ∀ (i : Nat) x, nb[i]? = some true → N[i]? = some x → sc.names.lookup x = some .cell := fun i x e1 e2 => by
  have := List.all_eq_true.mp h (true, x) (List.mem_of_getElem? (i := i) (by rw [List.getElem?_zip_eq_some]; exact ⟨e1, e2⟩))
  simpa using this
def fdK (K : PySem.W.Frag) (a : Addr) : FuncData := match K.lookup a with
  | some ⟨_, _, .func fd, _⟩ => fd
  | _ => PySem.W.fnOf "" "" ⟨[], [], none, [], [], none, []⟩ [] ⟨.function, [], false, false, []⟩ .none .none .none .none none .none .none
abbrev TT : Nat := 3
def lamK : Nat → Lam
  | 0 => (defPt (top 47) 0 [1, 0]).lam (("_law_asks" : Str) ++ ".<locals>." ++ "<lambda>")
  | 1 => (defPt (top 47) 1 [0, 1]).lam (("_law_asks" : Str) ++ ".<locals>." ++ "<lambda>")
  | 2 => (defPt (top 47) 2 [0, 1]).lam (("_law_asks" : Str) ++ ".<locals>." ++ "<lambda>")
  | 3 => (defPt (top 47) 3 [0, 1]).lam (("_law_asks" : Str) ++ ".<locals>." ++ "<lambda>")
  | 4 => (defPt (top 47) 4 [0, 1]).lam (("_law_asks" : Str) ++ ".<locals>." ++ "<lambda>")
  | 5 => (defPt (top 47) 5 [0, 1, 0]).lam (("_law_asks" : Str) ++ ".<locals>." ++ "<lambda>")
  | 6 => (defPt (top 43) 1 [1, 1]).lam (("_law_is_very" : Str) ++ ".<locals>." ++ "<lambda>")
  | 7 => (defPt (top 49) 2 [2, 0, 0, 1, 1, 0]).lam (("law" : Str) ++ ".<locals>." ++ "<lambda>")
  | 8 => (defPt (top 49) 4 [2, 0, 0, 1, 0]).lam (("law" : Str) ++ ".<locals>." ++ "<lambda>")
  | 9 => (defPt (top 49) 4 [3, 1, 0]).lam (("law" : Str) ++ ".<locals>." ++ "<lambda>")
  | 10 => (defPt (top 49) 4 [4, 0, 1]).lam (("law" : Str) ++ ".<locals>." ++ "<lambda>")
  | 11 => (defPt (top 49) 4 [5, 0, 1]).lam (("law" : Str) ++ ".<locals>." ++ "<lambda>")
  | 12 => (defPt (top 49) 4 [7, 1, 0]).lam (("law" : Str) ++ ".<locals>." ++ "<lambda>")
  | 13 => (defPt (top 49) 4 [8, 0, 1]).lam (("law" : Str) ++ ".<locals>." ++ "<lambda>")
  | 14 => (defPt (top 49) 4 [9, 0, 1]).lam (("law" : Str) ++ ".<locals>." ++ "<lambda>")
  | 15 => (defPt (top 49) 5 [0, 0, 2]).lam (("law" : Str) ++ ".<locals>." ++ "<lambda>")
  | 16 => (defPt (top 49) 6 [0, 2]).lam (("law" : Str) ++ ".<locals>." ++ "<lambda>")
  | _ => (Pt.e (.Constant .none 0 ⟨0, 0, 0, 0⟩)).lam ""
def ok_goal (C : Addr) : Bool := decide (C = 141)
def ok_led (C : Addr) : Bool := decide (C = 160)
def ok_one (C : Addr) : Bool := decide (C = 103)
def ok_other (C : Addr) : Bool := decide (C = 122)
def ok_web (C : Addr) : Bool := decide (C = 84)
def mtK : Addr → Value → Option Bool := fun C c => match c with
  | .ref 141 => if C = 141 then some true else if (decide (C = 160) || decide (C = 103) || decide (C = 122) || decide (C = 84)) = true then some false else none
  | .ref 160 => if C = 160 then some true else if (decide (C = 141) || decide (C = 103) || decide (C = 122) || decide (C = 84)) = true then some false else none
  | .ref 103 => if C = 103 then some true else if (decide (C = 141) || decide (C = 160) || decide (C = 122) || decide (C = 84)) = true then some false else none
  | .ref 122 => if C = 122 then some true else if (decide (C = 141) || decide (C = 160) || decide (C = 103) || decide (C = 84)) = true then some false else none
  | .ref 84 => if C = 84 then some true else if (decide (C = 141) || decide (C = 160) || decide (C = 103) || decide (C = 122)) = true then some false else none
  | _ => none
structure Txt (G : Gl) : Prop where
  ok : G.Ok
  d__law_met : DefAt G "_law_met" (top 46) 332 (fdK G.K 332) (.ref 331)
  d__law_same : DefAt G "_law_same" (top 42) 306 (fdK G.K 306) (.ref 305)
  d__law_all_met : DefAt G "_law_all_met" (top 48) 344 (fdK G.K 344) (.ref 343)
  d_is_list : DefAt G "is_list" (top 1) 21 (fdK G.K 21) (.ref 20)
  d_is_whole : DefAt G "is_whole" (top 2) 28 (fdK G.K 28) (.ref 27)
  d_is_number : DefAt G "is_number" (top 3) 35 (fdK G.K 35) (.ref 34)
  d_is_below : DefAt G "is_below" (top 4) 42 (fdK G.K 42) (.ref 41)
  d_is_row : DefAt G "is_row" (top 5) 49 (fdK G.K 49) (.ref 48)
  d_near_lists : DefAt G "near_lists" (top 17) 179 (fdK G.K 179) (.ref 178)
  d_kept_map : DefAt G "kept_map" (top 23) 201 (fdK G.K 201) (.ref 200)
  d_is_ascending : DefAt G "is_ascending" (top 6) 54 (fdK G.K 54) (.ref 53)
  d_kept_web : DefAt G "kept_web" (top 15) 167 (fdK G.K 167) (.ref 166)
  d_need_goal : DefAt G "need_goal" (top 22) 196 (fdK G.K 196) (.ref 195)
  d_need_web : DefAt G "need_web" (top 16) 174 (fdK G.K 174) (.ref 173)
  d_need_webs : DefAt G "need_webs" (top 28) 225 (fdK G.K 225) (.ref 224)
  d_need_ends : DefAt G "need_ends" (top 31) 244 (fdK G.K 244) (.ref 243)
  d_nexts_of : DefAt G "nexts_of" (top 27) 218 (fdK G.K 218) (.ref 217)
  d_are_steps : DefAt G "are_steps" (top 34) 261 (fdK G.K 261) (.ref 260)
  d_maps_by : DefAt G "maps_by" (top 25) 213 (fdK G.K 213) (.ref 212)
  d_reached : DefAt G "reached" (top 30) 237 (fdK G.K 237) (.ref 236)
  d_map_classes : DefAt G "map_classes" (top 36) 273 (fdK G.K 273) (.ref 272)
  d_class_count : DefAt G "class_count" (top 37) 280 (fdK G.K 280) (.ref 279)
  d_next_maps : DefAt G "next_maps" (top 29) 230 (fdK G.K 230) (.ref 229)
  d_way_to : DefAt G "way_to" (top 32) 251 (fdK G.K 251) (.ref 250)
  d_steps_far : DefAt G "steps_far" (top 35) 268 (fdK G.K 268) (.ref 267)
  d_steps_or_lot : DefAt G "steps_or_lot" (top 33) 256 (fdK G.K 256) (.ref 255)
  d__law_asks : DefAt G "_law_asks" (top 47) 339 (fdK G.K 339) (.ref 338)
  d__law_is_very : DefAt G "_law_is_very" (top 43) 313 (fdK G.K 313) (.ref 312)
  d__law_stream : DefAt G "_law_stream" (top 40) 294 (fdK G.K 294) (.ref 293)
  d__law_u_odd_webs : DefAt G "_law_u_odd_webs" (top 45) 325 (fdK G.K 325) (.ref 324)
  d__law_draw : DefAt G "_law_draw" (top 41) 301 (fdK G.K 301) (.ref 300)
  d__law_u_web : DefAt G "_law_u_web" (top 44) 318 (fdK G.K 318) (.ref 317)
  d_folds_among : DefAt G "folds_among" (top 20) 189 (fdK G.K 189) (.ref 188)
  d_stiff_or_fold : DefAt G "stiff_or_fold" (top 38) 287 (fdK G.K 287) (.ref 286)
  d_law : DefAt G "law" (top 49) 351 (fdK G.K 351) (.ref 350)
  lam_0 : G.lams 0 = lamK 0
  lam_1 : G.lams 1 = lamK 1
  lam_2 : G.lams 2 = lamK 2
  lam_3 : G.lams 3 = lamK 3
  lam_4 : G.lams 4 = lamK 4
  lam_5 : G.lams 5 = lamK 5
  lam_6 : G.lams 6 = lamK 6
  lam_7 : G.lams 7 = lamK 7
  lam_8 : G.lams 8 = lamK 8
  lam_9 : G.lams 9 = lamK 9
  lam_10 : G.lams 10 = lamK 10
  lam_11 : G.lams 11 = lamK 11
  lam_12 : G.lams 12 = lamK 12
  lam_13 : G.lams 13 = lamK 13
  lam_14 : G.lams 14 = lamK 14
  lam_15 : G.lams 15 = lamK 15
  lam_16 : G.lams 16 = lamK 16
  nms_0 : ∀ a b, G.nms 0 a b = ("_law_asks" : Str) ++ ".<locals>." ++ "<lambda>"
  tab__law_asks : LamX.TabB G.base G.mg 338 (G.tab 0)
  nms_1 : ∀ a b, G.nms 1 a b = ("_law_is_very" : Str) ++ ".<locals>." ++ "<lambda>"
  tab__law_is_very : LamX.TabB G.base G.mg 312 (G.tab 1)
  nms_2 : ∀ a b, G.nms 2 a b = ("law" : Str) ++ ".<locals>." ++ "<lambda>"
  tab_law : LamX.TabB G.base G.mg 350 (G.tab 2)
  b_abs : G.mg "abs" = none
  b_all : G.mg "all" = none
  b_bool : G.mg "bool" = none
  b_dict : G.mg "dict" = none
  b_int : G.mg "int" = none
  b_isinstance : G.mg "isinstance" = none
  b_len : G.mg "len" = none
  b_list : G.mg "list" = none
  b_range : G.mg "range" = none
  b_sorted : G.mg "sorted" = none
  b_str : G.mg "str" = none
  b_tuple : G.mg "tuple" = none
  b_zip : G.mg "zip" = none
  c_BadGoal : G.mg "BadGoal" = some (.ref 141)
  c_BadLed : G.mg "BadLed" = some (.ref 160)
  c_BadOne : G.mg "BadOne" = some (.ref 103)
  c_BadOther : G.mg "BadOther" = some (.ref 122)
  c_BadWeb : G.mg "BadWeb" = some (.ref 84)
  i_BadGoal : Ini G.K 141 138 "self" "goal" (Nm.s [103, 111, 97, 108]) (fdK G.K 138)
  i_BadLed : Ini G.K 160 157 "self" "led" (Nm.s [108, 101, 100]) (fdK G.K 157)
  i_BadOne : Ini G.K 103 100 "self" "one" (Nm.s [111, 110, 101]) (fdK G.K 100)
  i_BadOther : Ini G.K 122 119 "self" "other" (Nm.s [111, 116, 104, 101, 114]) (fdK G.K 119)
  i_BadWeb : Ini G.K 84 81 "self" "web" (Nm.s [119, 101, 98]) (fdK G.K 81)
  mt : ∀ C c b, mtK C c = some b → PySem.W.exmOne G.K (.ref C) c = some b
  x_goal : ∀ C, ok_goal C = true → L2.XfC G.K C ∧ PySem.W.findIn G.K (.ref C) "goal" = some none
  x_led : ∀ C, ok_led C = true → L2.XfC G.K C ∧ PySem.W.findIn G.K (.ref C) "led" = some none
  x_one : ∀ C, ok_one C = true → L2.XfC G.K C ∧ PySem.W.findIn G.K (.ref C) "one" = some none
  x_other : ∀ C, ok_other C = true → L2.XfC G.K C ∧ PySem.W.findIn G.K (.ref C) "other" = some none
  x_web : ∀ C, ok_web C = true → L2.XfC G.K C ∧ PySem.W.findIn G.K (.ref C) "web" = some none
theorem sc_is_whole : FnScope ["thing"] ["thing"] (defScope (top 2)) := ⟨rfl, rfl, rfl, by decide +kernel, rfl, by decide +kernel, by decide +kernel⟩
def v_is_whole : SV := (bCons (sRet (eAnd (eCall (lCons (eV 0) (lCons (eC (.ty "int")) lNil)) lNil (fun vs _ m => rIsi vs m)) (eNot (eCall (lCons (eV 0) (lCons (eC (.ty "bool")) lNil)) lNil (fun vs _ m => rIsi vs m))))) bNil)
def r_is_whole : List D → Store → Res D := fnR [false] v_is_whole
theorem fz_is_whole {G : Gl} (T : Txt G) : FnZ G 4 28 (fdK G.K 28) ["thing"] r_is_whole :=
  T.d_is_whole.fn (k := 3) (bv := v_is_whole) (nb := [false]) T.ok sc_is_whole rfl (hbx_by (by decide +kernel)) fun A outer L c0 hr => (sb_cons (ss_ret (se_and (se_call (nam_blt (by rfl) T.b_isinstance (by rfl) (by decide) (by decide)) (by rfl) (by rfl) (sa_cons (se_var (i := 0) (by rfl) (by decide) (by decide)) (sa_cons (se_blt (v := .ty "int") (by rfl) T.b_int (by rfl) (fun _ _ => (by rfl)) (by decide) (by decide)) sa_nil (star_cons (by rfl))) (star_cons (by rfl))) sk_nil (OC.of o_isi (fun _ _ => kpr_blt))) (se_bool1 (se_not (se_call (nam_blt (by rfl) T.b_isinstance (by rfl) (by decide) (by decide)) (by rfl) (by rfl) (sa_cons (se_var (i := 0) (by rfl) (by decide) (by decide)) (sa_cons (se_blt (v := .ty "bool") (by rfl) T.b_bool (by rfl) (fun _ _ => (by rfl)) (by decide) (by decide)) sa_nil (star_cons (by rfl))) (star_cons (by rfl))) sk_nil (OC.of o_isi (fun _ _ => kpr_blt))))))) sb_nil)
theorem kb_is_whole_1_ {G : Gl} (T : Txt G) : KB (fdK G.K 28) ["thing"] 1 [] [0] := T.d_is_whole.kb fun _ _ _ _ _ => ⟨rfl, fun us ws h1 h2 => match us, h1 with
  | [a0], _ => match ws, h2 with
    | [], _ => rfl⟩
theorem sc_is_number : FnScope ["thing"] ["thing"] (defScope (top 3)) := ⟨rfl, rfl, rfl, by decide +kernel, rfl, by decide +kernel, by decide +kernel⟩
def v_is_number : SV := (bCons (sRet (eAnd (eCall (lCons (eV 0) lNil) lNil (bindR 1 0 [0] r_is_whole)) (e2 (rLtI pGe) (eV 0) (eC (.int 0))))) bNil)
def r_is_number : List D → Store → Res D := fnR [false] v_is_number
theorem fz_is_number {G : Gl} (T : Txt G) : FnZ G 5 35 (fdK G.K 35) ["thing"] r_is_number :=
  T.d_is_number.fn (k := 4) (bv := v_is_number) (nb := [false]) T.ok sc_is_number rfl (hbx_by (by decide +kernel)) fun A outer L c0 hr => (sb_cons (ss_ret (se_and (se_call (nam_glob (by rfl) T.d_is_whole.mg (by decide)) (by rfl) (by rfl) (sa_cons (se_var (i := 0) (by rfl) (by decide) (by decide)) sa_nil (star_cons (by rfl))) sk_nil (T.d_is_whole.oc (fz_is_whole T) (hr.mono (by decide)) (kb_is_whole_1_ T))) (se_bool1 (se_cmp o_geI (se_var (i := 0) (by rfl) (by decide) (by decide)) se_int (by rfl))))) sb_nil)
theorem kb_is_number_1_ {G : Gl} (T : Txt G) : KB (fdK G.K 35) ["thing"] 1 [] [0] := T.d_is_number.kb fun _ _ _ _ _ => ⟨rfl, fun us ws h1 h2 => match us, h1 with
  | [a0], _ => match ws, h2 with
    | [], _ => rfl⟩
theorem sc_is_below : FnScope ["thing", "most"] ["thing", "most"] (defScope (top 4)) := ⟨rfl, rfl, rfl, by decide +kernel, rfl, by decide +kernel, by decide +kernel⟩
def v_is_below : SV := (bCons (sRet (eAnd (eCall (lCons (eV 0) lNil) lNil (bindR 1 0 [0] r_is_number)) (e2 rLt (eV 0) (eV 1)))) bNil)
def r_is_below : List D → Store → Res D := fnR [false, false] v_is_below
theorem fz_is_below {G : Gl} (T : Txt G) : FnZ G 6 42 (fdK G.K 42) ["thing", "most"] r_is_below :=
  T.d_is_below.fn (k := 5) (bv := v_is_below) (nb := [false, false]) T.ok sc_is_below rfl (hbx_by (by decide +kernel)) fun A outer L c0 hr => (sb_cons (ss_ret (se_and (se_call (nam_glob (by rfl) T.d_is_number.mg (by decide)) (by rfl) (by rfl) (sa_cons (se_var (i := 0) (by rfl) (by decide) (by decide)) sa_nil (star_cons (by rfl))) sk_nil (T.d_is_number.oc (fz_is_number T) (hr.mono (by decide)) (kb_is_number_1_ T))) (se_bool1 (se_cmp o_lt (se_var (i := 0) (by rfl) (by decide) (by decide)) (se_var (i := 1) (by rfl) (by decide) (by decide)) (by rfl))))) sb_nil)
theorem sc_is_list : FnScope ["thing"] ["thing"] (defScope (top 1)) := ⟨rfl, rfl, rfl, by decide +kernel, rfl, by decide +kernel, by decide +kernel⟩
def v_is_list : SV := (bCons (sRet (eCall (lCons (eV 0) (lCons (eTup (lCons (eC (.ty "list")) (lCons (eC (.ty "tuple")) lNil))) lNil)) lNil (fun vs _ m => rIsi vs m))) bNil)
def r_is_list : List D → Store → Res D := fnR [false] v_is_list
theorem fz_is_list {G : Gl} (T : Txt G) : FnZ G 4 21 (fdK G.K 21) ["thing"] r_is_list :=
  T.d_is_list.fn (k := 3) (bv := v_is_list) (nb := [false]) T.ok sc_is_list rfl (hbx_by (by decide +kernel)) fun A outer L c0 hr => (sb_cons (ss_ret (se_call (nam_blt (by rfl) T.b_isinstance (by rfl) (by decide) (by decide)) (by rfl) (by rfl) (sa_cons (se_var (i := 0) (by rfl) (by decide) (by decide)) (sa_cons (se_tup (sa_cons (se_blt (v := .ty "list") (by rfl) T.b_list (by rfl) (fun _ _ => (by rfl)) (by decide) (by decide)) (sa_cons (se_blt (v := .ty "tuple") (by rfl) T.b_tuple (by rfl) (fun _ _ => (by rfl)) (by decide) (by decide)) sa_nil (star_cons (by rfl))) (star_cons (by rfl)))) sa_nil (star_cons (by rfl))) (star_cons (by rfl))) sk_nil (OC.of o_isi (fun _ _ => kpr_blt)))) sb_nil)
theorem kb_is_list_1_ {G : Gl} (T : Txt G) : KB (fdK G.K 21) ["thing"] 1 [] [0] := T.d_is_list.kb fun _ _ _ _ _ => ⟨rfl, fun us ws h1 h2 => match us, h1 with
  | [a0], _ => match ws, h2 with
    | [], _ => rfl⟩
theorem sc_is_row : FnScope ["thing", "many"] ["thing", "many"] (defScope (top 5)) := ⟨rfl, rfl, rfl, by decide +kernel, rfl, by decide +kernel, by decide +kernel⟩
def v_is_row : SV := (bCons (sRet (eAnd (eCall (lCons (eV 0) lNil) lNil (bindR 1 0 [0] r_is_list)) (e2 rEq (eCall (lCons (eV 0) lNil) lNil (fun vs _ m => rLen vs m)) (eV 1)))) bNil)
def r_is_row : List D → Store → Res D := fnR [false, false] v_is_row
theorem fz_is_row {G : Gl} (T : Txt G) : FnZ G 5 49 (fdK G.K 49) ["thing", "many"] r_is_row :=
  T.d_is_row.fn (k := 4) (bv := v_is_row) (nb := [false, false]) T.ok sc_is_row rfl (hbx_by (by decide +kernel)) fun A outer L c0 hr => (sb_cons (ss_ret (se_and (se_call (nam_glob (by rfl) T.d_is_list.mg (by decide)) (by rfl) (by rfl) (sa_cons (se_var (i := 0) (by rfl) (by decide) (by decide)) sa_nil (star_cons (by rfl))) sk_nil (T.d_is_list.oc (fz_is_list T) (hr.mono (by decide)) (kb_is_list_1_ T))) (se_bool1 (se_cmp o_eq (se_call (nam_blt (by rfl) T.b_len (by rfl) (by decide) (by decide)) (by rfl) (by rfl) (sa_cons (se_var (i := 0) (by rfl) (by decide) (by decide)) sa_nil (star_cons (by rfl))) sk_nil (OC.of o_len (fun _ _ => kpr_blt))) (se_var (i := 1) (by rfl) (by decide) (by decide)) (by rfl))))) sb_nil)
theorem sc_near_lists : FnScope ["web", "found", "one", "other"] ["web"] (defScope (top 17)) := ⟨rfl, rfl, rfl, by decide +kernel, rfl, by decide +kernel, by decide +kernel⟩
def v_near_lists : SV := (bCons (sAsg (eLc (iCall (lCons (e2 rIx (eV 0) (eC (.int 0))) lNil) rRng) [none] (gName 0) tYes eDct0 80) (gName 1)) (bCons (sFor (iVal (e2 rIx (eV 0) (eC (.int 1)))) (gTup 2 (gCons (gName 2) (gCons (gName 3) gNil))) (bCons (sAsg (eC (.bl true)) (gSub (e2 rIx (eV 1) (eV 2)) (eV 3))) (bCons (sAsg (eC (.bl true)) (gSub (e2 rIx (eV 1) (eV 3)) (eV 2))) bNil)) 80) (bCons (sRet (eLc (iVal (eV 1)) [none] (gName 0) tYes (eCall (lCons (eV 0) lNil) lNil (fun vs _ m => rSrt2 vs m)) 80)) bNil)))
def r_near_lists : List D → Store → Res D := fnR [false, false, false, false] v_near_lists
theorem fz_near_lists {G : Gl} (T : Txt G) : FnZ G 4 179 (fdK G.K 179) ["web"] r_near_lists :=
  T.d_near_lists.fn (k := 3) (bv := v_near_lists) (nb := [false, false, false, false]) T.ok sc_near_lists rfl (hbx_by (by decide +kernel)) fun A outer L c0 hr => (sb_cons (ss_setLc (i := 1) 80 (by rfl) (by rfl) (by rfl) (by rfl) (si_call (nam_blt (by rfl) T.b_range (by rfl) (by decide) (by decide)) (by rfl) (sa_cons (se_ix (se_var (i := 0) (by rfl) (by decide) (by decide)) se_int (fun _ _ => (by rfl))) sa_nil (star_cons (by rfl))) it_range) (blk_by (Nb := ["_"]) (by rfl)) (fun cl C => (sg_name (i := 0) (by rfl) (.inl (by rfl)))) (fun cl C => sts_nil) (fun cl C => se_dct0) (fun _ => (by rfl))) (sb_cons (ss_for 80 top_cx (by rfl) (si_val (by rfl) (se_ix (se_var (i := 0) (by rfl) (by decide) (by decide)) se_int (fun _ _ => (by rfl)))) (sg_tup (by rfl) (sgs_cons (sg_name (i := 2) (by rfl) (.inl (by rfl))) (sgs_cons (sg_name (i := 3) (by rfl) (.inl (by rfl))) sgs_nil (by rfl)) (by rfl)) (by rfl)) (sb_cons (ss_asg se_bl (sg_sub (se_ix (se_var (i := 1) (by rfl) (by decide) (by decide)) (se_var (i := 2) (by rfl) (by decide) (by decide)) (fun _ _ => (by rfl))) (se_var (i := 3) (by rfl) (by decide) (by decide)) (fun _ => (by rfl))) (by rfl) (by rfl) (by rfl)) (sb_cons (ss_asg se_bl (sg_sub (se_ix (se_var (i := 1) (by rfl) (by decide) (by decide)) (se_var (i := 3) (by rfl) (by decide) (by decide)) (fun _ _ => (by rfl))) (se_var (i := 2) (by rfl) (by decide) (by decide)) (fun _ => (by rfl))) (by rfl) (by rfl) (by rfl)) sb_nil)) (fun _ => (by rfl))) (sb_cons (ss_ret (se_lc 80 (by rfl) (si_val (by rfl) (se_var (i := 1) (by rfl) (by decide) (by decide))) (blk_by (Nb := ["lot"]) (by rfl)) (fun cl C => (sg_name (i := 0) (by rfl) (.inl (by rfl)))) (fun cl C => sts_nil) (fun cl C => (se_call (nam_blt (by rfl) T.b_sorted (by rfl) (by decide) (by decide)) (by rfl) (by rfl) (sa_cons (se_var (i := 0) (by rfl) (by decide) (by decide)) sa_nil (star_cons (by rfl))) sk_nil (OC.of (o_srt2 (by rfl)) (fun _ _ => kpr_blt)))) (fun _ => (by rfl)))) sb_nil)))
theorem kb_near_lists_1_ {G : Gl} (T : Txt G) : KB (fdK G.K 179) ["web"] 1 [] [0] := T.d_near_lists.kb fun _ _ _ _ _ => ⟨rfl, fun us ws h1 h2 => match us, h1 with
  | [a0], _ => match ws, h2 with
    | [], _ => rfl⟩
theorem kb_is_row_2_ {G : Gl} (T : Txt G) : KB (fdK G.K 49) ["thing", "many"] 2 [] [0, 1] := T.d_is_row.kb fun _ _ _ _ _ => ⟨rfl, fun us ws h1 h2 => match us, h1 with
  | [a0, a1], _ => match ws, h2 with
    | [], _ => rfl⟩
theorem kb_is_below_2_ {G : Gl} (T : Txt G) : KB (fdK G.K 42) ["thing", "most"] 2 [] [0, 1] := T.d_is_below.kb fun _ _ _ _ _ => ⟨rfl, fun us ws h1 h2 => match us, h1 with
  | [a0, a1], _ => match ws, h2 with
    | [], _ => rfl⟩
theorem sc_kept_map : FnScope ["web", "goal", "thing", "lists"] ["web", "goal", "thing"] (defScope (top 23)) := ⟨rfl, rfl, rfl, by decide +kernel, rfl, by decide +kernel, by decide +kernel⟩
def v_kept_map : SV := (bCons (sIf (tOr (tNot (ts (eCall (lCons (eV 2) (lCons (e2 rIx (eV 0) (eC (.int 0))) lNil)) lNil (bindR 2 0 [0, 1] r_is_row)))) (tNot (ts (eCall (lCons (eLc (iVal (eV 2)) [none, (some 1)] (gName 0) tYes (eCall (lCons (eV 0) (lCons (e2 rIx (eV 1) (eC (.int 0))) lNil)) lNil (bindR 2 0 [0, 1] r_is_below)) 80) lNil) lNil (fun vs _ m => rAll vs m))))) (bCons (sRet (eC .non)) bNil) bNil) (bCons (sAsg (eCall (lCons (eV 1) lNil) lNil (bindR 1 0 [0] r_near_lists)) (gName 3)) (bCons (sRet (eIf (ts (eCall (lCons (eLc (iVal (e2 rIx (eV 0) (eC (.int 1)))) [none, none, (some 3), (some 2)] (gTup 2 (gCons (gName 0) (gCons (gName 1) gNil))) tYes (e2 rIn (e2 rIx (eV 3) (eV 1)) (e2 rIx (eV 2) (e2 rIx (eV 3) (eV 0)))) 80) lNil) lNil (fun vs _ m => rAll vs m))) (eCall (lCons (eV 2) lNil) lNil (fun vs _ m => rLst vs m)) (eC .non))) bNil)))
def r_kept_map : List D → Store → Res D := fnR [false, false, false, false] v_kept_map
theorem fz_kept_map {G : Gl} (T : Txt G) : FnZ G 7 201 (fdK G.K 201) ["web", "goal", "thing"] r_kept_map :=
  T.d_kept_map.fn (k := 6) (bv := v_kept_map) (nb := [false, false, false, false]) T.ok sc_kept_map rfl (hbx_by (by decide +kernel)) fun A outer L c0 hr => (sb_cons (ss_if ((st_or (st_not (st_plain (se_call (nam_glob (by rfl) T.d_is_row.mg (by decide)) (by rfl) (by rfl) (sa_cons (se_var (i := 2) (by rfl) (by decide) (by decide)) (sa_cons (se_ix (se_var (i := 0) (by rfl) (by decide) (by decide)) se_int (fun _ _ => (by rfl))) sa_nil (star_cons (by rfl))) (star_cons (by rfl))) sk_nil (T.d_is_row.oc (fz_is_row T) (hr.mono (by decide)) (kb_is_row_2_ T))) (fun _ => (by rfl)))).st (st_or1 (st_not (st_plain (se_call (nam_blt (by rfl) T.b_all (by rfl) (by decide) (by decide)) (by rfl) (by rfl) (sa_cons (se_lc 80 (by rfl) (si_val (by rfl) (se_var (i := 2) (by rfl) (by decide) (by decide))) (blk_by (Nb := ["spot", "goal"]) (by rfl)) (fun cl C => (sg_name (i := 0) (by rfl) (.inl (by rfl)))) (fun cl C => sts_nil) (fun cl C => (se_call (nam_glob (by rfl) T.d_is_below.mg (by decide)) (by rfl) (by rfl) (sa_cons (se_var (i := 0) (by rfl) (by decide) (by decide)) (sa_cons (se_ix (se_var (i := 1) (by rfl) (by decide) (by decide)) se_int (fun _ _ => (by rfl))) sa_nil (star_cons (by rfl))) (star_cons (by rfl))) sk_nil (T.d_is_below.oc (fz_is_below T) (hr.mono (by decide)) (kb_is_below_2_ T)))) (fun _ => (by rfl))) sa_nil (star_cons (by rfl))) sk_nil (OC.of (o_all (by rfl)) (fun _ _ => kpr_blt))) (fun _ => (by rfl)))).st))).st (sb_cons (ss_ret se_non) sb_nil) sb_nil) (sb_cons (ss_asg (se_call (nam_glob (by rfl) T.d_near_lists.mg (by decide)) (by rfl) (by rfl) (sa_cons (se_var (i := 1) (by rfl) (by decide) (by decide)) sa_nil (star_cons (by rfl))) sk_nil (T.d_near_lists.oc (fz_near_lists T) (hr.mono (by decide)) (kb_near_lists_1_ T))) (sg_name (i := 3) (by rfl) (.inr ⟨(by rfl), (by rfl)⟩)) (by rfl) (by rfl) (by rfl)) (sb_cons (ss_ret (se_if (st_plain (se_call (nam_blt (by rfl) T.b_all (by rfl) (by decide) (by decide)) (by rfl) (by rfl) (sa_cons (se_lc 80 (by rfl) (si_val (by rfl) (se_ix (se_var (i := 0) (by rfl) (by decide) (by decide)) se_int (fun _ _ => (by rfl)))) (blk_by (Nb := ["one", "other", "lists", "thing"]) (by rfl)) (fun cl C => (sg_tup (by rfl) (sgs_cons (sg_name (i := 0) (by rfl) (.inl (by rfl))) (sgs_cons (sg_name (i := 1) (by rfl) (.inl (by rfl))) sgs_nil (by rfl)) (by rfl)) (by rfl))) (fun cl C => sts_nil) (fun cl C => (se_cmp o_in (se_ix (se_var (i := 3) (by rfl) (by decide) (by decide)) (se_var (i := 1) (by rfl) (by decide) (by decide)) (fun _ _ => (by rfl))) (se_ix (se_var (i := 2) (by rfl) (by decide) (by decide)) (se_ix (se_var (i := 3) (by rfl) (by decide) (by decide)) (se_var (i := 0) (by rfl) (by decide) (by decide)) (fun _ _ => (by rfl))) (fun _ _ => (by rfl))) (by rfl))) (fun _ => (by rfl))) sa_nil (star_cons (by rfl))) sk_nil (OC.of (o_all (by rfl)) (fun _ _ => kpr_blt))) (fun _ => (by rfl))) (se_call (nam_blt (by rfl) T.b_list (by rfl) (by decide) (by decide)) (by rfl) (by rfl) (sa_cons (se_var (i := 2) (by rfl) (by decide) (by decide)) sa_nil (star_cons (by rfl))) sk_nil (OC.of o_lst (fun _ _ => kpr_ty))) se_non)) sb_nil)))
theorem sc_is_ascending : FnScope ["things"] ["things"] (defScope (top 6)) := ⟨rfl, rfl, rfl, by decide +kernel, rfl, by decide +kernel, by decide +kernel⟩
def v_is_ascending : SV := (bCons (sRet (eCall (lCons (eLc (iCall (lCons (eV 0) (lCons (eSl (eV 0) (oSome (eC (.int 1))) oNone) lNil)) rZip) [none, none] (gTup 2 (gCons (gName 0) (gCons (gName 1) gNil))) tYes (e2 rLt (eV 0) (eV 1)) 80) lNil) lNil (fun vs _ m => rAll vs m))) bNil)
def r_is_ascending : List D → Store → Res D := fnR [false] v_is_ascending
theorem fz_is_ascending {G : Gl} (T : Txt G) : FnZ G 4 54 (fdK G.K 54) ["things"] r_is_ascending :=
  T.d_is_ascending.fn (k := 3) (bv := v_is_ascending) (nb := [false]) T.ok sc_is_ascending rfl (hbx_by (by decide +kernel)) fun A outer L c0 hr => (sb_cons (ss_ret (se_call (nam_blt (by rfl) T.b_all (by rfl) (by decide) (by decide)) (by rfl) (by rfl) (sa_cons (se_lc 80 (by rfl) (si_call (nam_blt (by rfl) T.b_zip (by rfl) (by decide) (by decide)) (by rfl) (sa_cons (se_var (i := 0) (by rfl) (by decide) (by decide)) (sa_cons (se_sl (se_var (i := 0) (by rfl) (by decide) (by decide)) (sp_some se_int) sp_none) sa_nil (star_cons (by rfl))) (star_cons (by rfl))) it_zip) (blk_by (Nb := ["one", "other"]) (by rfl)) (fun cl C => (sg_tup (by rfl) (sgs_cons (sg_name (i := 0) (by rfl) (.inl (by rfl))) (sgs_cons (sg_name (i := 1) (by rfl) (.inl (by rfl))) sgs_nil (by rfl)) (by rfl)) (by rfl))) (fun cl C => sts_nil) (fun cl C => (se_cmp o_lt (se_var (i := 0) (by rfl) (by decide) (by decide)) (se_var (i := 1) (by rfl) (by decide) (by decide)) (by rfl))) (fun _ => (by rfl))) sa_nil (star_cons (by rfl))) sk_nil (OC.of (o_all (by rfl)) (fun _ _ => kpr_blt)))) sb_nil)
theorem kb_is_ascending_1_ {G : Gl} (T : Txt G) : KB (fdK G.K 54) ["things"] 1 [] [0] := T.d_is_ascending.kb fun _ _ _ _ _ => ⟨rfl, fun us ws h1 h2 => match us, h1 with
  | [a0], _ => match ws, h2 with
    | [], _ => rfl⟩
theorem sc_kept_web : FnScope ["thing", "tie", "ties"] ["thing"] (defScope (top 15)) := ⟨rfl, rfl, rfl, by decide +kernel, rfl, by decide +kernel, by decide +kernel⟩
def v_kept_web : SV := (bCons (sIf (tOr (tNot (ts (eCall (lCons (eV 0) (lCons (eC (.int 2)) lNil)) lNil (bindR 2 0 [0, 1] r_is_row)))) (tOr (tNot (ts (eCall (lCons (e2 rIx (eV 0) (eC (.int 0))) lNil) lNil (bindR 1 0 [0] r_is_whole)))) (tOr (ts (e2 rLt (e2 rIx (eV 0) (eC (.int 0))) (eC (.int 1)))) (tNot (ts (eCall (lCons (e2 rIx (eV 0) (eC (.int 1))) lNil) lNil (bindR 1 0 [0] r_is_list))))))) (bCons (sRet (eC .non)) bNil) bNil) (bCons (sFor (iVal (e2 rIx (eV 0) (eC (.int 1)))) (gName 1) (bCons (sIf (tOr (tNot (ts (eCall (lCons (eV 1) (lCons (eC (.int 2)) lNil)) lNil (bindR 2 0 [0, 1] r_is_row)))) (tOr (tNot (ts (eCall (lCons (e2 rIx (eV 1) (eC (.int 0))) (lCons (e2 rIx (eV 0) (eC (.int 0))) lNil)) lNil (bindR 2 0 [0, 1] r_is_below)))) (tOr (tNot (ts (eCall (lCons (e2 rIx (eV 1) (eC (.int 1))) (lCons (e2 rIx (eV 0) (eC (.int 0))) lNil)) lNil (bindR 2 0 [0, 1] r_is_below)))) (ts (e2 (rLtI pGt) (e2 rIx (eV 1) (eC (.int 0))) (e2 rIx (eV 1) (eC (.int 1)))))))) (bCons (sRet (eC .non)) bNil) bNil) bNil) 80) (bCons (sAsg (eLc (iVal (e2 rIx (eV 0) (eC (.int 1)))) [none] (gName 0) tYes (eCall (lCons (eV 0) lNil) lNil (fun vs _ m => rTup vs m)) 80) (gName 2)) (bCons (sRet (eIf (ts (eCall (lCons (eV 2) lNil) lNil (bindR 1 0 [0] r_is_ascending))) (eTup (lCons (e2 rIx (eV 0) (eC (.int 0))) (lCons (eCall (lCons (eV 2) lNil) lNil (fun vs _ m => rTup vs m)) lNil))) (eC .non))) bNil))))
def r_kept_web : List D → Store → Res D := fnR [false, false, false] v_kept_web
theorem fz_kept_web {G : Gl} (T : Txt G) : FnZ G 7 167 (fdK G.K 167) ["thing"] r_kept_web :=
  T.d_kept_web.fn (k := 6) (bv := v_kept_web) (nb := [false, false, false]) T.ok sc_kept_web rfl (hbx_by (by decide +kernel)) fun A outer L c0 hr => (sb_cons (ss_if ((st_or (st_not (st_plain (se_call (nam_glob (by rfl) T.d_is_row.mg (by decide)) (by rfl) (by rfl) (sa_cons (se_var (i := 0) (by rfl) (by decide) (by decide)) (sa_cons se_int sa_nil (star_cons (by rfl))) (star_cons (by rfl))) sk_nil (T.d_is_row.oc (fz_is_row T) (hr.mono (by decide)) (kb_is_row_2_ T))) (fun _ => (by rfl)))).st (st_or (st_not (st_plain (se_call (nam_glob (by rfl) T.d_is_whole.mg (by decide)) (by rfl) (by rfl) (sa_cons (se_ix (se_var (i := 0) (by rfl) (by decide) (by decide)) se_int (fun _ _ => (by rfl))) sa_nil (star_cons (by rfl))) sk_nil (T.d_is_whole.oc (fz_is_whole T) (hr.mono (by decide)) (kb_is_whole_1_ T))) (fun _ => (by rfl)))).st (st_or (st_cmp o_lt (se_ix (se_var (i := 0) (by rfl) (by decide) (by decide)) se_int (fun _ _ => (by rfl))) se_int (by rfl)) (st_or1 (st_not (st_plain (se_call (nam_glob (by rfl) T.d_is_list.mg (by decide)) (by rfl) (by rfl) (sa_cons (se_ix (se_var (i := 0) (by rfl) (by decide) (by decide)) se_int (fun _ _ => (by rfl))) sa_nil (star_cons (by rfl))) sk_nil (T.d_is_list.oc (fz_is_list T) (hr.mono (by decide)) (kb_is_list_1_ T))) (fun _ => (by rfl)))).st))))).st (sb_cons (ss_ret se_non) sb_nil) sb_nil) (sb_cons (ss_for 80 top_cx (by rfl) (si_val (by rfl) (se_ix (se_var (i := 0) (by rfl) (by decide) (by decide)) se_int (fun _ _ => (by rfl)))) (sg_name (i := 1) (by rfl) (.inl (by rfl))) (sb_cons (ss_if ((st_or (st_not (st_plain (se_call (nam_glob (by rfl) T.d_is_row.mg (by decide)) (by rfl) (by rfl) (sa_cons (se_var (i := 1) (by rfl) (by decide) (by decide)) (sa_cons se_int sa_nil (star_cons (by rfl))) (star_cons (by rfl))) sk_nil (T.d_is_row.oc (fz_is_row T) (hr.mono (by decide)) (kb_is_row_2_ T))) (fun _ => (by rfl)))).st (st_or (st_not (st_plain (se_call (nam_glob (by rfl) T.d_is_below.mg (by decide)) (by rfl) (by rfl) (sa_cons (se_ix (se_var (i := 1) (by rfl) (by decide) (by decide)) se_int (fun _ _ => (by rfl))) (sa_cons (se_ix (se_var (i := 0) (by rfl) (by decide) (by decide)) se_int (fun _ _ => (by rfl))) sa_nil (star_cons (by rfl))) (star_cons (by rfl))) sk_nil (T.d_is_below.oc (fz_is_below T) (hr.mono (by decide)) (kb_is_below_2_ T))) (fun _ => (by rfl)))).st (st_or (st_not (st_plain (se_call (nam_glob (by rfl) T.d_is_below.mg (by decide)) (by rfl) (by rfl) (sa_cons (se_ix (se_var (i := 1) (by rfl) (by decide) (by decide)) se_int (fun _ _ => (by rfl))) (sa_cons (se_ix (se_var (i := 0) (by rfl) (by decide) (by decide)) se_int (fun _ _ => (by rfl))) sa_nil (star_cons (by rfl))) (star_cons (by rfl))) sk_nil (T.d_is_below.oc (fz_is_below T) (hr.mono (by decide)) (kb_is_below_2_ T))) (fun _ => (by rfl)))).st (st_or1 (st_cmp o_gtI (se_ix (se_var (i := 1) (by rfl) (by decide) (by decide)) se_int (fun _ _ => (by rfl))) (se_ix (se_var (i := 1) (by rfl) (by decide) (by decide)) se_int (fun _ _ => (by rfl))) (by rfl))))))).st (sb_cons (ss_ret se_non) sb_nil) sb_nil) sb_nil) (fun _ => (by rfl))) (sb_cons (ss_setLc (i := 2) 80 (by rfl) (by rfl) (by rfl) (by rfl) (si_val (by rfl) (se_ix (se_var (i := 0) (by rfl) (by decide) (by decide)) se_int (fun _ _ => (by rfl)))) (blk_by (Nb := ["tie"]) (by rfl)) (fun cl C => (sg_name (i := 0) (by rfl) (.inl (by rfl)))) (fun cl C => sts_nil) (fun cl C => (se_call (nam_blt (by rfl) T.b_tuple (by rfl) (by decide) (by decide)) (by rfl) (by rfl) (sa_cons (se_var (i := 0) (by rfl) (by decide) (by decide)) sa_nil (star_cons (by rfl))) sk_nil (OC.of o_tup (fun _ _ => kpr_ty)))) (fun _ => (by rfl))) (sb_cons (ss_ret (se_if (st_plain (se_call (nam_glob (by rfl) T.d_is_ascending.mg (by decide)) (by rfl) (by rfl) (sa_cons (se_var (i := 2) (by rfl) (by decide) (by decide)) sa_nil (star_cons (by rfl))) sk_nil (T.d_is_ascending.oc (fz_is_ascending T) (hr.mono (by decide)) (kb_is_ascending_1_ T))) (fun _ => (by rfl))) (se_tup (sa_cons (se_ix (se_var (i := 0) (by rfl) (by decide) (by decide)) se_int (fun _ _ => (by rfl))) (sa_cons (se_call (nam_blt (by rfl) T.b_tuple (by rfl) (by decide) (by decide)) (by rfl) (by rfl) (sa_cons (se_var (i := 2) (by rfl) (by decide) (by decide)) sa_nil (star_cons (by rfl))) sk_nil (OC.of o_tup (fun _ _ => kpr_ty))) sa_nil (star_cons (by rfl))) (star_cons (by rfl)))) se_non)) sb_nil))))
theorem kb_kept_web_1_ {G : Gl} (T : Txt G) : KB (fdK G.K 167) ["thing"] 1 [] [0] := T.d_kept_web.kb fun _ _ _ _ _ => ⟨rfl, fun us ws h1 h2 => match us, h1 with
  | [a0], _ => match ws, h2 with
    | [], _ => rfl⟩
theorem sc_need_goal : FnScope ["goal", "kept"] ["goal"] (defScope (top 22)) := ⟨rfl, rfl, rfl, by decide +kernel, rfl, by decide +kernel, by decide +kernel⟩
def v_need_goal : SV := (bCons (sAsg (eCall (lCons (eV 0) lNil) lNil (bindR 1 0 [0] r_kept_web)) (gName 1)) (bCons (sIf (ts (e2 rIs (eV 1) (eC .non))) (bCons (sRaise 141 [103, 111, 97, 108] (eV 0)) bNil) bNil) (bCons (sRet (eV 1)) bNil)))
def r_need_goal : List D → Store → Res D := fnR [false, false] v_need_goal
theorem fz_need_goal {G : Gl} (T : Txt G) : FnZ G 8 196 (fdK G.K 196) ["goal"] r_need_goal :=
  T.d_need_goal.fn (k := 7) (bv := v_need_goal) (nb := [false, false]) T.ok sc_need_goal rfl (hbx_by (by decide +kernel)) fun A outer L c0 hr => (sb_cons (ss_asg (se_call (nam_glob (by rfl) T.d_kept_web.mg (by decide)) (by rfl) (by rfl) (sa_cons (se_var (i := 0) (by rfl) (by decide) (by decide)) sa_nil (star_cons (by rfl))) sk_nil (T.d_kept_web.oc (fz_kept_web T) (hr.mono (by decide)) (kb_kept_web_1_ T))) (sg_name (i := 1) (by rfl) (.inl (by rfl))) (by rfl) (by rfl) (by rfl)) (sb_cons (ss_if (st_cmp o_is (se_var (i := 1) (by rfl) (by decide) (by decide)) se_non (by rfl)) (sb_cons (ss_raise (fld := [103, 111, 97, 108]) (by rfl) (hr.mono (by decide)) T.i_BadGoal (nam_glob (by rfl) T.c_BadGoal (by decide)) (se_var (i := 0) (by rfl) (by decide) (by decide)) (by rfl)) sb_nil) sb_nil) (sb_cons (ss_ret (se_var (i := 1) (by rfl) (by decide) (by decide))) sb_nil)))
def f_need_goal : List D → Store → Res D := frm TT r_need_goal
theorem ff_need_goal {G : Gl} (T : Txt G) : FnZ G 8 196 (fdK G.K 196) ["goal"] f_need_goal := (fz_need_goal T).frm TT
theorem sc_need_web : FnScope ["web", "kept"] ["web"] (defScope (top 16)) := ⟨rfl, rfl, rfl, by decide +kernel, rfl, by decide +kernel, by decide +kernel⟩
def v_need_web : SV := (bCons (sAsg (eCall (lCons (eV 0) lNil) lNil (bindR 1 0 [0] r_kept_web)) (gName 1)) (bCons (sIf (ts (e2 rIs (eV 1) (eC .non))) (bCons (sRaise 84 [119, 101, 98] (eV 0)) bNil) bNil) (bCons (sRet (eV 1)) bNil)))
def r_need_web : List D → Store → Res D := fnR [false, false] v_need_web
theorem fz_need_web {G : Gl} (T : Txt G) : FnZ G 8 174 (fdK G.K 174) ["web"] r_need_web :=
  T.d_need_web.fn (k := 7) (bv := v_need_web) (nb := [false, false]) T.ok sc_need_web rfl (hbx_by (by decide +kernel)) fun A outer L c0 hr => (sb_cons (ss_asg (se_call (nam_glob (by rfl) T.d_kept_web.mg (by decide)) (by rfl) (by rfl) (sa_cons (se_var (i := 0) (by rfl) (by decide) (by decide)) sa_nil (star_cons (by rfl))) sk_nil (T.d_kept_web.oc (fz_kept_web T) (hr.mono (by decide)) (kb_kept_web_1_ T))) (sg_name (i := 1) (by rfl) (.inl (by rfl))) (by rfl) (by rfl) (by rfl)) (sb_cons (ss_if (st_cmp o_is (se_var (i := 1) (by rfl) (by decide) (by decide)) se_non (by rfl)) (sb_cons (ss_raise (fld := [119, 101, 98]) (by rfl) (hr.mono (by decide)) T.i_BadWeb (nam_glob (by rfl) T.c_BadWeb (by decide)) (se_var (i := 0) (by rfl) (by decide) (by decide)) (by rfl)) sb_nil) sb_nil) (sb_cons (ss_ret (se_var (i := 1) (by rfl) (by decide) (by decide))) sb_nil)))
theorem kb_need_goal_1_ {G : Gl} (T : Txt G) : KB (fdK G.K 196) ["goal"] 1 [] [0] := T.d_need_goal.kb fun _ _ _ _ _ => ⟨rfl, fun us ws h1 h2 => match us, h1 with
  | [a0], _ => match ws, h2 with
    | [], _ => rfl⟩
theorem kb_need_web_1_ {G : Gl} (T : Txt G) : KB (fdK G.K 174) ["web"] 1 [] [0] := T.d_need_web.kb fun _ _ _ _ _ => ⟨rfl, fun us ws h1 h2 => match us, h1 with
  | [a0], _ => match ws, h2 with
    | [], _ => rfl⟩
theorem sc_need_webs : FnScope ["web", "goal", "kept"] ["web", "goal"] (defScope (top 28)) := ⟨rfl, rfl, rfl, by decide +kernel, rfl, by decide +kernel, by decide +kernel⟩
def v_need_webs : SV := (bCons (sAsg (eCall (lCons (eV 0) lNil) lNil (bindR 1 0 [0] r_need_web)) (gName 2)) (bCons (sRet (eTup (lCons (eV 2) (lCons (eCall (lCons (eV 1) lNil) lNil (bindR 1 0 [0] f_need_goal)) lNil)))) bNil))
def r_need_webs : List D → Store → Res D := fnR [false, false, false] v_need_webs
theorem fz_need_webs {G : Gl} (T : Txt G) : FnZ G 9 225 (fdK G.K 225) ["web", "goal"] r_need_webs :=
  T.d_need_webs.fn (k := 8) (bv := v_need_webs) (nb := [false, false, false]) T.ok sc_need_webs rfl (hbx_by (by decide +kernel)) fun A outer L c0 hr => (sb_cons (ss_asg (se_call (nam_glob (by rfl) T.d_need_web.mg (by decide)) (by rfl) (by rfl) (sa_cons (se_var (i := 0) (by rfl) (by decide) (by decide)) sa_nil (star_cons (by rfl))) sk_nil (T.d_need_web.oc (fz_need_web T) (hr.mono (by decide)) (kb_need_web_1_ T))) (sg_name (i := 2) (by rfl) (.inl (by rfl))) (by rfl) (by rfl) (by rfl)) (sb_cons (ss_ret (se_tup (sa_cons (se_var (i := 2) (by rfl) (by decide) (by decide)) (sa_cons (se_call (nam_glob (by rfl) T.d_need_goal.mg (by decide)) (by rfl) (by rfl) (sa_cons (se_var (i := 1) (by rfl) (by decide) (by decide)) sa_nil (star_cons (by rfl))) sk_nil (T.d_need_goal.oc (ff_need_goal T) (hr.mono (by decide)) (kb_need_goal_1_ T))) sa_nil (star_cons (by rfl))) (star_cons (by rfl))))) sb_nil))
def r_nexts_of : List D → Store → Res D := fun _ _ => .bad
theorem fz_nexts_of {G : Gl} (T : Txt G) : FnZ G 0 218 (fdK G.K 218) ["web", "goal", "led"] r_nexts_of := FnZ.bad
theorem kb_nexts_of_3_ {G : Gl} (T : Txt G) : KB (fdK G.K 218) ["web", "goal", "led"] 3 [] [0, 1, 2] := T.d_nexts_of.kb fun _ _ _ _ _ => ⟨rfl, fun us ws h1 h2 => match us, h1 with
  | [a0, a1, a2], _ => match ws, h2 with
    | [], _ => rfl⟩
theorem kb_kept_map_3_ {G : Gl} (T : Txt G) : KB (fdK G.K 201) ["web", "goal", "thing"] 3 [] [0, 1, 2] := T.d_kept_map.kb fun _ _ _ _ _ => ⟨rfl, fun us ws h1 h2 => match us, h1 with
  | [a0, a1, a2], _ => match ws, h2 with
    | [], _ => rfl⟩
theorem kb_need_webs_2_ {G : Gl} (T : Txt G) : KB (fdK G.K 225) ["web", "goal"] 2 [] [0, 1] := T.d_need_webs.kb fun _ _ _ _ _ => ⟨rfl, fun us ws h1 h2 => match us, h1 with
  | [a0, a1], _ => match ws, h2 with
    | [], _ => rfl⟩
theorem sc_next_maps : FnScope ["web", "goal", "led", "kept", "other", "own"] ["web", "goal", "led"] (defScope (top 29)) := ⟨rfl, rfl, rfl, by decide +kernel, rfl, by decide +kernel, by decide +kernel⟩
def v_next_maps : SV := (bCons (sAsg (eCall (lCons (eV 0) (lCons (eV 1) lNil)) lNil (bindR 2 0 [0, 1] r_need_webs)) (gTup 2 (gCons (gName 3) (gCons (gName 4) gNil)))) (bCons (sAsg (eCall (lCons (eV 3) (lCons (eV 4) (lCons (eV 2) lNil))) lNil (bindR 3 0 [0, 1, 2] r_kept_map)) (gName 5)) (bCons (sIf (ts (e2 rIs (eV 5) (eC .non))) (bCons (sRaise 160 [108, 101, 100] (eV 2)) bNil) bNil) (bCons (sRet (eLc (iVal (eCall (lCons (eV 3) (lCons (eV 4) (lCons (eV 5) lNil))) lNil (bindR 3 0 [0, 1, 2] r_nexts_of))) [none] (gName 0) tYes (eCall (lCons (eV 0) lNil) lNil (fun vs _ m => rLst vs m)) 80)) bNil))))
def r_next_maps : List D → Store → Res D := fnR [false, false, false, false, false, false] v_next_maps
theorem fz_next_maps {G : Gl} (T : Txt G) : FnZ G 10 230 (fdK G.K 230) ["web", "goal", "led"] r_next_maps :=
  T.d_next_maps.fn (k := 9) (bv := v_next_maps) (nb := [false, false, false, false, false, false]) T.ok sc_next_maps rfl (hbx_by (by decide +kernel)) fun A outer L c0 hr => (sb_cons (ss_asg (se_call (nam_glob (by rfl) T.d_need_webs.mg (by decide)) (by rfl) (by rfl) (sa_cons (se_var (i := 0) (by rfl) (by decide) (by decide)) (sa_cons (se_var (i := 1) (by rfl) (by decide) (by decide)) sa_nil (star_cons (by rfl))) (star_cons (by rfl))) sk_nil (T.d_need_webs.oc (fz_need_webs T) (hr.mono (by decide)) (kb_need_webs_2_ T))) (sg_tup (by rfl) (sgs_cons (sg_name (i := 3) (by rfl) (.inl (by rfl))) (sgs_cons (sg_name (i := 4) (by rfl) (.inl (by rfl))) sgs_nil (by rfl)) (by rfl)) (by rfl)) (by rfl) (by rfl) (by rfl)) (sb_cons (ss_asg (se_call (nam_glob (by rfl) T.d_kept_map.mg (by decide)) (by rfl) (by rfl) (sa_cons (se_var (i := 3) (by rfl) (by decide) (by decide)) (sa_cons (se_var (i := 4) (by rfl) (by decide) (by decide)) (sa_cons (se_var (i := 2) (by rfl) (by decide) (by decide)) sa_nil (star_cons (by rfl))) (star_cons (by rfl))) (star_cons (by rfl))) sk_nil (T.d_kept_map.oc (fz_kept_map T) (hr.mono (by decide)) (kb_kept_map_3_ T))) (sg_name (i := 5) (by rfl) (.inl (by rfl))) (by rfl) (by rfl) (by rfl)) (sb_cons (ss_if (st_cmp o_is (se_var (i := 5) (by rfl) (by decide) (by decide)) se_non (by rfl)) (sb_cons (ss_raise (fld := [108, 101, 100]) (by rfl) (hr.mono (by decide)) T.i_BadLed (nam_glob (by rfl) T.c_BadLed (by decide)) (se_var (i := 2) (by rfl) (by decide) (by decide)) (by rfl)) sb_nil) sb_nil) (sb_cons (ss_ret (se_lc 80 (by rfl) (si_val (by rfl) (se_call (nam_glob (by rfl) T.d_nexts_of.mg (by decide)) (by rfl) (by rfl) (sa_cons (se_var (i := 3) (by rfl) (by decide) (by decide)) (sa_cons (se_var (i := 4) (by rfl) (by decide) (by decide)) (sa_cons (se_var (i := 5) (by rfl) (by decide) (by decide)) sa_nil (star_cons (by rfl))) (star_cons (by rfl))) (star_cons (by rfl))) sk_nil (T.d_nexts_of.oc (fz_nexts_of T) (hr.mono (by decide)) (kb_nexts_of_3_ T)))) (blk_by (Nb := ["later"]) (by rfl)) (fun cl C => (sg_name (i := 0) (by rfl) (.inl (by rfl)))) (fun cl C => sts_nil) (fun cl C => (se_call (nam_blt (by rfl) T.b_list (by rfl) (by decide) (by decide)) (by rfl) (by rfl) (sa_cons (se_var (i := 0) (by rfl) (by decide) (by decide)) sa_nil (star_cons (by rfl))) sk_nil (OC.of o_lst (fun _ _ => kpr_ty)))) (fun _ => (by rfl)))) sb_nil))))
theorem kb_next_maps_3_ {G : Gl} (T : Txt G) : KB (fdK G.K 230) ["web", "goal", "led"] 3 [] [0, 1, 2] := T.d_next_maps.kb fun _ _ _ _ _ => ⟨rfl, fun us ws h1 h2 => match us, h1 with
  | [a0, a1, a2], _ => match ws, h2 with
    | [], _ => rfl⟩
theorem lsc_0 : LamScope ["web", "goal"] [] (lamK 0).scope := ⟨rfl, rfl, rfl, by decide +kernel, by decide +kernel, by decide +kernel, by decide +kernel, by decide +kernel⟩
def lr_0 : List Nat → List D → Store → Res D := lamR 0 (eCall (lCons (eV 0) (lCons (eV 1) (lCons (eC .non) lNil))) lNil (bindR 3 0 [0, 1, 2] r_next_maps))
theorem lz_0 {G : Gl} (T : Txt G) : LamZ1 G 11 0 lr_0 := lam_z (ps := []) (N := ["web", "goal"]) (k := 10) T.ok T.lam_0 lsc_0 (fun us cl pm ctv c h => match us, h with
  | [], _ => rfl) fun A outer L f cd cl c0 hr => (se_call (nam_glob (by rfl) T.d_next_maps.mg (by decide)) (by rfl) (by rfl) (sa_cons (se_var (i := 0) (by rfl) (by decide) (by decide)) (sa_cons (se_var (i := 1) (by rfl) (by decide) (by decide)) (sa_cons se_non sa_nil (star_cons (by rfl))) (star_cons (by rfl))) (star_cons (by rfl))) sk_nil (T.d_next_maps.oc (fz_next_maps T) (hr.mono (by decide)) (kb_next_maps_3_ T)))
theorem sc_need_ends : FnScope ["web", "goal", "one", "other", "kept", "there", "mine", "theirs"] ["web", "goal", "one", "other"] (defScope (top 31)) := ⟨rfl, rfl, rfl, by decide +kernel, rfl, by decide +kernel, by decide +kernel⟩
def v_need_ends : SV := (bCons (sAsg (eCall (lCons (eV 0) (lCons (eV 1) lNil)) lNil (bindR 2 0 [0, 1] r_need_webs)) (gTup 2 (gCons (gName 4) (gCons (gName 5) gNil)))) (bCons (sAsg (eCall (lCons (eV 4) (lCons (eV 5) (lCons (eV 2) lNil))) lNil (bindR 3 0 [0, 1, 2] r_kept_map)) (gName 6)) (bCons (sIf (ts (e2 rIs (eV 6) (eC .non))) (bCons (sRaise 103 [111, 110, 101] (eV 2)) bNil) bNil) (bCons (sAsg (eCall (lCons (eV 4) (lCons (eV 5) (lCons (eV 3) lNil))) lNil (bindR 3 0 [0, 1, 2] r_kept_map)) (gName 7)) (bCons (sIf (ts (e2 rIs (eV 7) (eC .non))) (bCons (sRaise 122 [111, 116, 104, 101, 114] (eV 3)) bNil) bNil) (bCons (sRet (eTup (lCons (eV 4) (lCons (eV 5) (lCons (eCall (lCons (eV 6) lNil) lNil (fun vs _ m => rTup vs m)) (lCons (eCall (lCons (eV 7) lNil) lNil (fun vs _ m => rTup vs m)) lNil)))))) bNil))))))
def r_need_ends : List D → Store → Res D := fnR [false, false, false, false, false, false, false, false] v_need_ends
theorem fz_need_ends {G : Gl} (T : Txt G) : FnZ G 10 244 (fdK G.K 244) ["web", "goal", "one", "other"] r_need_ends :=
  T.d_need_ends.fn (k := 9) (bv := v_need_ends) (nb := [false, false, false, false, false, false, false, false]) T.ok sc_need_ends rfl (hbx_by (by decide +kernel)) fun A outer L c0 hr => (sb_cons (ss_asg (se_call (nam_glob (by rfl) T.d_need_webs.mg (by decide)) (by rfl) (by rfl) (sa_cons (se_var (i := 0) (by rfl) (by decide) (by decide)) (sa_cons (se_var (i := 1) (by rfl) (by decide) (by decide)) sa_nil (star_cons (by rfl))) (star_cons (by rfl))) sk_nil (T.d_need_webs.oc (fz_need_webs T) (hr.mono (by decide)) (kb_need_webs_2_ T))) (sg_tup (by rfl) (sgs_cons (sg_name (i := 4) (by rfl) (.inl (by rfl))) (sgs_cons (sg_name (i := 5) (by rfl) (.inl (by rfl))) sgs_nil (by rfl)) (by rfl)) (by rfl)) (by rfl) (by rfl) (by rfl)) (sb_cons (ss_asg (se_call (nam_glob (by rfl) T.d_kept_map.mg (by decide)) (by rfl) (by rfl) (sa_cons (se_var (i := 4) (by rfl) (by decide) (by decide)) (sa_cons (se_var (i := 5) (by rfl) (by decide) (by decide)) (sa_cons (se_var (i := 2) (by rfl) (by decide) (by decide)) sa_nil (star_cons (by rfl))) (star_cons (by rfl))) (star_cons (by rfl))) sk_nil (T.d_kept_map.oc (fz_kept_map T) (hr.mono (by decide)) (kb_kept_map_3_ T))) (sg_name (i := 6) (by rfl) (.inl (by rfl))) (by rfl) (by rfl) (by rfl)) (sb_cons (ss_if (st_cmp o_is (se_var (i := 6) (by rfl) (by decide) (by decide)) se_non (by rfl)) (sb_cons (ss_raise (fld := [111, 110, 101]) (by rfl) (hr.mono (by decide)) T.i_BadOne (nam_glob (by rfl) T.c_BadOne (by decide)) (se_var (i := 2) (by rfl) (by decide) (by decide)) (by rfl)) sb_nil) sb_nil) (sb_cons (ss_asg (se_call (nam_glob (by rfl) T.d_kept_map.mg (by decide)) (by rfl) (by rfl) (sa_cons (se_var (i := 4) (by rfl) (by decide) (by decide)) (sa_cons (se_var (i := 5) (by rfl) (by decide) (by decide)) (sa_cons (se_var (i := 3) (by rfl) (by decide) (by decide)) sa_nil (star_cons (by rfl))) (star_cons (by rfl))) (star_cons (by rfl))) sk_nil (T.d_kept_map.oc (fz_kept_map T) (hr.mono (by decide)) (kb_kept_map_3_ T))) (sg_name (i := 7) (by rfl) (.inl (by rfl))) (by rfl) (by rfl) (by rfl)) (sb_cons (ss_if (st_cmp o_is (se_var (i := 7) (by rfl) (by decide) (by decide)) se_non (by rfl)) (sb_cons (ss_raise (fld := [111, 116, 104, 101, 114]) (by rfl) (hr.mono (by decide)) T.i_BadOther (nam_glob (by rfl) T.c_BadOther (by decide)) (se_var (i := 3) (by rfl) (by decide) (by decide)) (by rfl)) sb_nil) sb_nil) (sb_cons (ss_ret (se_tup (sa_cons (se_var (i := 4) (by rfl) (by decide) (by decide)) (sa_cons (se_var (i := 5) (by rfl) (by decide) (by decide)) (sa_cons (se_call (nam_blt (by rfl) T.b_tuple (by rfl) (by decide) (by decide)) (by rfl) (by rfl) (sa_cons (se_var (i := 6) (by rfl) (by decide) (by decide)) sa_nil (star_cons (by rfl))) sk_nil (OC.of o_tup (fun _ _ => kpr_ty))) (sa_cons (se_call (nam_blt (by rfl) T.b_tuple (by rfl) (by decide) (by decide)) (by rfl) (by rfl) (sa_cons (se_var (i := 7) (by rfl) (by decide) (by decide)) sa_nil (star_cons (by rfl))) sk_nil (OC.of o_tup (fun _ _ => kpr_ty))) sa_nil (star_cons (by rfl))) (star_cons (by rfl))) (star_cons (by rfl))) (star_cons (by rfl))))) sb_nil))))))
def r_reached : List D → Store → Res D := fun _ _ => .bad
theorem fz_reached {G : Gl} (T : Txt G) : FnZ G 0 237 (fdK G.K 237) ["web", "goal", "led"] r_reached := FnZ.bad
def r_way_to : List D → Store → Res D := fun _ _ => .bad
theorem fz_way_to {G : Gl} (T : Txt G) : FnZ G 0 251 (fdK G.K 251) ["web", "goal", "mine", "theirs"] r_way_to := FnZ.bad
theorem kb_reached_3_ {G : Gl} (T : Txt G) : KB (fdK G.K 237) ["web", "goal", "led"] 3 [] [0, 1, 2] := T.d_reached.kb fun _ _ _ _ _ => ⟨rfl, fun us ws h1 h2 => match us, h1 with
  | [a0, a1, a2], _ => match ws, h2 with
    | [], _ => rfl⟩
theorem kb_way_to_4_ {G : Gl} (T : Txt G) : KB (fdK G.K 251) ["web", "goal", "mine", "theirs"] 4 [] [0, 1, 2, 3] := T.d_way_to.kb fun _ _ _ _ _ => ⟨rfl, fun us ws h1 h2 => match us, h1 with
  | [a0, a1, a2, a3], _ => match ws, h2 with
    | [], _ => rfl⟩
theorem kb_need_ends_4_ {G : Gl} (T : Txt G) : KB (fdK G.K 244) ["web", "goal", "one", "other"] 4 [] [0, 1, 2, 3] := T.d_need_ends.kb fun _ _ _ _ _ => ⟨rfl, fun us ws h1 h2 => match us, h1 with
  | [a0, a1, a2, a3], _ => match ws, h2 with
    | [], _ => rfl⟩
theorem sc_steps_or_lot : FnScope ["web", "goal", "one", "other", "kept", "there", "mine", "theirs", "way"] ["web", "goal", "one", "other"] (defScope (top 33)) := ⟨rfl, rfl, rfl, by decide +kernel, rfl, by decide +kernel, by decide +kernel⟩
def v_steps_or_lot : SV := (bCons (sAsg (eCall (lCons (eV 0) (lCons (eV 1) (lCons (eV 2) (lCons (eV 3) lNil)))) lNil (bindR 4 0 [0, 1, 2, 3] r_need_ends)) (gTup 4 (gCons (gName 4) (gCons (gName 5) (gCons (gName 6) (gCons (gName 7) gNil)))))) (bCons (sAsg (eCall (lCons (eV 4) (lCons (eV 5) (lCons (eV 6) (lCons (eV 7) lNil)))) lNil (bindR 4 0 [0, 1, 2, 3] r_way_to)) (gName 8)) (bCons (sIf (ts (e2 rIs (eV 8) (eC .non))) (bCons (sRet (eTup (lCons (eC (.str [108, 111, 116])) (lCons (eLc (iVal (eCall (lCons (eCall (lCons (eV 4) (lCons (eV 5) (lCons (eV 6) lNil))) lNil (bindR 3 0 [0, 1, 2] r_reached)) lNil) lNil (fun vs _ m => rSrt2 vs m))) [none] (gName 0) tYes (eCall (lCons (eV 0) lNil) lNil (fun vs _ m => rLst vs m)) 80) lNil)))) bNil) bNil) (bCons (sRet (eTup (lCons (eC (.str [115, 116, 101, 112, 115])) (lCons (eLc (iVal (eV 8)) [none] (gName 0) tYes (eCall (lCons (eV 0) lNil) lNil (fun vs _ m => rLst vs m)) 80) lNil)))) bNil))))
def r_steps_or_lot : List D → Store → Res D := fnR [false, false, false, false, false, false, false, false, false] v_steps_or_lot
theorem fz_steps_or_lot {G : Gl} (T : Txt G) : FnZ G 11 256 (fdK G.K 256) ["web", "goal", "one", "other"] r_steps_or_lot :=
  T.d_steps_or_lot.fn (k := 10) (bv := v_steps_or_lot) (nb := [false, false, false, false, false, false, false, false, false]) T.ok sc_steps_or_lot rfl (hbx_by (by decide +kernel)) fun A outer L c0 hr => (sb_cons (ss_asg (se_call (nam_glob (by rfl) T.d_need_ends.mg (by decide)) (by rfl) (by rfl) (sa_cons (se_var (i := 0) (by rfl) (by decide) (by decide)) (sa_cons (se_var (i := 1) (by rfl) (by decide) (by decide)) (sa_cons (se_var (i := 2) (by rfl) (by decide) (by decide)) (sa_cons (se_var (i := 3) (by rfl) (by decide) (by decide)) sa_nil (star_cons (by rfl))) (star_cons (by rfl))) (star_cons (by rfl))) (star_cons (by rfl))) sk_nil (T.d_need_ends.oc (fz_need_ends T) (hr.mono (by decide)) (kb_need_ends_4_ T))) (sg_tup (by rfl) (sgs_cons (sg_name (i := 4) (by rfl) (.inl (by rfl))) (sgs_cons (sg_name (i := 5) (by rfl) (.inl (by rfl))) (sgs_cons (sg_name (i := 6) (by rfl) (.inl (by rfl))) (sgs_cons (sg_name (i := 7) (by rfl) (.inl (by rfl))) sgs_nil (by rfl)) (by rfl)) (by rfl)) (by rfl)) (by rfl)) (by rfl) (by rfl) (by rfl)) (sb_cons (ss_asg (se_call (nam_glob (by rfl) T.d_way_to.mg (by decide)) (by rfl) (by rfl) (sa_cons (se_var (i := 4) (by rfl) (by decide) (by decide)) (sa_cons (se_var (i := 5) (by rfl) (by decide) (by decide)) (sa_cons (se_var (i := 6) (by rfl) (by decide) (by decide)) (sa_cons (se_var (i := 7) (by rfl) (by decide) (by decide)) sa_nil (star_cons (by rfl))) (star_cons (by rfl))) (star_cons (by rfl))) (star_cons (by rfl))) sk_nil (T.d_way_to.oc (fz_way_to T) (hr.mono (by decide)) (kb_way_to_4_ T))) (sg_name (i := 8) (by rfl) (.inl (by rfl))) (by rfl) (by rfl) (by rfl)) (sb_cons (ss_if (st_cmp o_is (se_var (i := 8) (by rfl) (by decide) (by decide)) se_non (by rfl)) (sb_cons (ss_ret (se_tup (sa_cons (se_strn (n := [108, 111, 116]) (by decide)) (sa_cons (se_lc 80 (by rfl) (si_val (by rfl) (se_call (nam_blt (by rfl) T.b_sorted (by rfl) (by decide) (by decide)) (by rfl) (by rfl) (sa_cons (se_call (nam_glob (by rfl) T.d_reached.mg (by decide)) (by rfl) (by rfl) (sa_cons (se_var (i := 4) (by rfl) (by decide) (by decide)) (sa_cons (se_var (i := 5) (by rfl) (by decide) (by decide)) (sa_cons (se_var (i := 6) (by rfl) (by decide) (by decide)) sa_nil (star_cons (by rfl))) (star_cons (by rfl))) (star_cons (by rfl))) sk_nil (T.d_reached.oc (fz_reached T) (hr.mono (by decide)) (kb_reached_3_ T))) sa_nil (star_cons (by rfl))) sk_nil (OC.of (o_srt2 (by rfl)) (fun _ _ => kpr_blt)))) (blk_by (Nb := ["led"]) (by rfl)) (fun cl C => (sg_name (i := 0) (by rfl) (.inl (by rfl)))) (fun cl C => sts_nil) (fun cl C => (se_call (nam_blt (by rfl) T.b_list (by rfl) (by decide) (by decide)) (by rfl) (by rfl) (sa_cons (se_var (i := 0) (by rfl) (by decide) (by decide)) sa_nil (star_cons (by rfl))) sk_nil (OC.of o_lst (fun _ _ => kpr_ty)))) (fun _ => (by rfl))) sa_nil (star_cons (by rfl))) (star_cons (by rfl))))) sb_nil) sb_nil) (sb_cons (ss_ret (se_tup (sa_cons (se_strn (n := [115, 116, 101, 112, 115]) (by decide)) (sa_cons (se_lc 80 (by rfl) (si_val (by rfl) (se_var (i := 8) (by rfl) (by decide) (by decide))) (blk_by (Nb := ["led"]) (by rfl)) (fun cl C => (sg_name (i := 0) (by rfl) (.inl (by rfl)))) (fun cl C => sts_nil) (fun cl C => (se_call (nam_blt (by rfl) T.b_list (by rfl) (by decide) (by decide)) (by rfl) (by rfl) (sa_cons (se_var (i := 0) (by rfl) (by decide) (by decide)) sa_nil (star_cons (by rfl))) sk_nil (OC.of o_lst (fun _ _ => kpr_ty)))) (fun _ => (by rfl))) sa_nil (star_cons (by rfl))) (star_cons (by rfl))))) sb_nil))))
theorem kb_steps_or_lot_0_other_one_goal_web {G : Gl} (T : Txt G) : KB (fdK G.K 256) ["web", "goal", "one", "other"] 0 ["other", "one", "goal", "web"] [3, 2, 1, 0] := T.d_steps_or_lot.kb fun _ _ _ _ _ => ⟨rfl, fun us ws h1 h2 => match us, h1 with
  | [], _ => match ws, h2 with
    | [b0, b1, b2, b3], _ => rfl⟩
theorem lsc_1 : LamScope ["web", "goal"] [] (lamK 1).scope := ⟨rfl, rfl, rfl, by decide +kernel, by decide +kernel, by decide +kernel, by decide +kernel, by decide +kernel⟩
def lr_1 : List Nat → List D → Store → Res D := lamR 0 (eCall lNil (lCons (eC .non) (lCons (eC .non) (lCons (eV 1) (lCons (eV 0) lNil)))) (bindR 0 4 [3, 2, 1, 0] r_steps_or_lot))
theorem lz_1 {G : Gl} (T : Txt G) : LamZ1 G 12 1 lr_1 := lam_z (ps := []) (N := ["web", "goal"]) (k := 11) T.ok T.lam_1 lsc_1 (fun us cl pm ctv c h => match us, h with
  | [], _ => rfl) fun A outer L f cd cl c0 hr => (se_call0 (nam_glob (by rfl) T.d_steps_or_lot.mg (by decide)) (by rfl) (sk_cons se_non (sk_cons se_non (sk_cons (se_var (i := 1) (by rfl) (by decide) (by decide)) (sk_cons (se_var (i := 0) (by rfl) (by decide) (by decide)) sk_nil)))) (T.d_steps_or_lot.oc (fz_steps_or_lot T) (hr.mono (by decide)) (kb_steps_or_lot_0_other_one_goal_web T)))
theorem sc_are_steps : FnScope ["web", "goal", "one", "other", "thing", "kept", "there", "mine", "theirs", "way", "maps"] ["web", "goal", "one", "other", "thing"] (defScope (top 34)) := ⟨rfl, rfl, rfl, by decide +kernel, rfl, by decide +kernel, by decide +kernel⟩
def v_are_steps : SV := (bCons (sAsg (eCall (lCons (eV 0) (lCons (eV 1) (lCons (eV 2) (lCons (eV 3) lNil)))) lNil (bindR 4 0 [0, 1, 2, 3] r_need_ends)) (gTup 4 (gCons (gName 5) (gCons (gName 6) (gCons (gName 7) (gCons (gName 8) gNil)))))) (bCons (sIf (tOr (tNot (ts (eCall (lCons (eV 4) lNil) lNil (bindR 1 0 [0] r_is_list)))) (tNot (ts (eV 4)))) (bCons (sRet (eC (.bl false))) bNil) bNil) (bCons (sAsg (eLc (iVal (eV 4)) [none, (some 5), (some 6)] (gName 0) tYes (eCall (lCons (eV 1) (lCons (eV 2) (lCons (eV 0) lNil))) lNil (bindR 3 0 [0, 1, 2] r_kept_map)) 80) (gName 9)) (bCons (sIf (ts (e2 rIn (eC .non) (eV 9))) (bCons (sRet (eC (.bl false))) bNil) bNil) (bCons (sAsg (eLc (iVal (eV 9)) [none] (gName 0) tYes (eCall (lCons (eV 0) lNil) lNil (fun vs _ m => rTup vs m)) 80) (gName 10)) (bCons (sIf (tOr (ts (e2 rNe (e2 rIx (eV 10) (eC (.int 0))) (eV 7))) (ts (e2 rNe (e2 rIx (eV 10) (eNeg (eC (.int 1)))) (eV 8)))) (bCons (sRet (eC (.bl false))) bNil) bNil) (bCons (sRet (eCall (lCons (eLc (iCall (lCons (eV 10) (lCons (eSl (eV 10) (oSome (eC (.int 1))) oNone) lNil)) rZip) [none, none, (some 5), (some 6)] (gTup 2 (gCons (gName 0) (gCons (gName 1) gNil))) tYes (e2 rIn (eV 1) (eCall (lCons (eV 2) (lCons (eV 3) (lCons (eV 0) lNil))) lNil (bindR 3 0 [0, 1, 2] r_nexts_of))) 80) lNil) lNil (fun vs _ m => rAll vs m))) bNil)))))))
def r_are_steps : List D → Store → Res D := fnR [false, false, false, false, false, false, false, false, false, false, false] v_are_steps
theorem fz_are_steps {G : Gl} (T : Txt G) : FnZ G 11 261 (fdK G.K 261) ["web", "goal", "one", "other", "thing"] r_are_steps :=
  T.d_are_steps.fn (k := 10) (bv := v_are_steps) (nb := [false, false, false, false, false, false, false, false, false, false, false]) T.ok sc_are_steps rfl (hbx_by (by decide +kernel)) fun A outer L c0 hr => (sb_cons (ss_asg (se_call (nam_glob (by rfl) T.d_need_ends.mg (by decide)) (by rfl) (by rfl) (sa_cons (se_var (i := 0) (by rfl) (by decide) (by decide)) (sa_cons (se_var (i := 1) (by rfl) (by decide) (by decide)) (sa_cons (se_var (i := 2) (by rfl) (by decide) (by decide)) (sa_cons (se_var (i := 3) (by rfl) (by decide) (by decide)) sa_nil (star_cons (by rfl))) (star_cons (by rfl))) (star_cons (by rfl))) (star_cons (by rfl))) sk_nil (T.d_need_ends.oc (fz_need_ends T) (hr.mono (by decide)) (kb_need_ends_4_ T))) (sg_tup (by rfl) (sgs_cons (sg_name (i := 5) (by rfl) (.inr ⟨(by rfl), (by rfl)⟩)) (sgs_cons (sg_name (i := 6) (by rfl) (.inr ⟨(by rfl), (by rfl)⟩)) (sgs_cons (sg_name (i := 7) (by rfl) (.inl (by rfl))) (sgs_cons (sg_name (i := 8) (by rfl) (.inl (by rfl))) sgs_nil (by rfl)) (by rfl)) (by rfl)) (by rfl)) (by rfl)) (by rfl) (by rfl) (by rfl)) (sb_cons (ss_if ((st_or (st_not (st_plain (se_call (nam_glob (by rfl) T.d_is_list.mg (by decide)) (by rfl) (by rfl) (sa_cons (se_var (i := 4) (by rfl) (by decide) (by decide)) sa_nil (star_cons (by rfl))) sk_nil (T.d_is_list.oc (fz_is_list T) (hr.mono (by decide)) (kb_is_list_1_ T))) (fun _ => (by rfl)))).st (st_or1 (st_not (st_plain (se_var (i := 4) (by rfl) (by decide) (by decide)) (fun _ => (by rfl)))).st))).st (sb_cons (ss_ret se_bl) sb_nil) sb_nil) (sb_cons (ss_setLc (i := 9) 80 (by rfl) (by rfl) (by rfl) (by rfl) (si_val (by rfl) (se_var (i := 4) (by rfl) (by decide) (by decide))) (blk_by (Nb := ["led", "kept", "there"]) (by rfl)) (fun cl C => (sg_name (i := 0) (by rfl) (.inl (by rfl)))) (fun cl C => sts_nil) (fun cl C => (se_call (nam_glob (by rfl) T.d_kept_map.mg (by decide)) (by rfl) (by rfl) (sa_cons (se_var (i := 1) (by rfl) (by decide) (by decide)) (sa_cons (se_var (i := 2) (by rfl) (by decide) (by decide)) (sa_cons (se_var (i := 0) (by rfl) (by decide) (by decide)) sa_nil (star_cons (by rfl))) (star_cons (by rfl))) (star_cons (by rfl))) sk_nil (T.d_kept_map.oc (fz_kept_map T) (hr.mono (by decide)) (kb_kept_map_3_ T)))) (fun _ => (by rfl))) (sb_cons (ss_if (st_cmp o_in se_non (se_var (i := 9) (by rfl) (by decide) (by decide)) (by rfl)) (sb_cons (ss_ret se_bl) sb_nil) sb_nil) (sb_cons (ss_setLc (i := 10) 80 (by rfl) (by rfl) (by rfl) (by rfl) (si_val (by rfl) (se_var (i := 9) (by rfl) (by decide) (by decide))) (blk_by (Nb := ["led"]) (by rfl)) (fun cl C => (sg_name (i := 0) (by rfl) (.inl (by rfl)))) (fun cl C => sts_nil) (fun cl C => (se_call (nam_blt (by rfl) T.b_tuple (by rfl) (by decide) (by decide)) (by rfl) (by rfl) (sa_cons (se_var (i := 0) (by rfl) (by decide) (by decide)) sa_nil (star_cons (by rfl))) sk_nil (OC.of o_tup (fun _ _ => kpr_ty)))) (fun _ => (by rfl))) (sb_cons (ss_if ((st_or (st_cmp o_ne (se_ix (se_var (i := 10) (by rfl) (by decide) (by decide)) se_int (fun _ _ => (by rfl))) (se_var (i := 7) (by rfl) (by decide) (by decide)) (by rfl)) (st_or1 (st_cmp o_ne (se_ix (se_var (i := 10) (by rfl) (by decide) (by decide)) (se_neg se_int) (fun _ _ => (by rfl))) (se_var (i := 8) (by rfl) (by decide) (by decide)) (by rfl))))).st (sb_cons (ss_ret se_bl) sb_nil) sb_nil) (sb_cons (ss_ret (se_call (nam_blt (by rfl) T.b_all (by rfl) (by decide) (by decide)) (by rfl) (by rfl) (sa_cons (se_lc 80 (by rfl) (si_call (nam_blt (by rfl) T.b_zip (by rfl) (by decide) (by decide)) (by rfl) (sa_cons (se_var (i := 10) (by rfl) (by decide) (by decide)) (sa_cons (se_sl (se_var (i := 10) (by rfl) (by decide) (by decide)) (sp_some se_int) sp_none) sa_nil (star_cons (by rfl))) (star_cons (by rfl))) it_zip) (blk_by (Nb := ["here", "later", "kept", "there"]) (by rfl)) (fun cl C => (sg_tup (by rfl) (sgs_cons (sg_name (i := 0) (by rfl) (.inl (by rfl))) (sgs_cons (sg_name (i := 1) (by rfl) (.inl (by rfl))) sgs_nil (by rfl)) (by rfl)) (by rfl))) (fun cl C => sts_nil) (fun cl C => (se_cmp o_in (se_var (i := 1) (by rfl) (by decide) (by decide)) (se_call (nam_glob (by rfl) T.d_nexts_of.mg (by decide)) (by rfl) (by rfl) (sa_cons (se_var (i := 2) (by rfl) (by decide) (by decide)) (sa_cons (se_var (i := 3) (by rfl) (by decide) (by decide)) (sa_cons (se_var (i := 0) (by rfl) (by decide) (by decide)) sa_nil (star_cons (by rfl))) (star_cons (by rfl))) (star_cons (by rfl))) sk_nil (T.d_nexts_of.oc (fz_nexts_of T) (hr.mono (by decide)) (kb_nexts_of_3_ T))) (by rfl))) (fun _ => (by rfl))) sa_nil (star_cons (by rfl))) sk_nil (OC.of (o_all (by rfl)) (fun _ _ => kpr_blt)))) sb_nil)))))))
theorem kb_are_steps_5_ {G : Gl} (T : Txt G) : KB (fdK G.K 261) ["web", "goal", "one", "other", "thing"] 5 [] [0, 1, 2, 3, 4] := T.d_are_steps.kb fun _ _ _ _ _ => ⟨rfl, fun us ws h1 h2 => match us, h1 with
  | [a0, a1, a2, a3, a4], _ => match ws, h2 with
    | [], _ => rfl⟩
theorem lsc_2 : LamScope ["web", "goal"] [] (lamK 2).scope := ⟨rfl, rfl, rfl, by decide +kernel, by decide +kernel, by decide +kernel, by decide +kernel, by decide +kernel⟩
def lr_2 : List Nat → List D → Store → Res D := lamR 0 (eCall (lCons (eV 0) (lCons (eV 1) (lCons (eC .non) (lCons (eC .non) (lCons (eC .non) lNil))))) lNil (bindR 5 0 [0, 1, 2, 3, 4] r_are_steps))
theorem lz_2 {G : Gl} (T : Txt G) : LamZ1 G 12 2 lr_2 := lam_z (ps := []) (N := ["web", "goal"]) (k := 11) T.ok T.lam_2 lsc_2 (fun us cl pm ctv c h => match us, h with
  | [], _ => rfl) fun A outer L f cd cl c0 hr => (se_call (nam_glob (by rfl) T.d_are_steps.mg (by decide)) (by rfl) (by rfl) (sa_cons (se_var (i := 0) (by rfl) (by decide) (by decide)) (sa_cons (se_var (i := 1) (by rfl) (by decide) (by decide)) (sa_cons se_non (sa_cons se_non (sa_cons se_non sa_nil (star_cons (by rfl))) (star_cons (by rfl))) (star_cons (by rfl))) (star_cons (by rfl))) (star_cons (by rfl))) sk_nil (T.d_are_steps.oc (fz_are_steps T) (hr.mono (by decide)) (kb_are_steps_5_ T)))
theorem sc_steps_far : FnScope ["web", "goal", "one", "other", "kept", "there", "mine", "theirs", "way"] ["web", "goal", "one", "other"] (defScope (top 35)) := ⟨rfl, rfl, rfl, by decide +kernel, rfl, by decide +kernel, by decide +kernel⟩
def v_steps_far : SV := (bCons (sAsg (eCall (lCons (eV 0) (lCons (eV 1) (lCons (eV 2) (lCons (eV 3) lNil)))) lNil (bindR 4 0 [0, 1, 2, 3] r_need_ends)) (gTup 4 (gCons (gName 4) (gCons (gName 5) (gCons (gName 6) (gCons (gName 7) gNil)))))) (bCons (sAsg (eCall (lCons (eV 4) (lCons (eV 5) (lCons (eV 6) (lCons (eV 7) lNil)))) lNil (bindR 4 0 [0, 1, 2, 3] r_way_to)) (gName 8)) (bCons (sRet (eIf (ts (e2 rIs (eV 8) (eC .non))) (eC .non) (e2 rSub (eCall (lCons (eV 8) lNil) lNil (fun vs _ m => rLen vs m)) (eC (.int 1))))) bNil)))
def r_steps_far : List D → Store → Res D := fnR [false, false, false, false, false, false, false, false, false] v_steps_far
theorem fz_steps_far {G : Gl} (T : Txt G) : FnZ G 11 268 (fdK G.K 268) ["web", "goal", "one", "other"] r_steps_far :=
  T.d_steps_far.fn (k := 10) (bv := v_steps_far) (nb := [false, false, false, false, false, false, false, false, false]) T.ok sc_steps_far rfl (hbx_by (by decide +kernel)) fun A outer L c0 hr => (sb_cons (ss_asg (se_call (nam_glob (by rfl) T.d_need_ends.mg (by decide)) (by rfl) (by rfl) (sa_cons (se_var (i := 0) (by rfl) (by decide) (by decide)) (sa_cons (se_var (i := 1) (by rfl) (by decide) (by decide)) (sa_cons (se_var (i := 2) (by rfl) (by decide) (by decide)) (sa_cons (se_var (i := 3) (by rfl) (by decide) (by decide)) sa_nil (star_cons (by rfl))) (star_cons (by rfl))) (star_cons (by rfl))) (star_cons (by rfl))) sk_nil (T.d_need_ends.oc (fz_need_ends T) (hr.mono (by decide)) (kb_need_ends_4_ T))) (sg_tup (by rfl) (sgs_cons (sg_name (i := 4) (by rfl) (.inl (by rfl))) (sgs_cons (sg_name (i := 5) (by rfl) (.inl (by rfl))) (sgs_cons (sg_name (i := 6) (by rfl) (.inl (by rfl))) (sgs_cons (sg_name (i := 7) (by rfl) (.inl (by rfl))) sgs_nil (by rfl)) (by rfl)) (by rfl)) (by rfl)) (by rfl)) (by rfl) (by rfl) (by rfl)) (sb_cons (ss_asg (se_call (nam_glob (by rfl) T.d_way_to.mg (by decide)) (by rfl) (by rfl) (sa_cons (se_var (i := 4) (by rfl) (by decide) (by decide)) (sa_cons (se_var (i := 5) (by rfl) (by decide) (by decide)) (sa_cons (se_var (i := 6) (by rfl) (by decide) (by decide)) (sa_cons (se_var (i := 7) (by rfl) (by decide) (by decide)) sa_nil (star_cons (by rfl))) (star_cons (by rfl))) (star_cons (by rfl))) (star_cons (by rfl))) sk_nil (T.d_way_to.oc (fz_way_to T) (hr.mono (by decide)) (kb_way_to_4_ T))) (sg_name (i := 8) (by rfl) (.inl (by rfl))) (by rfl) (by rfl) (by rfl)) (sb_cons (ss_ret (se_if (st_cmp o_is (se_var (i := 8) (by rfl) (by decide) (by decide)) se_non (by rfl)) se_non (se_bin o_sub (se_call (nam_blt (by rfl) T.b_len (by rfl) (by decide) (by decide)) (by rfl) (by rfl) (sa_cons (se_var (i := 8) (by rfl) (by decide) (by decide)) sa_nil (star_cons (by rfl))) sk_nil (OC.of o_len (fun _ _ => kpr_blt))) se_int))) sb_nil)))
theorem kb_steps_far_0_other_one_goal_web {G : Gl} (T : Txt G) : KB (fdK G.K 268) ["web", "goal", "one", "other"] 0 ["other", "one", "goal", "web"] [3, 2, 1, 0] := T.d_steps_far.kb fun _ _ _ _ _ => ⟨rfl, fun us ws h1 h2 => match us, h1 with
  | [], _ => match ws, h2 with
    | [b0, b1, b2, b3], _ => rfl⟩
theorem lsc_3 : LamScope ["web", "goal"] [] (lamK 3).scope := ⟨rfl, rfl, rfl, by decide +kernel, by decide +kernel, by decide +kernel, by decide +kernel, by decide +kernel⟩
def lr_3 : List Nat → List D → Store → Res D := lamR 0 (eCall lNil (lCons (eC .non) (lCons (eC .non) (lCons (eV 1) (lCons (eV 0) lNil)))) (bindR 0 4 [3, 2, 1, 0] r_steps_far))
theorem lz_3 {G : Gl} (T : Txt G) : LamZ1 G 12 3 lr_3 := lam_z (ps := []) (N := ["web", "goal"]) (k := 11) T.ok T.lam_3 lsc_3 (fun us cl pm ctv c h => match us, h with
  | [], _ => rfl) fun A outer L f cd cl c0 hr => (se_call0 (nam_glob (by rfl) T.d_steps_far.mg (by decide)) (by rfl) (sk_cons se_non (sk_cons se_non (sk_cons (se_var (i := 1) (by rfl) (by decide) (by decide)) (sk_cons (se_var (i := 0) (by rfl) (by decide) (by decide)) sk_nil)))) (T.d_steps_far.oc (fz_steps_far T) (hr.mono (by decide)) (kb_steps_far_0_other_one_goal_web T)))
def r_maps_by : List D → Store → Res D := fun _ _ => .bad
theorem fz_maps_by {G : Gl} (T : Txt G) : FnZ G 0 213 (fdK G.K 213) ["web", "goal", "most"] r_maps_by := FnZ.bad
theorem kb_maps_by_3_ {G : Gl} (T : Txt G) : KB (fdK G.K 213) ["web", "goal", "most"] 3 [] [0, 1, 2] := T.d_maps_by.kb fun _ _ _ _ _ => ⟨rfl, fun us ws h1 h2 => match us, h1 with
  | [a0, a1, a2], _ => match ws, h2 with
    | [], _ => rfl⟩
theorem sc_map_classes : FnScope ["web", "goal", "kept", "there", "known", "found", "led", "lot"] ["web", "goal"] (defScope (top 36)) := ⟨rfl, rfl, rfl, by decide +kernel, rfl, by decide +kernel, by decide +kernel⟩
def v_map_classes : SV := (bCons (sAsg (eCall (lCons (eV 0) (lCons (eV 1) lNil)) lNil (bindR 2 0 [0, 1] r_need_webs)) (gTup 2 (gCons (gName 2) (gCons (gName 3) gNil)))) (bCons (sPar [4, 5] (lCons eDct0 (lCons (eLst lNil) lNil))) (bCons (sFor (iVal (eCall (lCons (eV 2) (lCons (eV 3) (lCons (eC .non) lNil))) lNil (bindR 3 0 [0, 1, 2] r_maps_by))) (gName 6) (bCons (sIf (ts (e2 rNi (eCall (lCons (eV 6) lNil) lNil (fun vs _ m => rTup vs m)) (eV 4))) (bCons (sAsg (eCall (lCons (eV 2) (lCons (eV 3) (lCons (eV 6) lNil))) lNil (bindR 3 0 [0, 1, 2] r_reached)) (gName 7)) (bCons (sDrop eBad) (bCons (sDrop (eMeth "list" (eV 5) (lCons (eLc (iVal (eCall (lCons (eV 7) lNil) lNil (fun vs _ m => rSrt2 vs m))) [none] (gName 0) tYes (eCall (lCons (eV 0) lNil) lNil (fun vs _ m => rLst vs m)) 80) lNil) rAppend)) bNil))) bNil) bNil) 80) (bCons (sRet (eCall (lCons (eV 5) lNil) lNil (fun vs _ m => rSrt2 vs m))) bNil))))
def r_map_classes : List D → Store → Res D := fnR [false, false, false, false, false, false, false, false] v_map_classes
theorem fz_map_classes {G : Gl} (T : Txt G) : FnZ G 10 273 (fdK G.K 273) ["web", "goal"] r_map_classes :=
  T.d_map_classes.fn (k := 9) (bv := v_map_classes) (nb := [false, false, false, false, false, false, false, false]) T.ok sc_map_classes rfl (hbx_by (by decide +kernel)) fun A outer L c0 hr => (sb_cons (ss_asg (se_call (nam_glob (by rfl) T.d_need_webs.mg (by decide)) (by rfl) (by rfl) (sa_cons (se_var (i := 0) (by rfl) (by decide) (by decide)) (sa_cons (se_var (i := 1) (by rfl) (by decide) (by decide)) sa_nil (star_cons (by rfl))) (star_cons (by rfl))) sk_nil (T.d_need_webs.oc (fz_need_webs T) (hr.mono (by decide)) (kb_need_webs_2_ T))) (sg_tup (by rfl) (sgs_cons (sg_name (i := 2) (by rfl) (.inl (by rfl))) (sgs_cons (sg_name (i := 3) (by rfl) (.inl (by rfl))) sgs_nil (by rfl)) (by rfl)) (by rfl)) (by rfl) (by rfl) (by rfl)) (sb_cons (ss_par (xs := ["known", "found"]) (by rfl) (.cons (by rfl) (.inl (by rfl)) (.cons (by rfl) (.inl (by rfl)) .nil)) (sa_cons se_dct0 (sa_cons (se_lst sa_nil) sa_nil (star_cons (by rfl))) (star_cons (by rfl))) (by decide) (by rfl) (by rfl)) (sb_cons (ss_for 80 top_cx (by rfl) (si_val (by rfl) (se_call (nam_glob (by rfl) T.d_maps_by.mg (by decide)) (by rfl) (by rfl) (sa_cons (se_var (i := 2) (by rfl) (by decide) (by decide)) (sa_cons (se_var (i := 3) (by rfl) (by decide) (by decide)) (sa_cons se_non sa_nil (star_cons (by rfl))) (star_cons (by rfl))) (star_cons (by rfl))) sk_nil (T.d_maps_by.oc (fz_maps_by T) (hr.mono (by decide)) (kb_maps_by_3_ T)))) (sg_name (i := 6) (by rfl) (.inl (by rfl))) (sb_cons (ss_if (st_cmp o_ni (se_call (nam_blt (by rfl) T.b_tuple (by rfl) (by decide) (by decide)) (by rfl) (by rfl) (sa_cons (se_var (i := 6) (by rfl) (by decide) (by decide)) sa_nil (star_cons (by rfl))) sk_nil (OC.of o_tup (fun _ _ => kpr_ty))) (se_var (i := 4) (by rfl) (by decide) (by decide)) (by rfl)) (sb_cons (ss_asg (se_call (nam_glob (by rfl) T.d_reached.mg (by decide)) (by rfl) (by rfl) (sa_cons (se_var (i := 2) (by rfl) (by decide) (by decide)) (sa_cons (se_var (i := 3) (by rfl) (by decide) (by decide)) (sa_cons (se_var (i := 6) (by rfl) (by decide) (by decide)) sa_nil (star_cons (by rfl))) (star_cons (by rfl))) (star_cons (by rfl))) sk_nil (T.d_reached.oc (fz_reached T) (hr.mono (by decide)) (kb_reached_3_ T))) (sg_name (i := 7) (by rfl) (.inl (by rfl))) (by rfl) (by rfl) (by rfl)) (sb_cons (ss_expr se_bad (by rfl)) (sb_cons (ss_expr (se_meth F.plainAttrs_list F.slot_list_append F.type_list_append (by decide) (se_var (i := 5) (by rfl) (by decide) (by decide)) (by rfl) (sa_cons (se_lc 80 (by rfl) (si_val (by rfl) (se_call (nam_blt (by rfl) T.b_sorted (by rfl) (by decide) (by decide)) (by rfl) (by rfl) (sa_cons (se_var (i := 7) (by rfl) (by decide) (by decide)) sa_nil (star_cons (by rfl))) sk_nil (OC.of (o_srt2 (by rfl)) (fun _ _ => kpr_blt)))) (blk_by (Nb := ["one"]) (by rfl)) (fun cl C => (sg_name (i := 0) (by rfl) (.inl (by rfl)))) (fun cl C => sts_nil) (fun cl C => (se_call (nam_blt (by rfl) T.b_list (by rfl) (by decide) (by decide)) (by rfl) (by rfl) (sa_cons (se_var (i := 0) (by rfl) (by decide) (by decide)) sa_nil (star_cons (by rfl))) sk_nil (OC.of o_lst (fun _ _ => kpr_ty)))) (fun _ => (by rfl))) sa_nil (star_cons (by rfl))) m_append (by rfl) (by rfl) (by rfl)) (by rfl)) sb_nil))) sb_nil) sb_nil) (fun _ => (by rfl))) (sb_cons (ss_ret (se_call (nam_blt (by rfl) T.b_sorted (by rfl) (by decide) (by decide)) (by rfl) (by rfl) (sa_cons (se_var (i := 5) (by rfl) (by decide) (by decide)) sa_nil (star_cons (by rfl))) sk_nil (OC.of (o_srt2 (by rfl)) (fun _ _ => kpr_blt)))) sb_nil))))
theorem kb_map_classes_2_ {G : Gl} (T : Txt G) : KB (fdK G.K 273) ["web", "goal"] 2 [] [0, 1] := T.d_map_classes.kb fun _ _ _ _ _ => ⟨rfl, fun us ws h1 h2 => match us, h1 with
  | [a0, a1], _ => match ws, h2 with
    | [], _ => rfl⟩
theorem lsc_4 : LamScope ["web", "goal"] [] (lamK 4).scope := ⟨rfl, rfl, rfl, by decide +kernel, by decide +kernel, by decide +kernel, by decide +kernel, by decide +kernel⟩
def lr_4 : List Nat → List D → Store → Res D := lamR 0 (eCall (lCons (eV 0) (lCons (eV 1) lNil)) lNil (bindR 2 0 [0, 1] r_map_classes))
theorem lz_4 {G : Gl} (T : Txt G) : LamZ1 G 11 4 lr_4 := lam_z (ps := []) (N := ["web", "goal"]) (k := 10) T.ok T.lam_4 lsc_4 (fun us cl pm ctv c h => match us, h with
  | [], _ => rfl) fun A outer L f cd cl c0 hr => (se_call (nam_glob (by rfl) T.d_map_classes.mg (by decide)) (by rfl) (by rfl) (sa_cons (se_var (i := 0) (by rfl) (by decide) (by decide)) (sa_cons (se_var (i := 1) (by rfl) (by decide) (by decide)) sa_nil (star_cons (by rfl))) (star_cons (by rfl))) sk_nil (T.d_map_classes.oc (fz_map_classes T) (hr.mono (by decide)) (kb_map_classes_2_ T)))
theorem sc_class_count : FnScope ["web", "goal"] ["web", "goal"] (defScope (top 37)) := ⟨rfl, rfl, rfl, by decide +kernel, rfl, by decide +kernel, by decide +kernel⟩
def v_class_count : SV := (bCons (sRet (eCall (lCons (eCall (lCons (eV 0) (lCons (eV 1) lNil)) lNil (bindR 2 0 [0, 1] r_map_classes)) lNil) lNil (fun vs _ m => rLen vs m))) bNil)
def r_class_count : List D → Store → Res D := fnR [false, false] v_class_count
theorem fz_class_count {G : Gl} (T : Txt G) : FnZ G 11 280 (fdK G.K 280) ["web", "goal"] r_class_count :=
  T.d_class_count.fn (k := 10) (bv := v_class_count) (nb := [false, false]) T.ok sc_class_count rfl (hbx_by (by decide +kernel)) fun A outer L c0 hr => (sb_cons (ss_ret (se_call (nam_blt (by rfl) T.b_len (by rfl) (by decide) (by decide)) (by rfl) (by rfl) (sa_cons (se_call (nam_glob (by rfl) T.d_map_classes.mg (by decide)) (by rfl) (by rfl) (sa_cons (se_var (i := 0) (by rfl) (by decide) (by decide)) (sa_cons (se_var (i := 1) (by rfl) (by decide) (by decide)) sa_nil (star_cons (by rfl))) (star_cons (by rfl))) sk_nil (T.d_map_classes.oc (fz_map_classes T) (hr.mono (by decide)) (kb_map_classes_2_ T))) sa_nil (star_cons (by rfl))) sk_nil (OC.of o_len (fun _ _ => kpr_blt)))) sb_nil)
theorem kb_class_count_0_goal_web {G : Gl} (T : Txt G) : KB (fdK G.K 280) ["web", "goal"] 0 ["goal", "web"] [1, 0] := T.d_class_count.kb fun _ _ _ _ _ => ⟨rfl, fun us ws h1 h2 => match us, h1 with
  | [], _ => match ws, h2 with
    | [b0, b1], _ => rfl⟩
theorem lsc_5 : LamScope ["web", "goal"] [] (lamK 5).scope := ⟨rfl, rfl, rfl, by decide +kernel, by decide +kernel, by decide +kernel, by decide +kernel, by decide +kernel⟩
def lr_5 : List Nat → List D → Store → Res D := lamR 0 (eCall lNil (lCons (eV 1) (lCons (eV 0) lNil)) (bindR 0 2 [1, 0] r_class_count))
theorem lz_5 {G : Gl} (T : Txt G) : LamZ1 G 12 5 lr_5 := lam_z (ps := []) (N := ["web", "goal"]) (k := 11) T.ok T.lam_5 lsc_5 (fun us cl pm ctv c h => match us, h with
  | [], _ => rfl) fun A outer L f cd cl c0 hr => (se_call0 (nam_glob (by rfl) T.d_class_count.mg (by decide)) (by rfl) (sk_cons (se_var (i := 1) (by rfl) (by decide) (by decide)) (sk_cons (se_var (i := 0) (by rfl) (by decide) (by decide)) sk_nil)) (T.d_class_count.oc (fz_class_count T) (hr.mono (by decide)) (kb_class_count_0_goal_web T)))
theorem lsc_15 : LamScope ["odd", "tie"] ["odd"] (lamK 15).scope := ⟨rfl, rfl, rfl, by decide +kernel, by decide +kernel, by decide +kernel, by decide +kernel, by decide +kernel⟩
def lr_15 : List Nat → List D → Store → Res D := lamR 1 (eCall (lCons (eV 1) (lCons (eV 1) (lCons (eV 0) lNil))) lNil (bindR 3 0 [0, 1, 2] r_next_maps))
theorem lz_15 {G : Gl} (T : Txt G) : LamZ1 G 11 15 lr_15 := lam_z (ps := ["odd"]) (N := ["odd", "tie"]) (k := 10) T.ok T.lam_15 lsc_15 (fun us cl pm ctv c h => match us, h with
  | [a0], _ => rfl) fun A outer L f cd cl c0 hr => (se_call (nam_glob (by rfl) T.d_next_maps.mg (by decide)) (by rfl) (by rfl) (sa_cons (se_var (i := 1) (by rfl) (by decide) (by decide)) (sa_cons (se_var (i := 1) (by rfl) (by decide) (by decide)) (sa_cons (se_var (i := 0) (by rfl) (by decide) (by decide)) sa_nil (star_cons (by rfl))) (star_cons (by rfl))) (star_cons (by rfl))) sk_nil (T.d_next_maps.oc (fz_next_maps T) (hr.mono (by decide)) (kb_next_maps_3_ T)))
def r_folds_among : List D → Store → Res D := fun _ _ => .bad
theorem fz_folds_among {G : Gl} (T : Txt G) : FnZ G 0 189 (fdK G.K 189) ["lists", "left"] r_folds_among := FnZ.bad
theorem kb_folds_among_2_ {G : Gl} (T : Txt G) : KB (fdK G.K 189) ["lists", "left"] 2 [] [0, 1] := T.d_folds_among.kb fun _ _ _ _ _ => ⟨rfl, fun us ws h1 h2 => match us, h1 with
  | [a0, a1], _ => match ws, h2 with
    | [], _ => rfl⟩
theorem sc_stiff_or_fold : FnScope ["web", "kept", "pairs"] ["web"] (defScope (top 38)) := ⟨rfl, rfl, rfl, by decide +kernel, rfl, by decide +kernel, by decide +kernel⟩
def v_stiff_or_fold : SV := (bCons (sAsg (eCall (lCons (eV 0) lNil) lNil (bindR 1 0 [0] r_need_web)) (gName 1)) (bCons (sAsg (eCall (lCons (eCall (lCons (eV 1) lNil) lNil (bindR 1 0 [0] r_near_lists)) (lCons (eCall (lCons eBad lNil) lNil (fun vs _ m => rLst vs m)) lNil)) lNil (bindR 2 0 [0, 1] r_folds_among)) (gName 2)) (bCons (sRet (eIf (ts (eV 2)) (eTup (lCons (eC (.str [102, 111, 108, 100])) (lCons (e2 rIx (e2 rIx (eV 2) (eC (.int 0))) (eC (.int 0))) (lCons (e2 rIx (e2 rIx (eV 2) (eC (.int 0))) (eC (.int 1))) lNil)))) (eTup (lCons (eC (.str [115, 116, 105, 102, 102])) lNil)))) bNil)))
def r_stiff_or_fold : List D → Store → Res D := fnR [false, false, false] v_stiff_or_fold
theorem fz_stiff_or_fold {G : Gl} (T : Txt G) : FnZ G 9 287 (fdK G.K 287) ["web"] r_stiff_or_fold :=
  T.d_stiff_or_fold.fn (k := 8) (bv := v_stiff_or_fold) (nb := [false, false, false]) T.ok sc_stiff_or_fold rfl (hbx_by (by decide +kernel)) fun A outer L c0 hr => (sb_cons (ss_asg (se_call (nam_glob (by rfl) T.d_need_web.mg (by decide)) (by rfl) (by rfl) (sa_cons (se_var (i := 0) (by rfl) (by decide) (by decide)) sa_nil (star_cons (by rfl))) sk_nil (T.d_need_web.oc (fz_need_web T) (hr.mono (by decide)) (kb_need_web_1_ T))) (sg_name (i := 1) (by rfl) (.inl (by rfl))) (by rfl) (by rfl) (by rfl)) (sb_cons (ss_asg (se_call (nam_glob (by rfl) T.d_folds_among.mg (by decide)) (by rfl) (by rfl) (sa_cons (se_call (nam_glob (by rfl) T.d_near_lists.mg (by decide)) (by rfl) (by rfl) (sa_cons (se_var (i := 1) (by rfl) (by decide) (by decide)) sa_nil (star_cons (by rfl))) sk_nil (T.d_near_lists.oc (fz_near_lists T) (hr.mono (by decide)) (kb_near_lists_1_ T))) (sa_cons (se_call (nam_blt (by rfl) T.b_list (by rfl) (by decide) (by decide)) (by rfl) (by rfl) (sa_cons se_bad sa_nil (star_cons (by rfl))) sk_nil (OC.of o_lst (fun _ _ => kpr_ty))) sa_nil (star_cons (by rfl))) (star_cons (by rfl))) sk_nil (T.d_folds_among.oc (fz_folds_among T) (hr.mono (by decide)) (kb_folds_among_2_ T))) (sg_name (i := 2) (by rfl) (.inl (by rfl))) (by rfl) (by rfl) (by rfl)) (sb_cons (ss_ret (se_if (st_plain (se_var (i := 2) (by rfl) (by decide) (by decide)) (fun _ => (by rfl))) (se_tup (sa_cons (se_strn (n := [102, 111, 108, 100]) (by decide)) (sa_cons (se_ix (se_ix (se_var (i := 2) (by rfl) (by decide) (by decide)) se_int (fun _ _ => (by rfl))) se_int (fun _ _ => (by rfl))) (sa_cons (se_ix (se_ix (se_var (i := 2) (by rfl) (by decide) (by decide)) se_int (fun _ _ => (by rfl))) se_int (fun _ _ => (by rfl))) sa_nil (star_cons (by rfl))) (star_cons (by rfl))) (star_cons (by rfl)))) (se_tup (sa_cons (se_strn (n := [115, 116, 105, 102, 102]) (by decide)) sa_nil (star_cons (by rfl)))))) sb_nil)))
theorem kb_stiff_or_fold_1_ {G : Gl} (T : Txt G) : KB (fdK G.K 287) ["web"] 1 [] [0] := T.d_stiff_or_fold.kb fun _ _ _ _ _ => ⟨rfl, fun us ws h1 h2 => match us, h1 with
  | [a0], _ => match ws, h2 with
    | [], _ => rfl⟩
theorem lsc_16 : LamScope ["odd"] ["odd"] (lamK 16).scope := ⟨rfl, rfl, rfl, by decide +kernel, by decide +kernel, by decide +kernel, by decide +kernel, by decide +kernel⟩
def lr_16 : List Nat → List D → Store → Res D := lamR 1 (eCall (lCons (eV 0) lNil) lNil (bindR 1 0 [0] r_stiff_or_fold))
theorem lz_16 {G : Gl} (T : Txt G) : LamZ1 G 10 16 lr_16 := lam_z (ps := ["odd"]) (N := ["odd"]) (k := 9) T.ok T.lam_16 lsc_16 (fun us cl pm ctv c h => match us, h with
  | [a0], _ => rfl) fun A outer L f cd cl c0 hr => (se_call (nam_glob (by rfl) T.d_stiff_or_fold.mg (by decide)) (by rfl) (by rfl) (sa_cons (se_var (i := 0) (by rfl) (by decide) (by decide)) sa_nil (star_cons (by rfl))) sk_nil (T.d_stiff_or_fold.oc (fz_stiff_or_fold T) (hr.mono (by decide)) (kb_stiff_or_fold_1_ T)))
def LF_lam6 : LamF := fun l => match l with
  | 15 => lr_15
  | 16 => lr_16
  | _ => fun _ _ _ => .bad
theorem hLF_lam6 {G : Gl} (T : Txt G) : LamZ G 11 LF_lam6 := fun l => match l with
  | 0 => LamZ1.bad
  | 1 => LamZ1.bad
  | 2 => LamZ1.bad
  | 3 => LamZ1.bad
  | 4 => LamZ1.bad
  | 5 => LamZ1.bad
  | 6 => LamZ1.bad
  | 7 => LamZ1.bad
  | 8 => LamZ1.bad
  | 9 => LamZ1.bad
  | 10 => LamZ1.bad
  | 11 => LamZ1.bad
  | 12 => LamZ1.bad
  | 13 => LamZ1.bad
  | 14 => LamZ1.bad
  | 15 => (lz_15 T).mono (by decide)
  | 16 => (lz_16 T).mono (by decide)
  | n + 17 => LamZ1.bad
theorem lsc_6 : LamScope ["odd", "ask"] [] (lamK 6).scope := ⟨rfl, rfl, rfl, by decide +kernel, by decide +kernel, by decide +kernel, by decide +kernel, by decide +kernel⟩
def lr_6 : List Nat → List D → Store → Res D := lamR 0 (eCallV (eV 1) (lCons (eV 0) lNil) lNil (rClo LF_lam6))
theorem lz_6 {G : Gl} (T : Txt G) : LamZ1 G 12 6 lr_6 := lam_z (ps := []) (N := ["odd", "ask"]) (k := 11) T.ok T.lam_6 lsc_6 (fun us cl pm ctv c h => match us, h with
  | [], _ => rfl) fun A outer L f cd cl c0 hr => (se_callV (se_var (i := 1) (by rfl) (by decide) (by decide)) (by rfl) (by rfl) (sa_cons (se_var (i := 0) (by rfl) (by decide) (by decide)) sa_nil (star_cons (by rfl))) sk_nil (ov_clo (hLF_lam6 T) (hr.mono (by decide))))
theorem lsc_7 : LamScope ["odd"] [] (lamK 7).scope := ⟨rfl, rfl, rfl, by decide +kernel, by decide +kernel, by decide +kernel, by decide +kernel, by decide +kernel⟩
def lr_7 : List Nat → List D → Store → Res D := lamR 0 (eCall (lCons (eV 0) lNil) lNil (bindR 1 0 [0] r_stiff_or_fold))
theorem lz_7 {G : Gl} (T : Txt G) : LamZ1 G 10 7 lr_7 := lam_z (ps := []) (N := ["odd"]) (k := 9) T.ok T.lam_7 lsc_7 (fun us cl pm ctv c h => match us, h with
  | [], _ => rfl) fun A outer L f cd cl c0 hr => (se_call (nam_glob (by rfl) T.d_stiff_or_fold.mg (by decide)) (by rfl) (by rfl) (sa_cons (se_var (i := 0) (by rfl) (by decide) (by decide)) sa_nil (star_cons (by rfl))) sk_nil (T.d_stiff_or_fold.oc (fz_stiff_or_fold T) (hr.mono (by decide)) (kb_stiff_or_fold_1_ T)))
theorem lsc_8 : LamScope ["tie", "odd"] [] (lamK 8).scope := ⟨rfl, rfl, rfl, by decide +kernel, by decide +kernel, by decide +kernel, by decide +kernel, by decide +kernel⟩
def lr_8 : List Nat → List D → Store → Res D := lamR 0 (eCall (lCons (eV 0) (lCons (eV 0) (lCons (eV 1) lNil))) lNil (bindR 3 0 [0, 1, 2] r_next_maps))
theorem lz_8 {G : Gl} (T : Txt G) : LamZ1 G 11 8 lr_8 := lam_z (ps := []) (N := ["tie", "odd"]) (k := 10) T.ok T.lam_8 lsc_8 (fun us cl pm ctv c h => match us, h with
  | [], _ => rfl) fun A outer L f cd cl c0 hr => (se_call (nam_glob (by rfl) T.d_next_maps.mg (by decide)) (by rfl) (by rfl) (sa_cons (se_var (i := 0) (by rfl) (by decide) (by decide)) (sa_cons (se_var (i := 0) (by rfl) (by decide) (by decide)) (sa_cons (se_var (i := 1) (by rfl) (by decide) (by decide)) sa_nil (star_cons (by rfl))) (star_cons (by rfl))) (star_cons (by rfl))) sk_nil (T.d_next_maps.oc (fz_next_maps T) (hr.mono (by decide)) (kb_next_maps_3_ T)))
theorem kb_steps_or_lot_4_ {G : Gl} (T : Txt G) : KB (fdK G.K 256) ["web", "goal", "one", "other"] 4 [] [0, 1, 2, 3] := T.d_steps_or_lot.kb fun _ _ _ _ _ => ⟨rfl, fun us ws h1 h2 => match us, h1 with
  | [a0, a1, a2, a3], _ => match ws, h2 with
    | [], _ => rfl⟩
theorem lsc_9 : LamScope ["tie", "odd"] [] (lamK 9).scope := ⟨rfl, rfl, rfl, by decide +kernel, by decide +kernel, by decide +kernel, by decide +kernel, by decide +kernel⟩
def lr_9 : List Nat → List D → Store → Res D := lamR 0 (eCall (lCons (eV 0) (lCons (eV 0) (lCons (eV 1) (lCons (eV 1) lNil)))) lNil (bindR 4 0 [0, 1, 2, 3] r_steps_or_lot))
theorem lz_9 {G : Gl} (T : Txt G) : LamZ1 G 12 9 lr_9 := lam_z (ps := []) (N := ["tie", "odd"]) (k := 11) T.ok T.lam_9 lsc_9 (fun us cl pm ctv c h => match us, h with
  | [], _ => rfl) fun A outer L f cd cl c0 hr => (se_call (nam_glob (by rfl) T.d_steps_or_lot.mg (by decide)) (by rfl) (by rfl) (sa_cons (se_var (i := 0) (by rfl) (by decide) (by decide)) (sa_cons (se_var (i := 0) (by rfl) (by decide) (by decide)) (sa_cons (se_var (i := 1) (by rfl) (by decide) (by decide)) (sa_cons (se_var (i := 1) (by rfl) (by decide) (by decide)) sa_nil (star_cons (by rfl))) (star_cons (by rfl))) (star_cons (by rfl))) (star_cons (by rfl))) sk_nil (T.d_steps_or_lot.oc (fz_steps_or_lot T) (hr.mono (by decide)) (kb_steps_or_lot_4_ T)))
theorem lsc_10 : LamScope ["tie", "odd"] [] (lamK 10).scope := ⟨rfl, rfl, rfl, by decide +kernel, by decide +kernel, by decide +kernel, by decide +kernel, by decide +kernel⟩
def lr_10 : List Nat → List D → Store → Res D := lamR 0 (eCall (lCons (eV 0) (lCons (eV 0) (lCons (eV 1) (lCons (eC .non) (lCons (eC .non) lNil))))) lNil (bindR 5 0 [0, 1, 2, 3, 4] r_are_steps))
theorem lz_10 {G : Gl} (T : Txt G) : LamZ1 G 12 10 lr_10 := lam_z (ps := []) (N := ["tie", "odd"]) (k := 11) T.ok T.lam_10 lsc_10 (fun us cl pm ctv c h => match us, h with
  | [], _ => rfl) fun A outer L f cd cl c0 hr => (se_call (nam_glob (by rfl) T.d_are_steps.mg (by decide)) (by rfl) (by rfl) (sa_cons (se_var (i := 0) (by rfl) (by decide) (by decide)) (sa_cons (se_var (i := 0) (by rfl) (by decide) (by decide)) (sa_cons (se_var (i := 1) (by rfl) (by decide) (by decide)) (sa_cons se_non (sa_cons se_non sa_nil (star_cons (by rfl))) (star_cons (by rfl))) (star_cons (by rfl))) (star_cons (by rfl))) (star_cons (by rfl))) sk_nil (T.d_are_steps.oc (fz_are_steps T) (hr.mono (by decide)) (kb_are_steps_5_ T)))
theorem lsc_11 : LamScope ["tie", "odd"] [] (lamK 11).scope := ⟨rfl, rfl, rfl, by decide +kernel, by decide +kernel, by decide +kernel, by decide +kernel, by decide +kernel⟩
def lr_11 : List Nat → List D → Store → Res D := lamR 0 (eCall lNil (lCons (eV 1) (lCons (eV 1) (lCons (eV 0) (lCons (eV 0) lNil)))) (bindR 0 4 [3, 2, 1, 0] r_steps_far))
theorem lz_11 {G : Gl} (T : Txt G) : LamZ1 G 12 11 lr_11 := lam_z (ps := []) (N := ["tie", "odd"]) (k := 11) T.ok T.lam_11 lsc_11 (fun us cl pm ctv c h => match us, h with
  | [], _ => rfl) fun A outer L f cd cl c0 hr => (se_call0 (nam_glob (by rfl) T.d_steps_far.mg (by decide)) (by rfl) (sk_cons (se_var (i := 1) (by rfl) (by decide) (by decide)) (sk_cons (se_var (i := 1) (by rfl) (by decide) (by decide)) (sk_cons (se_var (i := 0) (by rfl) (by decide) (by decide)) (sk_cons (se_var (i := 0) (by rfl) (by decide) (by decide)) sk_nil)))) (T.d_steps_far.oc (fz_steps_far T) (hr.mono (by decide)) (kb_steps_far_0_other_one_goal_web T)))
theorem lsc_12 : LamScope ["tie", "odd"] [] (lamK 12).scope := ⟨rfl, rfl, rfl, by decide +kernel, by decide +kernel, by decide +kernel, by decide +kernel, by decide +kernel⟩
def lr_12 : List Nat → List D → Store → Res D := lamR 0 (eCall (lCons (eV 0) (lCons (eV 0) (lCons (eLst (lCons (eC (.int 0)) (lCons (eC (.int 1)) lNil))) (lCons (eV 1) lNil)))) lNil (bindR 4 0 [0, 1, 2, 3] r_steps_or_lot))
theorem lz_12 {G : Gl} (T : Txt G) : LamZ1 G 12 12 lr_12 := lam_z (ps := []) (N := ["tie", "odd"]) (k := 11) T.ok T.lam_12 lsc_12 (fun us cl pm ctv c h => match us, h with
  | [], _ => rfl) fun A outer L f cd cl c0 hr => (se_call (nam_glob (by rfl) T.d_steps_or_lot.mg (by decide)) (by rfl) (by rfl) (sa_cons (se_var (i := 0) (by rfl) (by decide) (by decide)) (sa_cons (se_var (i := 0) (by rfl) (by decide) (by decide)) (sa_cons (se_lst (sa_cons se_int (sa_cons se_int sa_nil (star_cons (by rfl))) (star_cons (by rfl)))) (sa_cons (se_var (i := 1) (by rfl) (by decide) (by decide)) sa_nil (star_cons (by rfl))) (star_cons (by rfl))) (star_cons (by rfl))) (star_cons (by rfl))) sk_nil (T.d_steps_or_lot.oc (fz_steps_or_lot T) (hr.mono (by decide)) (kb_steps_or_lot_4_ T)))
theorem lsc_13 : LamScope ["tie", "odd"] [] (lamK 13).scope := ⟨rfl, rfl, rfl, by decide +kernel, by decide +kernel, by decide +kernel, by decide +kernel, by decide +kernel⟩
def lr_13 : List Nat → List D → Store → Res D := lamR 0 (eCall (lCons (eV 0) (lCons (eV 0) (lCons (eLst (lCons (eC (.int 1)) (lCons (eC (.int 0)) lNil))) (lCons (eV 1) (lCons (eC .non) lNil))))) lNil (bindR 5 0 [0, 1, 2, 3, 4] r_are_steps))
theorem lz_13 {G : Gl} (T : Txt G) : LamZ1 G 12 13 lr_13 := lam_z (ps := []) (N := ["tie", "odd"]) (k := 11) T.ok T.lam_13 lsc_13 (fun us cl pm ctv c h => match us, h with
  | [], _ => rfl) fun A outer L f cd cl c0 hr => (se_call (nam_glob (by rfl) T.d_are_steps.mg (by decide)) (by rfl) (by rfl) (sa_cons (se_var (i := 0) (by rfl) (by decide) (by decide)) (sa_cons (se_var (i := 0) (by rfl) (by decide) (by decide)) (sa_cons (se_lst (sa_cons se_int (sa_cons se_int sa_nil (star_cons (by rfl))) (star_cons (by rfl)))) (sa_cons (se_var (i := 1) (by rfl) (by decide) (by decide)) (sa_cons se_non sa_nil (star_cons (by rfl))) (star_cons (by rfl))) (star_cons (by rfl))) (star_cons (by rfl))) (star_cons (by rfl))) sk_nil (T.d_are_steps.oc (fz_are_steps T) (hr.mono (by decide)) (kb_are_steps_5_ T)))
theorem lsc_14 : LamScope ["tie", "odd"] [] (lamK 14).scope := ⟨rfl, rfl, rfl, by decide +kernel, by decide +kernel, by decide +kernel, by decide +kernel, by decide +kernel⟩
def lr_14 : List Nat → List D → Store → Res D := lamR 0 (eCall lNil (lCons (eV 1) (lCons (eLst (lCons (eC (.int 0)) (lCons (eC (.int 1)) lNil))) (lCons (eV 0) (lCons (eV 0) lNil)))) (bindR 0 4 [3, 2, 1, 0] r_steps_far))
theorem lz_14 {G : Gl} (T : Txt G) : LamZ1 G 12 14 lr_14 := lam_z (ps := []) (N := ["tie", "odd"]) (k := 11) T.ok T.lam_14 lsc_14 (fun us cl pm ctv c h => match us, h with
  | [], _ => rfl) fun A outer L f cd cl c0 hr => (se_call0 (nam_glob (by rfl) T.d_steps_far.mg (by decide)) (by rfl) (sk_cons (se_var (i := 1) (by rfl) (by decide) (by decide)) (sk_cons (se_lst (sa_cons se_int (sa_cons se_int sa_nil (star_cons (by rfl))) (star_cons (by rfl)))) (sk_cons (se_var (i := 0) (by rfl) (by decide) (by decide)) (sk_cons (se_var (i := 0) (by rfl) (by decide) (by decide)) sk_nil)))) (T.d_steps_far.oc (fz_steps_far T) (hr.mono (by decide)) (kb_steps_far_0_other_one_goal_web T)))
def LF__law_met : LamF := fun l => match l with
  | 0 => lr_0
  | 1 => lr_1
  | 2 => lr_2
  | 3 => lr_3
  | 4 => lr_4
  | 5 => lr_5
  | 6 => lr_6
  | 7 => lr_7
  | 8 => lr_8
  | 9 => lr_9
  | 10 => lr_10
  | 11 => lr_11
  | 12 => lr_12
  | 13 => lr_13
  | 14 => lr_14
  | _ => fun _ _ _ => .bad
theorem hLF__law_met {G : Gl} (T : Txt G) : LamZ G 12 LF__law_met := fun l => match l with
  | 0 => (lz_0 T).mono (by decide)
  | 1 => (lz_1 T).mono (by decide)
  | 2 => (lz_2 T).mono (by decide)
  | 3 => (lz_3 T).mono (by decide)
  | 4 => (lz_4 T).mono (by decide)
  | 5 => (lz_5 T).mono (by decide)
  | 6 => (lz_6 T).mono (by decide)
  | 7 => (lz_7 T).mono (by decide)
  | 8 => (lz_8 T).mono (by decide)
  | 9 => (lz_9 T).mono (by decide)
  | 10 => (lz_10 T).mono (by decide)
  | 11 => (lz_11 T).mono (by decide)
  | 12 => (lz_12 T).mono (by decide)
  | 13 => (lz_13 T).mono (by decide)
  | 14 => (lz_14 T).mono (by decide)
  | n + 15 => LamZ1.bad
theorem sc__law_met : FnScope ["ask", "e"] ["ask"] (defScope (top 46)) := ⟨rfl, rfl, rfl, by decide +kernel, rfl, by decide +kernel, by decide +kernel⟩
def v__law_met : SV := (bCons (sTry mtK (bCons (sRet (eTup (lCons (eC (.str [116, 111, 108, 100])) (lCons (eCallV (eV 0) lNil lNil (rClo LF__law_met)) lNil)))) bNil) (⟨.ref 84, some 1, (bCons (sRet (eTup (lCons (eC (.str [119, 101, 98])) (lCons (eAttr ok_web [119, 101, 98] (eV 1)) lNil)))) bNil)⟩ :: (⟨.ref 141, some 1, (bCons (sRet (eTup (lCons (eC (.str [103, 111, 97, 108])) (lCons (eAttr ok_goal [103, 111, 97, 108] (eV 1)) lNil)))) bNil)⟩ :: (⟨.ref 160, some 1, (bCons (sRet (eTup (lCons (eC (.str [108, 101, 100])) (lCons (eAttr ok_led [108, 101, 100] (eV 1)) lNil)))) bNil)⟩ :: (⟨.ref 103, some 1, (bCons (sRet (eTup (lCons (eC (.str [111, 110, 101])) (lCons (eAttr ok_one [111, 110, 101] (eV 1)) lNil)))) bNil)⟩ :: (⟨.ref 122, some 1, (bCons (sRet (eTup (lCons (eC (.str [111, 116, 104, 101, 114])) (lCons (eAttr ok_other [111, 116, 104, 101, 114] (eV 1)) lNil)))) bNil)⟩ :: [])))))) bNil)
def r__law_met : List D → Store → Res D := fnR [false, false] v__law_met
theorem fz__law_met {G : Gl} (T : Txt G) : FnZ G 13 332 (fdK G.K 332) ["ask"] r__law_met :=
  T.d__law_met.fn (k := 12) (bv := v__law_met) (nb := [false, false]) T.ok sc__law_met rfl (hbx_by (by decide +kernel)) fun A outer L c0 hr => (sb_cons (ss_try top_cx T.mt (sb_cons (ss_ret (se_tup (sa_cons (se_strn (n := [116, 111, 108, 100]) (by decide)) (sa_cons (se_callV0 (se_var (i := 0) (by rfl) (by decide) (by decide)) (by rfl) sk_nil (ov_clo (hLF__law_met T) (hr.mono (by decide)))) sa_nil (star_cons (by rfl))) (star_cons (by rfl))))) sb_nil) (.as (fun _ => (nam_glob (by rfl) T.c_BadWeb (by decide))) (i := 1) (by rfl) (by rfl) (fun _ => (sb_cons (ss_ret (se_tup (sa_cons (se_strn (n := [119, 101, 98]) (by decide)) (sa_cons (se_attrN (n := [119, 101, 98]) (by decide) (se_var (i := 1) (by rfl) (by decide) (by decide)) (by rfl) T.x_web) sa_nil (star_cons (by rfl))) (star_cons (by rfl))))) sb_nil)) (.as (fun _ => (nam_glob (by rfl) T.c_BadGoal (by decide))) (i := 1) (by rfl) (by rfl) (fun _ => (sb_cons (ss_ret (se_tup (sa_cons (se_strn (n := [103, 111, 97, 108]) (by decide)) (sa_cons (se_attrN (n := [103, 111, 97, 108]) (by decide) (se_var (i := 1) (by rfl) (by decide) (by decide)) (by rfl) T.x_goal) sa_nil (star_cons (by rfl))) (star_cons (by rfl))))) sb_nil)) (.as (fun _ => (nam_glob (by rfl) T.c_BadLed (by decide))) (i := 1) (by rfl) (by rfl) (fun _ => (sb_cons (ss_ret (se_tup (sa_cons (se_strn (n := [108, 101, 100]) (by decide)) (sa_cons (se_attrN (n := [108, 101, 100]) (by decide) (se_var (i := 1) (by rfl) (by decide) (by decide)) (by rfl) T.x_led) sa_nil (star_cons (by rfl))) (star_cons (by rfl))))) sb_nil)) (.as (fun _ => (nam_glob (by rfl) T.c_BadOne (by decide))) (i := 1) (by rfl) (by rfl) (fun _ => (sb_cons (ss_ret (se_tup (sa_cons (se_strn (n := [111, 110, 101]) (by decide)) (sa_cons (se_attrN (n := [111, 110, 101]) (by decide) (se_var (i := 1) (by rfl) (by decide) (by decide)) (by rfl) T.x_one) sa_nil (star_cons (by rfl))) (star_cons (by rfl))))) sb_nil)) (.as (fun _ => (nam_glob (by rfl) T.c_BadOther (by decide))) (i := 1) (by rfl) (by rfl) (fun _ => (sb_cons (ss_ret (se_tup (sa_cons (se_strn (n := [111, 116, 104, 101, 114]) (by decide)) (sa_cons (se_attrN (n := [111, 116, 104, 101, 114]) (by decide) (se_var (i := 1) (by rfl) (by decide) (by decide)) (by rfl) T.x_other) sa_nil (star_cons (by rfl))) (star_cons (by rfl))))) sb_nil)) .nil)))))) sb_nil)
theorem kb__law_same_2_ {G : Gl} (T : Txt G) : KB (fdK G.K 306) ["found", "due"] 2 [] [0, 1] := T.d__law_same.kb fun _ _ _ _ _ => ⟨rfl, fun us ws h1 h2 => match us, h1 with
  | [a0, a1], _ => match ws, h2 with
    | [], _ => rfl⟩
theorem sc__law_same : FnScope ["found", "due"] ["found", "due"] (defScope (top 42)) := ⟨rfl, rfl, rfl, by decide +kernel, rfl, by decide +kernel, by decide +kernel⟩
def v__law_same (rs : List D → Store → Res D) : SV := (bCons (sIf (ts (eCall (lCons (eV 1) (lCons (eTup (lCons (eC (.ty "list")) (lCons (eC (.ty "tuple")) lNil))) lNil)) lNil (fun vs _ m => rIsi vs m))) (bCons (sIf (tOr (ts (e2 rNe (eCall (lCons (eV 0) (lCons (eC (.ty "list")) lNil)) lNil (fun vs _ m => rIsi vs m)) (eCall (lCons (eV 1) (lCons (eC (.ty "list")) lNil)) lNil (fun vs _ m => rIsi vs m)))) (ts (e2 rNe (eCall (lCons (eV 0) (lCons (eC (.ty "tuple")) lNil)) lNil (fun vs _ m => rIsi vs m)) (eCall (lCons (eV 1) (lCons (eC (.ty "tuple")) lNil)) lNil (fun vs _ m => rIsi vs m))))) (bCons (sRet (eC (.bl false))) bNil) bNil) (bCons (sRet (eAnd (e2 rEq (eCall (lCons (eV 0) lNil) lNil (fun vs _ m => rLen vs m)) (eCall (lCons (eV 1) lNil) lNil (fun vs _ m => rLen vs m))) (eCall (lCons (eLc (iCall (lCons (eV 0) (lCons (eV 1) lNil)) rZip) [none, none] (gTup 2 (gCons (gName 0) (gCons (gName 1) gNil))) tYes (eCall (lCons (eV 0) (lCons (eV 1) lNil)) lNil (bindR 2 0 [0, 1] rs)) 80) lNil) lNil (fun vs _ m => rAll vs m)))) bNil)) bNil) (bCons (sIf (ts (eCall (lCons (eV 1) (lCons (eC (.ty "dict")) lNil)) lNil (fun vs _ m => rIsi vs m))) (bCons (sRet (eAnd (eCall (lCons (eV 0) (lCons (eC (.ty "dict")) lNil)) lNil (fun vs _ m => rIsi vs m)) (eCall (lCons (eItems (eV 0)) (lCons (eItems (eV 1)) lNil)) lNil (bindR 2 0 [0, 1] rs)))) bNil) bNil) (bCons (sIf (tOr (ts (eCall (lCons (eV 1) (lCons (eC (.ty "bool")) lNil)) lNil (fun vs _ m => rIsi vs m))) (ts (eCall (lCons (eV 0) (lCons (eC (.ty "bool")) lNil)) lNil (fun vs _ m => rIsi vs m)))) (bCons (sRet (eAnd (eCall (lCons (eV 1) (lCons (eC (.ty "bool")) lNil)) lNil (fun vs _ m => rIsi vs m)) (eAnd (eCall (lCons (eV 0) (lCons (eC (.ty "bool")) lNil)) lNil (fun vs _ m => rIsi vs m)) (e2 rEq (eV 0) (eV 1))))) bNil) bNil) (bCons (sIf (tOr (ts (e2 rIs (eV 1) (eC .non))) (ts (e2 rIs (eV 0) (eC .non)))) (bCons (sRet (eAnd (e2 rIs (eV 1) (eC .non)) (e2 rIs (eV 0) (eC .non)))) bNil) bNil) (bCons (sIf (tOr (ts (e2 rNe (eCall (lCons (eV 1) (lCons (eC (.ty "int")) lNil)) lNil (fun vs _ m => rIsi vs m)) (eCall (lCons (eV 0) (lCons (eC (.ty "int")) lNil)) lNil (fun vs _ m => rIsi vs m)))) (ts (e2 rNe (eCall (lCons (eV 1) (lCons (eC (.ty "str")) lNil)) lNil (fun vs _ m => rIsi vs m)) (eCall (lCons (eV 0) (lCons (eC (.ty "str")) lNil)) lNil (fun vs _ m => rIsi vs m))))) (bCons (sRet (eC (.bl false))) bNil) bNil) (bCons (sRet (eAnd (eNot (eCall (lCons (eV 0) (lCons (eTup (lCons (eC (.ty "list")) (lCons (eC (.ty "tuple")) (lCons (eC (.ty "dict")) lNil)))) lNil)) lNil (fun vs _ m => rIsi vs m))) (e2 rEq (eV 0) (eV 1)))) bNil))))))
def r__law_same : Nat → List D → Store → Res D
  | 0 => fun _ _ => .bad
  | n + 1 => fnR [false, false] (v__law_same (r__law_same n))
theorem fz__law_same {G : Gl} (T : Txt G) : ∀ n, FnZ G (n + 4) 306 (fdK G.K 306) ["found", "due"] (r__law_same n)
  | 0 => FnZ.bad
  | n + 1 => by
    have ih := fz__law_same T n
    exact T.d__law_same.fn (k := n + 4) (bv := v__law_same (r__law_same n)) (nb := [false, false]) T.ok sc__law_same rfl (hbx_by (by decide +kernel)) fun A outer L c0 hr => (sb_cons (ss_if (st_plain (se_call (nam_blt (by rfl) T.b_isinstance (by rfl) (by decide) (by decide)) (by rfl) (by rfl) (sa_cons (se_var (i := 1) (by rfl) (by decide) (by decide)) (sa_cons (se_tup (sa_cons (se_blt (v := .ty "list") (by rfl) T.b_list (by rfl) (fun _ _ => (by rfl)) (by decide) (by decide)) (sa_cons (se_blt (v := .ty "tuple") (by rfl) T.b_tuple (by rfl) (fun _ _ => (by rfl)) (by decide) (by decide)) sa_nil (star_cons (by rfl))) (star_cons (by rfl)))) sa_nil (star_cons (by rfl))) (star_cons (by rfl))) sk_nil (OC.of o_isi (fun _ _ => kpr_blt))) (fun _ => (by rfl))) (sb_cons (ss_if ((st_or (st_cmp o_ne (se_call (nam_blt (by rfl) T.b_isinstance (by rfl) (by decide) (by decide)) (by rfl) (by rfl) (sa_cons (se_var (i := 0) (by rfl) (by decide) (by decide)) (sa_cons (se_blt (v := .ty "list") (by rfl) T.b_list (by rfl) (fun _ _ => (by rfl)) (by decide) (by decide)) sa_nil (star_cons (by rfl))) (star_cons (by rfl))) sk_nil (OC.of o_isi (fun _ _ => kpr_blt))) (se_call (nam_blt (by rfl) T.b_isinstance (by rfl) (by decide) (by decide)) (by rfl) (by rfl) (sa_cons (se_var (i := 1) (by rfl) (by decide) (by decide)) (sa_cons (se_blt (v := .ty "list") (by rfl) T.b_list (by rfl) (fun _ _ => (by rfl)) (by decide) (by decide)) sa_nil (star_cons (by rfl))) (star_cons (by rfl))) sk_nil (OC.of o_isi (fun _ _ => kpr_blt))) (by rfl)) (st_or1 (st_cmp o_ne (se_call (nam_blt (by rfl) T.b_isinstance (by rfl) (by decide) (by decide)) (by rfl) (by rfl) (sa_cons (se_var (i := 0) (by rfl) (by decide) (by decide)) (sa_cons (se_blt (v := .ty "tuple") (by rfl) T.b_tuple (by rfl) (fun _ _ => (by rfl)) (by decide) (by decide)) sa_nil (star_cons (by rfl))) (star_cons (by rfl))) sk_nil (OC.of o_isi (fun _ _ => kpr_blt))) (se_call (nam_blt (by rfl) T.b_isinstance (by rfl) (by decide) (by decide)) (by rfl) (by rfl) (sa_cons (se_var (i := 1) (by rfl) (by decide) (by decide)) (sa_cons (se_blt (v := .ty "tuple") (by rfl) T.b_tuple (by rfl) (fun _ _ => (by rfl)) (by decide) (by decide)) sa_nil (star_cons (by rfl))) (star_cons (by rfl))) sk_nil (OC.of o_isi (fun _ _ => kpr_blt))) (by rfl))))).st (sb_cons (ss_ret se_bl) sb_nil) sb_nil) (sb_cons (ss_ret (se_and (se_cmp o_eq (se_call (nam_blt (by rfl) T.b_len (by rfl) (by decide) (by decide)) (by rfl) (by rfl) (sa_cons (se_var (i := 0) (by rfl) (by decide) (by decide)) sa_nil (star_cons (by rfl))) sk_nil (OC.of o_len (fun _ _ => kpr_blt))) (se_call (nam_blt (by rfl) T.b_len (by rfl) (by decide) (by decide)) (by rfl) (by rfl) (sa_cons (se_var (i := 1) (by rfl) (by decide) (by decide)) sa_nil (star_cons (by rfl))) sk_nil (OC.of o_len (fun _ _ => kpr_blt))) (by rfl)) (se_bool1 (se_call (nam_blt (by rfl) T.b_all (by rfl) (by decide) (by decide)) (by rfl) (by rfl) (sa_cons (se_lc 80 (by rfl) (si_call (nam_blt (by rfl) T.b_zip (by rfl) (by decide) (by decide)) (by rfl) (sa_cons (se_var (i := 0) (by rfl) (by decide) (by decide)) (sa_cons (se_var (i := 1) (by rfl) (by decide) (by decide)) sa_nil (star_cons (by rfl))) (star_cons (by rfl))) it_zip) (blk_by (Nb := ["mine", "theirs"]) (by rfl)) (fun cl C => (sg_tup (by rfl) (sgs_cons (sg_name (i := 0) (by rfl) (.inl (by rfl))) (sgs_cons (sg_name (i := 1) (by rfl) (.inl (by rfl))) sgs_nil (by rfl)) (by rfl)) (by rfl))) (fun cl C => sts_nil) (fun cl C => (se_call (nam_glob (by rfl) T.d__law_same.mg (by decide)) (by rfl) (by rfl) (sa_cons (se_var (i := 0) (by rfl) (by decide) (by decide)) (sa_cons (se_var (i := 1) (by rfl) (by decide) (by decide)) sa_nil (star_cons (by rfl))) (star_cons (by rfl))) sk_nil (T.d__law_same.oc (ih) (hr.mono (by omega)) (kb__law_same_2_ T)))) (fun _ => (by rfl))) sa_nil (star_cons (by rfl))) sk_nil (OC.of (o_all (by rfl)) (fun _ _ => kpr_blt)))))) sb_nil)) sb_nil) (sb_cons (ss_if (st_plain (se_call (nam_blt (by rfl) T.b_isinstance (by rfl) (by decide) (by decide)) (by rfl) (by rfl) (sa_cons (se_var (i := 1) (by rfl) (by decide) (by decide)) (sa_cons (se_blt (v := .ty "dict") (by rfl) T.b_dict (by rfl) (fun _ _ => (by rfl)) (by decide) (by decide)) sa_nil (star_cons (by rfl))) (star_cons (by rfl))) sk_nil (OC.of o_isi (fun _ _ => kpr_blt))) (fun _ => (by rfl))) (sb_cons (ss_ret (se_and (se_call (nam_blt (by rfl) T.b_isinstance (by rfl) (by decide) (by decide)) (by rfl) (by rfl) (sa_cons (se_var (i := 0) (by rfl) (by decide) (by decide)) (sa_cons (se_blt (v := .ty "dict") (by rfl) T.b_dict (by rfl) (fun _ _ => (by rfl)) (by decide) (by decide)) sa_nil (star_cons (by rfl))) (star_cons (by rfl))) sk_nil (OC.of o_isi (fun _ _ => kpr_blt))) (se_bool1 (se_call (nam_glob (by rfl) T.d__law_same.mg (by decide)) (by rfl) (by rfl) (sa_cons (se_items (by rfl) (se_var (i := 0) (by rfl) (by decide) (by decide)) (nam_blt (by rfl) T.b_list (by rfl) (by decide) (by decide)) (by rfl) (by rfl)) (sa_cons (se_items (by rfl) (se_var (i := 1) (by rfl) (by decide) (by decide)) (nam_blt (by rfl) T.b_list (by rfl) (by decide) (by decide)) (by rfl) (by rfl)) sa_nil (star_cons (by rfl))) (star_cons (by rfl))) sk_nil (T.d__law_same.oc (ih) (hr.mono (by omega)) (kb__law_same_2_ T)))))) sb_nil) sb_nil) (sb_cons (ss_if ((st_or (st_plain (se_call (nam_blt (by rfl) T.b_isinstance (by rfl) (by decide) (by decide)) (by rfl) (by rfl) (sa_cons (se_var (i := 1) (by rfl) (by decide) (by decide)) (sa_cons (se_blt (v := .ty "bool") (by rfl) T.b_bool (by rfl) (fun _ _ => (by rfl)) (by decide) (by decide)) sa_nil (star_cons (by rfl))) (star_cons (by rfl))) sk_nil (OC.of o_isi (fun _ _ => kpr_blt))) (fun _ => (by rfl))) (st_or1 (st_plain (se_call (nam_blt (by rfl) T.b_isinstance (by rfl) (by decide) (by decide)) (by rfl) (by rfl) (sa_cons (se_var (i := 0) (by rfl) (by decide) (by decide)) (sa_cons (se_blt (v := .ty "bool") (by rfl) T.b_bool (by rfl) (fun _ _ => (by rfl)) (by decide) (by decide)) sa_nil (star_cons (by rfl))) (star_cons (by rfl))) sk_nil (OC.of o_isi (fun _ _ => kpr_blt))) (fun _ => (by rfl)))))).st (sb_cons (ss_ret (se_and (se_call (nam_blt (by rfl) T.b_isinstance (by rfl) (by decide) (by decide)) (by rfl) (by rfl) (sa_cons (se_var (i := 1) (by rfl) (by decide) (by decide)) (sa_cons (se_blt (v := .ty "bool") (by rfl) T.b_bool (by rfl) (fun _ _ => (by rfl)) (by decide) (by decide)) sa_nil (star_cons (by rfl))) (star_cons (by rfl))) sk_nil (OC.of o_isi (fun _ _ => kpr_blt))) (se_and (se_call (nam_blt (by rfl) T.b_isinstance (by rfl) (by decide) (by decide)) (by rfl) (by rfl) (sa_cons (se_var (i := 0) (by rfl) (by decide) (by decide)) (sa_cons (se_blt (v := .ty "bool") (by rfl) T.b_bool (by rfl) (fun _ _ => (by rfl)) (by decide) (by decide)) sa_nil (star_cons (by rfl))) (star_cons (by rfl))) sk_nil (OC.of o_isi (fun _ _ => kpr_blt))) (se_bool1 (se_cmp o_eq (se_var (i := 0) (by rfl) (by decide) (by decide)) (se_var (i := 1) (by rfl) (by decide) (by decide)) (by rfl)))))) sb_nil) sb_nil) (sb_cons (ss_if ((st_or (st_cmp o_is (se_var (i := 1) (by rfl) (by decide) (by decide)) se_non (by rfl)) (st_or1 (st_cmp o_is (se_var (i := 0) (by rfl) (by decide) (by decide)) se_non (by rfl))))).st (sb_cons (ss_ret (se_and (se_cmp o_is (se_var (i := 1) (by rfl) (by decide) (by decide)) se_non (by rfl)) (se_bool1 (se_cmp o_is (se_var (i := 0) (by rfl) (by decide) (by decide)) se_non (by rfl))))) sb_nil) sb_nil) (sb_cons (ss_if ((st_or (st_cmp o_ne (se_call (nam_blt (by rfl) T.b_isinstance (by rfl) (by decide) (by decide)) (by rfl) (by rfl) (sa_cons (se_var (i := 1) (by rfl) (by decide) (by decide)) (sa_cons (se_blt (v := .ty "int") (by rfl) T.b_int (by rfl) (fun _ _ => (by rfl)) (by decide) (by decide)) sa_nil (star_cons (by rfl))) (star_cons (by rfl))) sk_nil (OC.of o_isi (fun _ _ => kpr_blt))) (se_call (nam_blt (by rfl) T.b_isinstance (by rfl) (by decide) (by decide)) (by rfl) (by rfl) (sa_cons (se_var (i := 0) (by rfl) (by decide) (by decide)) (sa_cons (se_blt (v := .ty "int") (by rfl) T.b_int (by rfl) (fun _ _ => (by rfl)) (by decide) (by decide)) sa_nil (star_cons (by rfl))) (star_cons (by rfl))) sk_nil (OC.of o_isi (fun _ _ => kpr_blt))) (by rfl)) (st_or1 (st_cmp o_ne (se_call (nam_blt (by rfl) T.b_isinstance (by rfl) (by decide) (by decide)) (by rfl) (by rfl) (sa_cons (se_var (i := 1) (by rfl) (by decide) (by decide)) (sa_cons (se_blt (v := .ty "str") (by rfl) T.b_str (by rfl) (fun _ _ => (by rfl)) (by decide) (by decide)) sa_nil (star_cons (by rfl))) (star_cons (by rfl))) sk_nil (OC.of o_isi (fun _ _ => kpr_blt))) (se_call (nam_blt (by rfl) T.b_isinstance (by rfl) (by decide) (by decide)) (by rfl) (by rfl) (sa_cons (se_var (i := 0) (by rfl) (by decide) (by decide)) (sa_cons (se_blt (v := .ty "str") (by rfl) T.b_str (by rfl) (fun _ _ => (by rfl)) (by decide) (by decide)) sa_nil (star_cons (by rfl))) (star_cons (by rfl))) sk_nil (OC.of o_isi (fun _ _ => kpr_blt))) (by rfl))))).st (sb_cons (ss_ret se_bl) sb_nil) sb_nil) (sb_cons (ss_ret (se_and (se_not (se_call (nam_blt (by rfl) T.b_isinstance (by rfl) (by decide) (by decide)) (by rfl) (by rfl) (sa_cons (se_var (i := 0) (by rfl) (by decide) (by decide)) (sa_cons (se_tup (sa_cons (se_blt (v := .ty "list") (by rfl) T.b_list (by rfl) (fun _ _ => (by rfl)) (by decide) (by decide)) (sa_cons (se_blt (v := .ty "tuple") (by rfl) T.b_tuple (by rfl) (fun _ _ => (by rfl)) (by decide) (by decide)) (sa_cons (se_blt (v := .ty "dict") (by rfl) T.b_dict (by rfl) (fun _ _ => (by rfl)) (by decide) (by decide)) sa_nil (star_cons (by rfl))) (star_cons (by rfl))) (star_cons (by rfl)))) sa_nil (star_cons (by rfl))) (star_cons (by rfl))) sk_nil (OC.of o_isi (fun _ _ => kpr_blt)))) (se_bool1 (se_cmp o_eq (se_var (i := 0) (by rfl) (by decide) (by decide)) (se_var (i := 1) (by rfl) (by decide) (by decide)) (by rfl))))) sb_nil))))))
def f__law_same : List D → Store → Res D := frm TT (r__law_same 8)
theorem ff__law_same {G : Gl} (T : Txt G) : FnZ G 12 306 (fdK G.K 306) ["found", "due"] f__law_same := (fz__law_same T 8).frm TT
theorem kb__law_met_1_ {G : Gl} (T : Txt G) : KB (fdK G.K 332) ["ask"] 1 [] [0] := T.d__law_met.kb fun _ _ _ _ _ => ⟨rfl, fun us ws h1 h2 => match us, h1 with
  | [a0], _ => match ws, h2 with
    | [], _ => rfl⟩
theorem sc__law_all_met : FnScope ["asks", "due"] ["asks", "due"] (defScope (top 48)) := ⟨rfl, rfl, rfl, by decide +kernel, rfl, by decide +kernel, by decide +kernel⟩
def v__law_all_met : SV := (bCons (sRet (eCall (lCons (eLc (iVal (eV 0)) [none] (gName 0) tYes (eCall (lCons (eV 0) lNil) lNil (bindR 1 0 [0] r__law_met)) 80) (lCons (e2 rMul (eLst (lCons (eV 1) lNil)) (eCall (lCons (eV 0) lNil) lNil (fun vs _ m => rLen vs m))) lNil)) lNil (bindR 2 0 [0, 1] f__law_same))) bNil)
def r__law_all_met : List D → Store → Res D := fnR [false, false] v__law_all_met
theorem fz__law_all_met {G : Gl} (T : Txt G) : FnZ G 14 344 (fdK G.K 344) ["asks", "due"] r__law_all_met :=
  T.d__law_all_met.fn (k := 13) (bv := v__law_all_met) (nb := [false, false]) T.ok sc__law_all_met rfl (hbx_by (by decide +kernel)) fun A outer L c0 hr => (sb_cons (ss_ret (se_call (nam_glob (by rfl) T.d__law_same.mg (by decide)) (by rfl) (by rfl) (sa_cons (se_lc 80 (by rfl) (si_val (by rfl) (se_var (i := 0) (by rfl) (by decide) (by decide))) (blk_by (Nb := ["ask"]) (by rfl)) (fun cl C => (sg_name (i := 0) (by rfl) (.inl (by rfl)))) (fun cl C => sts_nil) (fun cl C => (se_call (nam_glob (by rfl) T.d__law_met.mg (by decide)) (by rfl) (by rfl) (sa_cons (se_var (i := 0) (by rfl) (by decide) (by decide)) sa_nil (star_cons (by rfl))) sk_nil (T.d__law_met.oc (fz__law_met T) (hr.mono (by decide)) (kb__law_met_1_ T)))) (fun _ => (by rfl))) (sa_cons (se_bin o_mul (se_lst (sa_cons (se_var (i := 1) (by rfl) (by decide) (by decide)) sa_nil (star_cons (by rfl)))) (se_call (nam_blt (by rfl) T.b_len (by rfl) (by decide) (by decide)) (by rfl) (by rfl) (sa_cons (se_var (i := 0) (by rfl) (by decide) (by decide)) sa_nil (star_cons (by rfl))) sk_nil (OC.of o_len (fun _ _ => kpr_blt)))) sa_nil (star_cons (by rfl))) (star_cons (by rfl))) sk_nil (T.d__law_same.oc (ff__law_same T) (hr.mono (by decide)) (kb__law_same_2_ T)))) sb_nil)
theorem sc__law_asks : FnScope ["web", "goal", "found"] ["web", "goal"] (defScope (top 47)) := ⟨rfl, rfl, rfl, by decide +kernel, rfl, by decide +kernel, by decide +kernel⟩
def v__law_asks : SV := (bCons (sAsg (eLst (lCons (eLam 0 0 0 [0, 1]) lNil)) (gName 2)) (bCons (sDrop (eMeth "list" (eV 2) (lCons (eLam 0 0 1 [0, 1]) lNil) rAppend)) (bCons (sDrop (eMeth "list" (eV 2) (lCons (eLam 0 0 2 [0, 1]) lNil) rAppend)) (bCons (sDrop (eMeth "list" (eV 2) (lCons (eLam 0 0 3 [0, 1]) lNil) rAppend)) (bCons (sDrop (eMeth "list" (eV 2) (lCons (eLam 0 0 4 [0, 1]) lNil) rAppend)) (bCons (sRet (e2 rAdd (eV 2) (eLst (lCons (eLam 0 0 5 [0, 1]) lNil)))) bNil))))))
def r__law_asks : List D → Store → Res D := fnR [true, true, false] v__law_asks
theorem fz__law_asks {G : Gl} (T : Txt G) : FnZ G 4 339 (fdK G.K 339) ["web", "goal"] r__law_asks :=
  T.d__law_asks.fn (k := 3) (bv := v__law_asks) (nb := [true, true, false]) T.ok sc__law_asks rfl (hbx_by (by decide +kernel)) fun A outer L c0 hr => (sb_cons (ss_asg (se_lst (sa_cons (se_lam (tb := 0) (t := 0) (l := 0) (fr := [0, 1]) (T.lam_0) (T.nms_0) T.tab__law_asks (by rfl) (by rfl) (by rfl) (by decide)) sa_nil (star_cons (by rfl)))) (sg_name (i := 2) (by rfl) (.inl (by rfl))) (by rfl) (by rfl) (by rfl)) (sb_cons (ss_expr (se_meth F.plainAttrs_list F.slot_list_append F.type_list_append (by decide) (se_var (i := 2) (by rfl) (by decide) (by decide)) (by rfl) (sa_cons (se_lam (tb := 0) (t := 0) (l := 1) (fr := [0, 1]) (T.lam_1) (T.nms_0) T.tab__law_asks (by rfl) (by rfl) (by rfl) (by decide)) sa_nil (star_cons (by rfl))) m_append (by rfl) (by rfl) (by rfl)) (by rfl)) (sb_cons (ss_expr (se_meth F.plainAttrs_list F.slot_list_append F.type_list_append (by decide) (se_var (i := 2) (by rfl) (by decide) (by decide)) (by rfl) (sa_cons (se_lam (tb := 0) (t := 0) (l := 2) (fr := [0, 1]) (T.lam_2) (T.nms_0) T.tab__law_asks (by rfl) (by rfl) (by rfl) (by decide)) sa_nil (star_cons (by rfl))) m_append (by rfl) (by rfl) (by rfl)) (by rfl)) (sb_cons (ss_expr (se_meth F.plainAttrs_list F.slot_list_append F.type_list_append (by decide) (se_var (i := 2) (by rfl) (by decide) (by decide)) (by rfl) (sa_cons (se_lam (tb := 0) (t := 0) (l := 3) (fr := [0, 1]) (T.lam_3) (T.nms_0) T.tab__law_asks (by rfl) (by rfl) (by rfl) (by decide)) sa_nil (star_cons (by rfl))) m_append (by rfl) (by rfl) (by rfl)) (by rfl)) (sb_cons (ss_expr (se_meth F.plainAttrs_list F.slot_list_append F.type_list_append (by decide) (se_var (i := 2) (by rfl) (by decide) (by decide)) (by rfl) (sa_cons (se_lam (tb := 0) (t := 0) (l := 4) (fr := [0, 1]) (T.lam_4) (T.nms_0) T.tab__law_asks (by rfl) (by rfl) (by rfl) (by decide)) sa_nil (star_cons (by rfl))) m_append (by rfl) (by rfl) (by rfl)) (by rfl)) (sb_cons (ss_ret (se_bin o_add (se_var (i := 2) (by rfl) (by decide) (by decide)) (se_lst (sa_cons (se_lam (tb := 0) (t := 0) (l := 5) (fr := [0, 1]) (T.lam_5) (T.nms_0) T.tab__law_asks (by rfl) (by rfl) (by rfl) (by decide)) sa_nil (star_cons (by rfl)))))) sb_nil))))))
theorem sc__law_is_very : FnScope ["word", "ask", "found", "odd"] ["word", "ask"] (defScope (top 43)) := ⟨rfl, rfl, rfl, by decide +kernel, rfl, by decide +kernel, by decide +kernel⟩
def v__law_is_very : SV := (bCons (sAsg (eLst (lCons (eC (.str [111, 100, 100])) lNil)) (gName 3)) (bCons (sAsg (eCall (lCons (eLam 1 1 6 [3, 1]) lNil) lNil (bindR 1 0 [0] r__law_met)) (gName 2)) (bCons (sDrop (eMeth "list" (eV 3) (lCons (eC (.str [108, 97, 116, 101])) lNil) rAppend)) (bCons (sRet (eCall (lCons (eV 2) (lCons (eTup (lCons (eV 0) (lCons (eV 3) lNil))) lNil)) lNil (bindR 2 0 [0, 1] f__law_same))) bNil))))
def r__law_is_very : List D → Store → Res D := fnR [false, true, false, true] v__law_is_very
theorem fz__law_is_very {G : Gl} (T : Txt G) : FnZ G 14 313 (fdK G.K 313) ["word", "ask"] r__law_is_very :=
  T.d__law_is_very.fn (k := 13) (bv := v__law_is_very) (nb := [false, true, false, true]) T.ok sc__law_is_very rfl (hbx_by (by decide +kernel)) fun A outer L c0 hr => (sb_cons (ss_asg (se_lst (sa_cons (se_strn (n := [111, 100, 100]) (by decide)) sa_nil (star_cons (by rfl)))) (sg_name (i := 3) (by rfl) (.inr ⟨(by rfl), (by rfl)⟩)) (by rfl) (by rfl) (by rfl)) (sb_cons (ss_asg (se_call (nam_glob (by rfl) T.d__law_met.mg (by decide)) (by rfl) (by rfl) (sa_cons (se_lam (tb := 1) (t := 1) (l := 6) (fr := [3, 1]) (T.lam_6) (T.nms_1) T.tab__law_is_very (by rfl) (by rfl) (by rfl) (by decide)) sa_nil (star_cons (by rfl))) sk_nil (T.d__law_met.oc (fz__law_met T) (hr.mono (by decide)) (kb__law_met_1_ T))) (sg_name (i := 2) (by rfl) (.inl (by rfl))) (by rfl) (by rfl) (by rfl)) (sb_cons (ss_expr (se_meth F.plainAttrs_list F.slot_list_append F.type_list_append (by decide) (se_var (i := 3) (by rfl) (by decide) (by decide)) (by rfl) (sa_cons (se_strn (n := [108, 97, 116, 101]) (by decide)) sa_nil (star_cons (by rfl))) m_append (by rfl) (by rfl) (by rfl)) (by rfl)) (sb_cons (ss_ret (se_call (nam_glob (by rfl) T.d__law_same.mg (by decide)) (by rfl) (by rfl) (sa_cons (se_var (i := 2) (by rfl) (by decide) (by decide)) (sa_cons (se_tup (sa_cons (se_var (i := 0) (by rfl) (by decide) (by decide)) (sa_cons (se_var (i := 3) (by rfl) (by decide) (by decide)) sa_nil (star_cons (by rfl))) (star_cons (by rfl)))) sa_nil (star_cons (by rfl))) (star_cons (by rfl))) sk_nil (T.d__law_same.oc (ff__law_same T) (hr.mono (by decide)) (kb__law_same_2_ T)))) sb_nil))))
theorem sc__law_stream : FnScope ["script"] ["script"] (defScope (top 40)) := ⟨rfl, rfl, rfl, by decide +kernel, rfl, by decide +kernel, by decide +kernel⟩
def v__law_stream : SV := (bCons (sRet (eLst (lCons (eCall (lCons (eV 0) lNil) lNil (fun vs _ m => rLst vs m)) (lCons (eC (.int 0)) (lCons (eC (.int 0)) (lCons (eC (.int 17)) lNil)))))) bNil)
def r__law_stream : List D → Store → Res D := fnR [false] v__law_stream
theorem fz__law_stream {G : Gl} (T : Txt G) : FnZ G 4 294 (fdK G.K 294) ["script"] r__law_stream :=
  T.d__law_stream.fn (k := 3) (bv := v__law_stream) (nb := [false]) T.ok sc__law_stream rfl (hbx_by (by decide +kernel)) fun A outer L c0 hr => (sb_cons (ss_ret (se_lst (sa_cons (se_call (nam_blt (by rfl) T.b_list (by rfl) (by decide) (by decide)) (by rfl) (by rfl) (sa_cons (se_var (i := 0) (by rfl) (by decide) (by decide)) sa_nil (star_cons (by rfl))) sk_nil (OC.of o_lst (fun _ _ => kpr_ty))) (sa_cons se_int (sa_cons se_int (sa_cons se_int sa_nil (star_cons (by rfl))) (star_cons (by rfl))) (star_cons (by rfl))) (star_cons (by rfl))))) sb_nil)
theorem sc__law_u_odd_webs : FnScope ["odds"] [] (defScope (top 45)) := ⟨rfl, rfl, rfl, by decide +kernel, rfl, by decide +kernel, by decide +kernel⟩
def v__law_u_odd_webs : SV := (bCons (sAsg (eLst (lCons (eC .non) (lCons (eC (.int 5)) (lCons (eC (.str [97, 98])) (lCons eDct0 (lCons (eLst lNil) (lCons (eTup lNil) (lCons (eTup (lCons (eC (.int 0)) (lCons (eLst lNil) lNil))) (lCons (eTup (lCons (eC (.int 1)) lNil)) (lCons (eTup (lCons (eC (.bl true)) (lCons (eLst lNil) lNil))) (lCons (eTup (lCons (eC (.int 2)) (lCons (eC .non) lNil))) (lCons (eTup (lCons (eC (.int 2)) (lCons (eLst (lCons (eTup (lCons (eC (.int 1)) (lCons (eC (.int 0)) lNil))) lNil)) lNil))) (lCons (eTup (lCons (eC (.int 2)) (lCons (eLst (lCons (eTup (lCons (eC (.int 0)) (lCons (eC (.int 2)) lNil))) lNil)) lNil))) (lCons (eTup (lCons (eC (.int 2)) (lCons (eLst (lCons (eTup (lCons (eC (.int 0)) (lCons (eC (.int 1)) lNil))) (lCons (eTup (lCons (eC (.int 0)) (lCons (eC (.int 0)) lNil))) lNil))) lNil))) (lCons (eTup (lCons (eC (.int 2)) (lCons (eLst (lCons (eTup (lCons (eC (.int 0)) (lCons (eC (.int 1)) lNil))) (lCons (eTup (lCons (eC (.int 0)) (lCons (eC (.int 1)) lNil))) lNil))) lNil))) lNil))))))))))))))) (gName 0)) (bCons (sRet (e2 rAdd (eV 0) (eLst (lCons (eTup (lCons (eC (.int 2)) (lCons (eLst (lCons (eTup (lCons (eC (.int 0)) (lCons (eC (.bl true)) lNil))) lNil)) lNil))) (lCons (eTup (lCons (eC (.int 2)) (lCons (eLst (lCons (eTup (lCons (eC (.int 0)) lNil)) lNil)) lNil))) (lCons (eTup (lCons (eC (.int 2)) (lCons (eLst (lCons (eLst (lCons (eC (.int 0)) (lCons (eC (.int 1)) (lCons (eC (.int 1)) lNil)))) lNil)) lNil))) (lCons (eTup (lCons (eC (.int 2)) (lCons (eLst (lCons (eC .non) lNil)) lNil))) (lCons (eTup (lCons (eC (.str [50])) (lCons (eLst lNil) lNil))) (lCons (eTup (lCons (eC (.int 2)) (lCons (eLst lNil) (lCons (eLst lNil) lNil)))) (lCons (eTup (lCons (eNeg (eC (.int 1))) (lCons (eLst lNil) lNil))) lNil)))))))))) bNil))
def r__law_u_odd_webs : List D → Store → Res D := fnR [false] v__law_u_odd_webs
theorem fz__law_u_odd_webs {G : Gl} (T : Txt G) : FnZ G 4 325 (fdK G.K 325) [] r__law_u_odd_webs :=
  T.d__law_u_odd_webs.fn (k := 3) (bv := v__law_u_odd_webs) (nb := [false]) T.ok sc__law_u_odd_webs rfl (hbx_by (by decide +kernel)) fun A outer L c0 hr => (sb_cons (ss_asg (se_lst (sa_cons se_non (sa_cons se_int (sa_cons (se_strn (n := [97, 98]) (by decide)) (sa_cons se_dct0 (sa_cons (se_lst sa_nil) (sa_cons (se_tup sa_nil) (sa_cons (se_tup (sa_cons se_int (sa_cons (se_lst sa_nil) sa_nil (star_cons (by rfl))) (star_cons (by rfl)))) (sa_cons (se_tup (sa_cons se_int sa_nil (star_cons (by rfl)))) (sa_cons (se_tup (sa_cons se_bl (sa_cons (se_lst sa_nil) sa_nil (star_cons (by rfl))) (star_cons (by rfl)))) (sa_cons (se_tup (sa_cons se_int (sa_cons se_non sa_nil (star_cons (by rfl))) (star_cons (by rfl)))) (sa_cons (se_tup (sa_cons se_int (sa_cons (se_lst (sa_cons (se_tup (sa_cons se_int (sa_cons se_int sa_nil (star_cons (by rfl))) (star_cons (by rfl)))) sa_nil (star_cons (by rfl)))) sa_nil (star_cons (by rfl))) (star_cons (by rfl)))) (sa_cons (se_tup (sa_cons se_int (sa_cons (se_lst (sa_cons (se_tup (sa_cons se_int (sa_cons se_int sa_nil (star_cons (by rfl))) (star_cons (by rfl)))) sa_nil (star_cons (by rfl)))) sa_nil (star_cons (by rfl))) (star_cons (by rfl)))) (sa_cons (se_tup (sa_cons se_int (sa_cons (se_lst (sa_cons (se_tup (sa_cons se_int (sa_cons se_int sa_nil (star_cons (by rfl))) (star_cons (by rfl)))) (sa_cons (se_tup (sa_cons se_int (sa_cons se_int sa_nil (star_cons (by rfl))) (star_cons (by rfl)))) sa_nil (star_cons (by rfl))) (star_cons (by rfl)))) sa_nil (star_cons (by rfl))) (star_cons (by rfl)))) (sa_cons (se_tup (sa_cons se_int (sa_cons (se_lst (sa_cons (se_tup (sa_cons se_int (sa_cons se_int sa_nil (star_cons (by rfl))) (star_cons (by rfl)))) (sa_cons (se_tup (sa_cons se_int (sa_cons se_int sa_nil (star_cons (by rfl))) (star_cons (by rfl)))) sa_nil (star_cons (by rfl))) (star_cons (by rfl)))) sa_nil (star_cons (by rfl))) (star_cons (by rfl)))) sa_nil (star_cons (by rfl))) (star_cons (by rfl))) (star_cons (by rfl))) (star_cons (by rfl))) (star_cons (by rfl))) (star_cons (by rfl))) (star_cons (by rfl))) (star_cons (by rfl))) (star_cons (by rfl))) (star_cons (by rfl))) (star_cons (by rfl))) (star_cons (by rfl))) (star_cons (by rfl))) (star_cons (by rfl)))) (sg_name (i := 0) (by rfl) (.inl (by rfl))) (by rfl) (by rfl) (by rfl)) (sb_cons (ss_ret (se_bin o_add (se_var (i := 0) (by rfl) (by decide) (by decide)) (se_lst (sa_cons (se_tup (sa_cons se_int (sa_cons (se_lst (sa_cons (se_tup (sa_cons se_int (sa_cons se_bl sa_nil (star_cons (by rfl))) (star_cons (by rfl)))) sa_nil (star_cons (by rfl)))) sa_nil (star_cons (by rfl))) (star_cons (by rfl)))) (sa_cons (se_tup (sa_cons se_int (sa_cons (se_lst (sa_cons (se_tup (sa_cons se_int sa_nil (star_cons (by rfl)))) sa_nil (star_cons (by rfl)))) sa_nil (star_cons (by rfl))) (star_cons (by rfl)))) (sa_cons (se_tup (sa_cons se_int (sa_cons (se_lst (sa_cons (se_lst (sa_cons se_int (sa_cons se_int (sa_cons se_int sa_nil (star_cons (by rfl))) (star_cons (by rfl))) (star_cons (by rfl)))) sa_nil (star_cons (by rfl)))) sa_nil (star_cons (by rfl))) (star_cons (by rfl)))) (sa_cons (se_tup (sa_cons se_int (sa_cons (se_lst (sa_cons se_non sa_nil (star_cons (by rfl)))) sa_nil (star_cons (by rfl))) (star_cons (by rfl)))) (sa_cons (se_tup (sa_cons (se_strn (n := [50]) (by decide)) (sa_cons (se_lst sa_nil) sa_nil (star_cons (by rfl))) (star_cons (by rfl)))) (sa_cons (se_tup (sa_cons se_int (sa_cons (se_lst sa_nil) (sa_cons (se_lst sa_nil) sa_nil (star_cons (by rfl))) (star_cons (by rfl))) (star_cons (by rfl)))) (sa_cons (se_tup (sa_cons (se_neg se_int) (sa_cons (se_lst sa_nil) sa_nil (star_cons (by rfl))) (star_cons (by rfl)))) sa_nil (star_cons (by rfl))) (star_cons (by rfl))) (star_cons (by rfl))) (star_cons (by rfl))) (star_cons (by rfl))) (star_cons (by rfl))) (star_cons (by rfl)))))) sb_nil))
theorem sc__law_draw : FnScope ["stream", "many", "cell", "digit", "mixed"] ["stream", "many"] (defScope (top 41)) := ⟨rfl, rfl, rfl, by decide +kernel, rfl, by decide +kernel, by decide +kernel⟩
def v__law_draw : SV := (bCons (sAsg (e2 rAdd (e2 rIx (eV 0) (eC (.int 2))) (eC (.int 1))) (gSub (eV 0) (eC (.int 2)))) (bCons (sWhile (tAnd (ts (e2 rEq (e2 rIx (eV 0) (eC (.int 1))) (eC (.int 0)))) (ts (e2 rNe (e2 rIx (eV 0) (eC (.int 0))) (eLst lNil)))) (bCons (sAsg (eCall (lCons (eMeth "list" (e2 rIx (eV 0) (eC (.int 0))) (lCons (eC (.int 0)) lNil) rPop) lNil) lNil (fun vs _ m => rAbs vs m)) (gName 2)) (bCons (sAsg (e2 rMod (eCall (lCons (e2 rAdd (e2 rAdd (e2 rMul (e2 rIx (eV 0) (eC (.int 3))) (eC (.int 8191))) (eV 2)) (eC (.int 3))) lNil) lNil (fun vs _ m => rInt vs m)) (eC (.int 2147483647))) (gSub (eV 0) (eC (.int 3)))) (bCons (sAsg (eIf (ts (e2 (rLtI pGe) (eV 2) (e2 rPow (eC (.int 10)) (eC (.int 18))))) (eV 2) (eC (.int 0))) (gSub (eV 0) (eC (.int 1)))) bNil))) 80) (bCons (sIf (ts (e2 (rLtI pGt) (e2 rIx (eV 0) (eC (.int 1))) (eC (.int 0)))) (bCons (sAsg (e2 rMod (eCall (lCons (e2 rIx (eV 0) (eC (.int 1))) lNil) lNil (fun vs _ m => rInt vs m)) (eV 1)) (gName 3)) (bCons (sAsg (e2 rFdv (e2 rIx (eV 0) (eC (.int 1))) (eV 1)) (gSub (eV 0) (eC (.int 1)))) (bCons (sRet (eV 3)) bNil))) bNil) (bCons (sAsg (e2 rMod (eCall (lCons (e2 rPow (e2 rAdd (e2 rAdd (e2 rIx (eV 0) (eC (.int 3))) (e2 rMul (eC (.int 7919)) (e2 rIx (eV 0) (eC (.int 2))))) (eC (.int 104729))) (eC (.int 5))) lNil) lNil (fun vs _ m => rInt vs m)) (eC (.int 2147483629))) (gName 4)) (bCons (sRet (e2 rMod (e2 rMod (eCall (lCons (e2 rPow (e2 rAdd (e2 rAdd (e2 rMul (eV 4) (eC (.int 48271))) (e2 rMul (eC (.int 30011)) (e2 rIx (eV 0) (eC (.int 2))))) (eC (.int 29))) (eC (.int 3))) lNil) lNil (fun vs _ m => rInt vs m)) (eC (.int 1000000007))) (eV 1))) bNil)))))
def r__law_draw : List D → Store → Res D := fnR [false, false, false, false, false] v__law_draw
theorem fz__law_draw {G : Gl} (T : Txt G) : FnZ G 4 301 (fdK G.K 301) ["stream", "many"] r__law_draw :=
  T.d__law_draw.fn (k := 3) (bv := v__law_draw) (nb := [false, false, false, false, false]) T.ok sc__law_draw rfl (hbx_by (by decide +kernel)) fun A outer L c0 hr => (sb_cons (ss_asg (se_bin o_add (se_ix (se_var (i := 0) (by rfl) (by decide) (by decide)) se_int (fun _ _ => (by rfl))) se_int) (sg_sub (se_var (i := 0) (by rfl) (by decide) (by decide)) se_int (fun _ => (by rfl))) (by rfl) (by rfl) (by rfl)) (sb_cons (ss_while 80 top_cx ((st_and (st_cmp o_eq (se_ix (se_var (i := 0) (by rfl) (by decide) (by decide)) se_int (fun _ _ => (by rfl))) se_int (by rfl)) (st_and1 (st_cmp o_ne (se_ix (se_var (i := 0) (by rfl) (by decide) (by decide)) se_int (fun _ _ => (by rfl))) (se_lst sa_nil) (by rfl))))).st (sb_cons (ss_asg (se_call (nam_blt (by rfl) T.b_abs (by rfl) (by decide) (by decide)) (by rfl) (by rfl) (sa_cons (se_meth F.plainAttrs_list F.slot_list_pop F.type_list_pop (by decide) (se_ix (se_var (i := 0) (by rfl) (by decide) (by decide)) se_int (fun _ _ => (by rfl))) (by rfl) (sa_cons se_int sa_nil (star_cons (by rfl))) m_pop (by rfl) (by rfl) (by rfl)) sa_nil (star_cons (by rfl))) sk_nil (OC.of o_abs (fun _ _ => kpr_blt))) (sg_name (i := 2) (by rfl) (.inl (by rfl))) (by rfl) (by rfl) (by rfl)) (sb_cons (ss_asg (se_bin o_mod (se_call (nam_blt (by rfl) T.b_int (by rfl) (by decide) (by decide)) (by rfl) (by rfl) (sa_cons (se_bin o_add (se_bin o_add (se_bin o_mul (se_ix (se_var (i := 0) (by rfl) (by decide) (by decide)) se_int (fun _ _ => (by rfl))) se_int) (se_var (i := 2) (by rfl) (by decide) (by decide))) se_int) sa_nil (star_cons (by rfl))) sk_nil (OC.of o_int (fun _ _ => kpr_ty))) se_int) (sg_sub (se_var (i := 0) (by rfl) (by decide) (by decide)) se_int (fun _ => (by rfl))) (by rfl) (by rfl) (by rfl)) (sb_cons (ss_asg (se_if (st_cmp o_geI (se_var (i := 2) (by rfl) (by decide) (by decide)) (se_bin o_pow se_int se_int) (by rfl)) (se_var (i := 2) (by rfl) (by decide) (by decide)) se_int) (sg_sub (se_var (i := 0) (by rfl) (by decide) (by decide)) se_int (fun _ => (by rfl))) (by rfl) (by rfl) (by rfl)) sb_nil)))) (sb_cons (ss_if (st_cmp o_gtI (se_ix (se_var (i := 0) (by rfl) (by decide) (by decide)) se_int (fun _ _ => (by rfl))) se_int (by rfl)) (sb_cons (ss_asg (se_bin o_mod (se_call (nam_blt (by rfl) T.b_int (by rfl) (by decide) (by decide)) (by rfl) (by rfl) (sa_cons (se_ix (se_var (i := 0) (by rfl) (by decide) (by decide)) se_int (fun _ _ => (by rfl))) sa_nil (star_cons (by rfl))) sk_nil (OC.of o_int (fun _ _ => kpr_ty))) (se_var (i := 1) (by rfl) (by decide) (by decide))) (sg_name (i := 3) (by rfl) (.inl (by rfl))) (by rfl) (by rfl) (by rfl)) (sb_cons (ss_asg (se_bin o_fdv (se_ix (se_var (i := 0) (by rfl) (by decide) (by decide)) se_int (fun _ _ => (by rfl))) (se_var (i := 1) (by rfl) (by decide) (by decide))) (sg_sub (se_var (i := 0) (by rfl) (by decide) (by decide)) se_int (fun _ => (by rfl))) (by rfl) (by rfl) (by rfl)) (sb_cons (ss_ret (se_var (i := 3) (by rfl) (by decide) (by decide))) sb_nil))) sb_nil) (sb_cons (ss_asg (se_bin o_mod (se_call (nam_blt (by rfl) T.b_int (by rfl) (by decide) (by decide)) (by rfl) (by rfl) (sa_cons (se_bin o_pow (se_bin o_add (se_bin o_add (se_ix (se_var (i := 0) (by rfl) (by decide) (by decide)) se_int (fun _ _ => (by rfl))) (se_bin o_mul se_int (se_ix (se_var (i := 0) (by rfl) (by decide) (by decide)) se_int (fun _ _ => (by rfl))))) se_int) se_int) sa_nil (star_cons (by rfl))) sk_nil (OC.of o_int (fun _ _ => kpr_ty))) se_int) (sg_name (i := 4) (by rfl) (.inl (by rfl))) (by rfl) (by rfl) (by rfl)) (sb_cons (ss_ret (se_bin o_mod (se_bin o_mod (se_call (nam_blt (by rfl) T.b_int (by rfl) (by decide) (by decide)) (by rfl) (by rfl) (sa_cons (se_bin o_pow (se_bin o_add (se_bin o_add (se_bin o_mul (se_var (i := 4) (by rfl) (by decide) (by decide)) se_int) (se_bin o_mul se_int (se_ix (se_var (i := 0) (by rfl) (by decide) (by decide)) se_int (fun _ _ => (by rfl))))) se_int) se_int) sa_nil (star_cons (by rfl))) sk_nil (OC.of o_int (fun _ _ => kpr_ty))) se_int) (se_var (i := 1) (by rfl) (by decide) (by decide)))) sb_nil)))))
theorem kb__law_draw_2_ {G : Gl} (T : Txt G) : KB (fdK G.K 301) ["stream", "many"] 2 [] [0, 1] := T.d__law_draw.kb fun _ _ _ _ _ => ⟨rfl, fun us ws h1 h2 => match us, h1 with
  | [a0, a1], _ => match ws, h2 with
    | [], _ => rfl⟩
theorem sc__law_u_web : FnScope ["stream", "most", "spots", "way", "dense", "ties", "one"] ["stream", "most"] (defScope (top 44)) := ⟨rfl, rfl, rfl, by decide +kernel, rfl, by decide +kernel, by decide +kernel⟩
def v__law_u_web : SV := (bCons (sAsg (eTup (lCons (e2 rAdd (eC (.int 1)) (eCall (lCons (eV 0) (lCons (eV 1) lNil)) lNil (bindR 2 0 [0, 1] r__law_draw))) (lCons (eCall (lCons (eV 0) (lCons (eC (.int 3)) lNil)) lNil (bindR 2 0 [0, 1] r__law_draw)) (lCons (e2 rAdd (eC (.int 2)) (eCall (lCons (eV 0) (lCons (eC (.int 3)) lNil)) lNil (bindR 2 0 [0, 1] r__law_draw))) lNil)))) (gTup 3 (gCons (gName 2) (gCons (gName 3) (gCons (gName 4) gNil))))) (bCons (sAsg (eLst lNil) (gName 5)) (bCons (sFor (iCall (lCons (eV 2) lNil) rRng) (gName 6) (bCons (sIf (tOr (ts (e2 rEq (eV 3) (eC (.int 0)))) (tAnd (ts (e2 rEq (eV 3) (eC (.int 2)))) (ts (e2 rEq (eCall (lCons (eV 0) (lCons (eC (.int 2)) lNil)) lNil (bindR 2 0 [0, 1] r__law_draw)) (eC (.int 0)))))) (bCons (sDrop (eMeth "list" (eV 5) (lCons (eTup (lCons (eV 6) (lCons (eV 6) lNil))) lNil) rAppend)) bNil) bNil) (bCons (sDrop (eMeth "list" (eV 5) (lCons (eLc (iCall (lCons (e2 rAdd (eV 6) (eC (.int 1))) (lCons (eV 2) lNil)) rRng) [none, (some 4), (some 6), (some 0)] (gName 0) (ts (e2 rEq (eCall (lCons (eV 3) (lCons (eV 1) lNil)) lNil (bindR 2 0 [0, 1] r__law_draw)) (eC (.int 0)))) (eTup (lCons (eV 2) (lCons (eV 0) lNil))) 80) lNil) rExtend)) bNil)) 80) (bCons (sRet (eTup (lCons (eV 2) (lCons (eCall (lCons (eV 5) lNil) lNil (fun vs _ m => rSrt2 vs m)) lNil)))) bNil))))
def r__law_u_web : List D → Store → Res D := fnR [false, false, false, false, false, false, false] v__law_u_web
theorem fz__law_u_web {G : Gl} (T : Txt G) : FnZ G 5 318 (fdK G.K 318) ["stream", "most"] r__law_u_web :=
  T.d__law_u_web.fn (k := 4) (bv := v__law_u_web) (nb := [false, false, false, false, false, false, false]) T.ok sc__law_u_web rfl (hbx_by (by decide +kernel)) fun A outer L c0 hr => (sb_cons (ss_asg (se_tup (sa_cons (se_bin o_add se_int (se_call (nam_glob (by rfl) T.d__law_draw.mg (by decide)) (by rfl) (by rfl) (sa_cons (se_var (i := 0) (by rfl) (by decide) (by decide)) (sa_cons (se_var (i := 1) (by rfl) (by decide) (by decide)) sa_nil (star_cons (by rfl))) (star_cons (by rfl))) sk_nil (T.d__law_draw.oc (fz__law_draw T) (hr.mono (by decide)) (kb__law_draw_2_ T)))) (sa_cons (se_call (nam_glob (by rfl) T.d__law_draw.mg (by decide)) (by rfl) (by rfl) (sa_cons (se_var (i := 0) (by rfl) (by decide) (by decide)) (sa_cons se_int sa_nil (star_cons (by rfl))) (star_cons (by rfl))) sk_nil (T.d__law_draw.oc (fz__law_draw T) (hr.mono (by decide)) (kb__law_draw_2_ T))) (sa_cons (se_bin o_add se_int (se_call (nam_glob (by rfl) T.d__law_draw.mg (by decide)) (by rfl) (by rfl) (sa_cons (se_var (i := 0) (by rfl) (by decide) (by decide)) (sa_cons se_int sa_nil (star_cons (by rfl))) (star_cons (by rfl))) sk_nil (T.d__law_draw.oc (fz__law_draw T) (hr.mono (by decide)) (kb__law_draw_2_ T)))) sa_nil (star_cons (by rfl))) (star_cons (by rfl))) (star_cons (by rfl)))) (sg_tup (by rfl) (sgs_cons (sg_name (i := 2) (by rfl) (.inl (by rfl))) (sgs_cons (sg_name (i := 3) (by rfl) (.inl (by rfl))) (sgs_cons (sg_name (i := 4) (by rfl) (.inr ⟨(by rfl), (by rfl)⟩)) sgs_nil (by rfl)) (by rfl)) (by rfl)) (by rfl)) (by rfl) (by rfl) (by rfl)) (sb_cons (ss_asg (se_lst sa_nil) (sg_name (i := 5) (by rfl) (.inl (by rfl))) (by rfl) (by rfl) (by rfl)) (sb_cons (ss_for 80 top_cx (by rfl) (si_call (nam_blt (by rfl) T.b_range (by rfl) (by decide) (by decide)) (by rfl) (sa_cons (se_var (i := 2) (by rfl) (by decide) (by decide)) sa_nil (star_cons (by rfl))) it_range) (sg_name (i := 6) (by rfl) (.inr ⟨(by rfl), (by rfl)⟩)) (sb_cons (ss_if ((st_or (st_cmp o_eq (se_var (i := 3) (by rfl) (by decide) (by decide)) se_int (by rfl)) (st_or1 ((st_and (st_cmp o_eq (se_var (i := 3) (by rfl) (by decide) (by decide)) se_int (by rfl)) (st_and1 (st_cmp o_eq (se_call (nam_glob (by rfl) T.d__law_draw.mg (by decide)) (by rfl) (by rfl) (sa_cons (se_var (i := 0) (by rfl) (by decide) (by decide)) (sa_cons se_int sa_nil (star_cons (by rfl))) (star_cons (by rfl))) sk_nil (T.d__law_draw.oc (fz__law_draw T) (hr.mono (by decide)) (kb__law_draw_2_ T))) se_int (by rfl))))).st))).st (sb_cons (ss_expr (se_meth F.plainAttrs_list F.slot_list_append F.type_list_append (by decide) (se_var (i := 5) (by rfl) (by decide) (by decide)) (by rfl) (sa_cons (se_tup (sa_cons (se_var (i := 6) (by rfl) (by decide) (by decide)) (sa_cons (se_var (i := 6) (by rfl) (by decide) (by decide)) sa_nil (star_cons (by rfl))) (star_cons (by rfl)))) sa_nil (star_cons (by rfl))) m_append (by rfl) (by rfl) (by rfl)) (by rfl)) sb_nil) sb_nil) (sb_cons (ss_expr (se_meth F.plainAttrs_list F.slot_list_extend F.type_list_extend (by decide) (se_var (i := 5) (by rfl) (by decide) (by decide)) (by rfl) (sa_cons (se_lc 80 (by rfl) (si_call (nam_blt (by rfl) T.b_range (by rfl) (by decide) (by decide)) (by rfl) (sa_cons (se_bin o_add (se_var (i := 6) (by rfl) (by decide) (by decide)) se_int) (sa_cons (se_var (i := 2) (by rfl) (by decide) (by decide)) sa_nil (star_cons (by rfl))) (star_cons (by rfl))) it_range) (blk_by (Nb := ["other", "dense", "one", "stream"]) (by rfl)) (fun cl C => (sg_name (i := 0) (by rfl) (.inl (by rfl)))) (fun cl C => (sts_one (st_cmp o_eq (se_call (nam_glob (by rfl) T.d__law_draw.mg (by decide)) (by rfl) (by rfl) (sa_cons (se_var (i := 3) (by rfl) (by decide) (by decide)) (sa_cons (se_var (i := 1) (by rfl) (by decide) (by decide)) sa_nil (star_cons (by rfl))) (star_cons (by rfl))) sk_nil (T.d__law_draw.oc (fz__law_draw T) (hr.mono (by decide)) (kb__law_draw_2_ T))) se_int (by rfl)))) (fun cl C => (se_tup (sa_cons (se_var (i := 2) (by rfl) (by decide) (by decide)) (sa_cons (se_var (i := 0) (by rfl) (by decide) (by decide)) sa_nil (star_cons (by rfl))) (star_cons (by rfl))))) (fun _ => (by rfl))) sa_nil (star_cons (by rfl))) m_extend (by rfl) (by rfl) (by rfl)) (by rfl)) sb_nil)) (fun _ => (by rfl))) (sb_cons (ss_ret (se_tup (sa_cons (se_var (i := 2) (by rfl) (by decide) (by decide)) (sa_cons (se_call (nam_blt (by rfl) T.b_sorted (by rfl) (by decide) (by decide)) (by rfl) (by rfl) (sa_cons (se_var (i := 5) (by rfl) (by decide) (by decide)) sa_nil (star_cons (by rfl))) sk_nil (OC.of (o_srt2 (by rfl)) (fun _ _ => kpr_blt))) sa_nil (star_cons (by rfl))) (star_cons (by rfl))))) sb_nil))))
theorem kb__law_is_very_2_ {G : Gl} (T : Txt G) : KB (fdK G.K 313) ["word", "ask"] 2 [] [0, 1] := T.d__law_is_very.kb fun _ _ _ _ _ => ⟨rfl, fun us ws h1 h2 => match us, h1 with
  | [a0, a1], _ => match ws, h2 with
    | [], _ => rfl⟩
theorem kb__law_all_met_2_ {G : Gl} (T : Txt G) : KB (fdK G.K 344) ["asks", "due"] 2 [] [0, 1] := T.d__law_all_met.kb fun _ _ _ _ _ => ⟨rfl, fun us ws h1 h2 => match us, h1 with
  | [a0, a1], _ => match ws, h2 with
    | [], _ => rfl⟩
theorem kb__law_u_odd_webs_0_ {G : Gl} (T : Txt G) : KB (fdK G.K 325) [] 0 [] [] := T.d__law_u_odd_webs.kb fun _ _ _ _ _ => ⟨rfl, fun us ws h1 h2 => match us, h1 with
  | [], _ => match ws, h2 with
    | [], _ => rfl⟩
theorem kb__law_asks_2_ {G : Gl} (T : Txt G) : KB (fdK G.K 339) ["web", "goal"] 2 [] [0, 1] := T.d__law_asks.kb fun _ _ _ _ _ => ⟨rfl, fun us ws h1 h2 => match us, h1 with
  | [a0, a1], _ => match ws, h2 with
    | [], _ => rfl⟩
theorem kb__law_u_web_2_ {G : Gl} (T : Txt G) : KB (fdK G.K 318) ["stream", "most"] 2 [] [0, 1] := T.d__law_u_web.kb fun _ _ _ _ _ => ⟨rfl, fun us ws h1 h2 => match us, h1 with
  | [a0, a1], _ => match ws, h2 with
    | [], _ => rfl⟩
theorem kb__law_stream_1_ {G : Gl} (T : Txt G) : KB (fdK G.K 294) ["script"] 1 [] [0] := T.d__law_stream.kb fun _ _ _ _ _ => ⟨rfl, fun us ws h1 h2 => match us, h1 with
  | [a0], _ => match ws, h2 with
    | [], _ => rfl⟩
theorem sc_law : FnScope ["script", "stream", "web", "asks", "odd", "tie"] ["script"] (defScope (top 49)) := ⟨rfl, rfl, rfl, by decide +kernel, rfl, by decide +kernel, by decide +kernel⟩
def v_law : SV := (bCons (sAsg (eCall (lCons (eV 0) lNil) lNil (bindR 1 0 [0] r__law_stream)) (gName 1)) (bCons (sAsg (eCall (lCons (eV 1) (lCons (eC (.int 4)) lNil)) lNil (bindR 2 0 [0, 1] r__law_u_web)) (gName 2)) (bCons (sFor (iVal (eCall lNil lNil (bindR 0 0 [] r__law_u_odd_webs))) (gName 4) (bCons (sIf (tNot (ts (eCall (lCons (e2 rAdd (eCall (lCons (eV 4) (lCons (eC .non) lNil)) lNil (bindR 2 0 [0, 1] r__law_asks)) (eLst (lCons (eLam 2 2 7 [4]) lNil))) (lCons (eTup (lCons (eC (.str [119, 101, 98])) (lCons (eV 4) lNil))) lNil)) lNil (bindR 2 0 [0, 1] r__law_all_met)))) (bCons (sRet (eC (.bl false))) bNil) bNil) (bCons (sIf (tNot (ts (eCall (lCons (eCall (lCons (eV 2) (lCons (eV 4) lNil)) lNil (bindR 2 0 [0, 1] r__law_asks)) (lCons (eTup (lCons (eC (.str [103, 111, 97, 108])) (lCons (eV 4) lNil))) lNil)) lNil (bindR 2 0 [0, 1] r__law_all_met)))) (bCons (sRet (eC (.bl false))) bNil) bNil) bNil)) 80) (bCons (sAsg (eTup (lCons (eC (.int 2)) (lCons (eLst (lCons (eTup (lCons (eC (.int 0)) (lCons (eC (.int 1)) lNil))) lNil)) lNil))) (gName 5)) (bCons (sFor (iVal (eTup (lCons (eC .non) (lCons (eC (.int 5)) (lCons (eC (.str [48, 49])) (lCons eDct0 (lCons (eLst lNil) (lCons (eLst (lCons (eC (.int 0)) lNil)) (lCons (eLst (lCons (eC (.int 0)) (lCons (eC (.int 0)) lNil))) (lCons (eLst (lCons (eC (.int 0)) (lCons (eC (.int 2)) lNil))) (lCons (eLst (lCons (eC (.int 0)) (lCons (eC (.int 1)) (lCons (eC (.int 0)) lNil)))) (lCons (eLst (lCons (eC (.bl true)) (lCons (eC (.int 0)) lNil))) (lCons (eLst (lCons (eC (.int 0)) (lCons (eC .non) lNil))) (lCons (eLst (lCons (eNeg (eC (.int 1))) (lCons (eC (.int 0)) lNil))) lNil)))))))))))))) (gName 4) (bCons (sIf (tNot (ts (eCall (lCons (eLst (lCons (eLam 2 2 8 [5, 4]) lNil)) (lCons (eTup (lCons (eC (.str [108, 101, 100])) (lCons (eV 4) lNil))) lNil)) lNil (bindR 2 0 [0, 1] r__law_all_met)))) (bCons (sRet (eC (.bl false))) bNil) bNil) (bCons (sAsg (eLst (lCons (eLam 2 2 9 [5, 4]) lNil)) (gName 3)) (bCons (sDrop (eMeth "list" (eV 3) (lCons (eLam 2 2 10 [5, 4]) lNil) rAppend)) (bCons (sDrop (eMeth "list" (eV 3) (lCons (eLam 2 2 11 [5, 4]) lNil) rAppend)) (bCons (sIf (tNot (ts (eCall (lCons (eV 3) (lCons (eTup (lCons (eC (.str [111, 110, 101])) (lCons (eV 4) lNil))) lNil)) lNil (bindR 2 0 [0, 1] r__law_all_met)))) (bCons (sRet (eC (.bl false))) bNil) bNil) (bCons (sAsg (eLst (lCons (eLam 2 2 12 [5, 4]) lNil)) (gName 3)) (bCons (sDrop (eMeth "list" (eV 3) (lCons (eLam 2 2 13 [5, 4]) lNil) rAppend)) (bCons (sDrop (eMeth "list" (eV 3) (lCons (eLam 2 2 14 [5, 4]) lNil) rAppend)) (bCons (sIf (tNot (ts (eCall (lCons (eV 3) (lCons (eTup (lCons (eC (.str [111, 116, 104, 101, 114])) (lCons (eV 4) lNil))) lNil)) lNil (bindR 2 0 [0, 1] r__law_all_met)))) (bCons (sRet (eC (.bl false))) bNil) bNil) bNil))))))))) 80) (bCons (sIf (tNot (ts (eCall (lCons (eC (.str [108, 101, 100])) (lCons (eLam 2 2 15 [5]) lNil)) lNil (bindR 2 0 [0, 1] r__law_is_very)))) (bCons (sRet (eC (.bl false))) bNil) bNil) (bCons (sRet (eCall (lCons (eC (.str [119, 101, 98])) (lCons (eLam 2 2 16 []) lNil)) lNil (bindR 2 0 [0, 1] r__law_is_very))) bNil)))))))
def r_law : List D → Store → Res D := fnR [false, false, false, false, true, true] v_law
theorem fz_law {G : Gl} (T : Txt G) : FnZ G 15 351 (fdK G.K 351) ["script"] r_law :=
  T.d_law.fn (k := 14) (bv := v_law) (nb := [false, false, false, false, true, true]) T.ok sc_law rfl (hbx_by (by decide +kernel)) fun A outer L c0 hr => (sb_cons (ss_asg (se_call (nam_glob (by rfl) T.d__law_stream.mg (by decide)) (by rfl) (by rfl) (sa_cons (se_var (i := 0) (by rfl) (by decide) (by decide)) sa_nil (star_cons (by rfl))) sk_nil (T.d__law_stream.oc (fz__law_stream T) (hr.mono (by decide)) (kb__law_stream_1_ T))) (sg_name (i := 1) (by rfl) (.inl (by rfl))) (by rfl) (by rfl) (by rfl)) (sb_cons (ss_asg (se_call (nam_glob (by rfl) T.d__law_u_web.mg (by decide)) (by rfl) (by rfl) (sa_cons (se_var (i := 1) (by rfl) (by decide) (by decide)) (sa_cons se_int sa_nil (star_cons (by rfl))) (star_cons (by rfl))) sk_nil (T.d__law_u_web.oc (fz__law_u_web T) (hr.mono (by decide)) (kb__law_u_web_2_ T))) (sg_name (i := 2) (by rfl) (.inl (by rfl))) (by rfl) (by rfl) (by rfl)) (sb_cons (ss_for 80 top_cx (by rfl) (si_val (by rfl) (se_call0 (nam_glob (by rfl) T.d__law_u_odd_webs.mg (by decide)) (by rfl) sk_nil (T.d__law_u_odd_webs.oc (fz__law_u_odd_webs T) (hr.mono (by decide)) (kb__law_u_odd_webs_0_ T)))) (sg_name (i := 4) (by rfl) (.inr ⟨(by rfl), (by rfl)⟩)) (sb_cons (ss_if (st_not (st_plain (se_call (nam_glob (by rfl) T.d__law_all_met.mg (by decide)) (by rfl) (by rfl) (sa_cons (se_bin o_add (se_call (nam_glob (by rfl) T.d__law_asks.mg (by decide)) (by rfl) (by rfl) (sa_cons (se_var (i := 4) (by rfl) (by decide) (by decide)) (sa_cons se_non sa_nil (star_cons (by rfl))) (star_cons (by rfl))) sk_nil (T.d__law_asks.oc (fz__law_asks T) (hr.mono (by decide)) (kb__law_asks_2_ T))) (se_lst (sa_cons (se_lam (tb := 2) (t := 2) (l := 7) (fr := [4]) (T.lam_7) (T.nms_2) T.tab_law (by rfl) (by rfl) (by rfl) (by decide)) sa_nil (star_cons (by rfl))))) (sa_cons (se_tup (sa_cons (se_strn (n := [119, 101, 98]) (by decide)) (sa_cons (se_var (i := 4) (by rfl) (by decide) (by decide)) sa_nil (star_cons (by rfl))) (star_cons (by rfl)))) sa_nil (star_cons (by rfl))) (star_cons (by rfl))) sk_nil (T.d__law_all_met.oc (fz__law_all_met T) (hr.mono (by decide)) (kb__law_all_met_2_ T))) (fun _ => (by rfl)))).st (sb_cons (ss_ret se_bl) sb_nil) sb_nil) (sb_cons (ss_if (st_not (st_plain (se_call (nam_glob (by rfl) T.d__law_all_met.mg (by decide)) (by rfl) (by rfl) (sa_cons (se_call (nam_glob (by rfl) T.d__law_asks.mg (by decide)) (by rfl) (by rfl) (sa_cons (se_var (i := 2) (by rfl) (by decide) (by decide)) (sa_cons (se_var (i := 4) (by rfl) (by decide) (by decide)) sa_nil (star_cons (by rfl))) (star_cons (by rfl))) sk_nil (T.d__law_asks.oc (fz__law_asks T) (hr.mono (by decide)) (kb__law_asks_2_ T))) (sa_cons (se_tup (sa_cons (se_strn (n := [103, 111, 97, 108]) (by decide)) (sa_cons (se_var (i := 4) (by rfl) (by decide) (by decide)) sa_nil (star_cons (by rfl))) (star_cons (by rfl)))) sa_nil (star_cons (by rfl))) (star_cons (by rfl))) sk_nil (T.d__law_all_met.oc (fz__law_all_met T) (hr.mono (by decide)) (kb__law_all_met_2_ T))) (fun _ => (by rfl)))).st (sb_cons (ss_ret se_bl) sb_nil) sb_nil) sb_nil)) (fun _ => (by rfl))) (sb_cons (ss_asg (se_tup (sa_cons se_int (sa_cons (se_lst (sa_cons (se_tup (sa_cons se_int (sa_cons se_int sa_nil (star_cons (by rfl))) (star_cons (by rfl)))) sa_nil (star_cons (by rfl)))) sa_nil (star_cons (by rfl))) (star_cons (by rfl)))) (sg_name (i := 5) (by rfl) (.inr ⟨(by rfl), (by rfl)⟩)) (by rfl) (by rfl) (by rfl)) (sb_cons (ss_for 80 top_cx (by rfl) (si_val (by rfl) (se_tup (sa_cons se_non (sa_cons se_int (sa_cons (se_strn (n := [48, 49]) (by decide)) (sa_cons se_dct0 (sa_cons (se_lst sa_nil) (sa_cons (se_lst (sa_cons se_int sa_nil (star_cons (by rfl)))) (sa_cons (se_lst (sa_cons se_int (sa_cons se_int sa_nil (star_cons (by rfl))) (star_cons (by rfl)))) (sa_cons (se_lst (sa_cons se_int (sa_cons se_int sa_nil (star_cons (by rfl))) (star_cons (by rfl)))) (sa_cons (se_lst (sa_cons se_int (sa_cons se_int (sa_cons se_int sa_nil (star_cons (by rfl))) (star_cons (by rfl))) (star_cons (by rfl)))) (sa_cons (se_lst (sa_cons se_bl (sa_cons se_int sa_nil (star_cons (by rfl))) (star_cons (by rfl)))) (sa_cons (se_lst (sa_cons se_int (sa_cons se_non sa_nil (star_cons (by rfl))) (star_cons (by rfl)))) (sa_cons (se_lst (sa_cons (se_neg se_int) (sa_cons se_int sa_nil (star_cons (by rfl))) (star_cons (by rfl)))) sa_nil (star_cons (by rfl))) (star_cons (by rfl))) (star_cons (by rfl))) (star_cons (by rfl))) (star_cons (by rfl))) (star_cons (by rfl))) (star_cons (by rfl))) (star_cons (by rfl))) (star_cons (by rfl))) (star_cons (by rfl))) (star_cons (by rfl))) (star_cons (by rfl))))) (sg_name (i := 4) (by rfl) (.inr ⟨(by rfl), (by rfl)⟩)) (sb_cons (ss_if (st_not (st_plain (se_call (nam_glob (by rfl) T.d__law_all_met.mg (by decide)) (by rfl) (by rfl) (sa_cons (se_lst (sa_cons (se_lam (tb := 2) (t := 2) (l := 8) (fr := [5, 4]) (T.lam_8) (T.nms_2) T.tab_law (by rfl) (by rfl) (by rfl) (by decide)) sa_nil (star_cons (by rfl)))) (sa_cons (se_tup (sa_cons (se_strn (n := [108, 101, 100]) (by decide)) (sa_cons (se_var (i := 4) (by rfl) (by decide) (by decide)) sa_nil (star_cons (by rfl))) (star_cons (by rfl)))) sa_nil (star_cons (by rfl))) (star_cons (by rfl))) sk_nil (T.d__law_all_met.oc (fz__law_all_met T) (hr.mono (by decide)) (kb__law_all_met_2_ T))) (fun _ => (by rfl)))).st (sb_cons (ss_ret se_bl) sb_nil) sb_nil) (sb_cons (ss_asg (se_lst (sa_cons (se_lam (tb := 2) (t := 2) (l := 9) (fr := [5, 4]) (T.lam_9) (T.nms_2) T.tab_law (by rfl) (by rfl) (by rfl) (by decide)) sa_nil (star_cons (by rfl)))) (sg_name (i := 3) (by rfl) (.inl (by rfl))) (by rfl) (by rfl) (by rfl)) (sb_cons (ss_expr (se_meth F.plainAttrs_list F.slot_list_append F.type_list_append (by decide) (se_var (i := 3) (by rfl) (by decide) (by decide)) (by rfl) (sa_cons (se_lam (tb := 2) (t := 2) (l := 10) (fr := [5, 4]) (T.lam_10) (T.nms_2) T.tab_law (by rfl) (by rfl) (by rfl) (by decide)) sa_nil (star_cons (by rfl))) m_append (by rfl) (by rfl) (by rfl)) (by rfl)) (sb_cons (ss_expr (se_meth F.plainAttrs_list F.slot_list_append F.type_list_append (by decide) (se_var (i := 3) (by rfl) (by decide) (by decide)) (by rfl) (sa_cons (se_lam (tb := 2) (t := 2) (l := 11) (fr := [5, 4]) (T.lam_11) (T.nms_2) T.tab_law (by rfl) (by rfl) (by rfl) (by decide)) sa_nil (star_cons (by rfl))) m_append (by rfl) (by rfl) (by rfl)) (by rfl)) (sb_cons (ss_if (st_not (st_plain (se_call (nam_glob (by rfl) T.d__law_all_met.mg (by decide)) (by rfl) (by rfl) (sa_cons (se_var (i := 3) (by rfl) (by decide) (by decide)) (sa_cons (se_tup (sa_cons (se_strn (n := [111, 110, 101]) (by decide)) (sa_cons (se_var (i := 4) (by rfl) (by decide) (by decide)) sa_nil (star_cons (by rfl))) (star_cons (by rfl)))) sa_nil (star_cons (by rfl))) (star_cons (by rfl))) sk_nil (T.d__law_all_met.oc (fz__law_all_met T) (hr.mono (by decide)) (kb__law_all_met_2_ T))) (fun _ => (by rfl)))).st (sb_cons (ss_ret se_bl) sb_nil) sb_nil) (sb_cons (ss_asg (se_lst (sa_cons (se_lam (tb := 2) (t := 2) (l := 12) (fr := [5, 4]) (T.lam_12) (T.nms_2) T.tab_law (by rfl) (by rfl) (by rfl) (by decide)) sa_nil (star_cons (by rfl)))) (sg_name (i := 3) (by rfl) (.inl (by rfl))) (by rfl) (by rfl) (by rfl)) (sb_cons (ss_expr (se_meth F.plainAttrs_list F.slot_list_append F.type_list_append (by decide) (se_var (i := 3) (by rfl) (by decide) (by decide)) (by rfl) (sa_cons (se_lam (tb := 2) (t := 2) (l := 13) (fr := [5, 4]) (T.lam_13) (T.nms_2) T.tab_law (by rfl) (by rfl) (by rfl) (by decide)) sa_nil (star_cons (by rfl))) m_append (by rfl) (by rfl) (by rfl)) (by rfl)) (sb_cons (ss_expr (se_meth F.plainAttrs_list F.slot_list_append F.type_list_append (by decide) (se_var (i := 3) (by rfl) (by decide) (by decide)) (by rfl) (sa_cons (se_lam (tb := 2) (t := 2) (l := 14) (fr := [5, 4]) (T.lam_14) (T.nms_2) T.tab_law (by rfl) (by rfl) (by rfl) (by decide)) sa_nil (star_cons (by rfl))) m_append (by rfl) (by rfl) (by rfl)) (by rfl)) (sb_cons (ss_if (st_not (st_plain (se_call (nam_glob (by rfl) T.d__law_all_met.mg (by decide)) (by rfl) (by rfl) (sa_cons (se_var (i := 3) (by rfl) (by decide) (by decide)) (sa_cons (se_tup (sa_cons (se_strn (n := [111, 116, 104, 101, 114]) (by decide)) (sa_cons (se_var (i := 4) (by rfl) (by decide) (by decide)) sa_nil (star_cons (by rfl))) (star_cons (by rfl)))) sa_nil (star_cons (by rfl))) (star_cons (by rfl))) sk_nil (T.d__law_all_met.oc (fz__law_all_met T) (hr.mono (by decide)) (kb__law_all_met_2_ T))) (fun _ => (by rfl)))).st (sb_cons (ss_ret se_bl) sb_nil) sb_nil) sb_nil))))))))) (fun _ => (by rfl))) (sb_cons (ss_if (st_not (st_plain (se_call (nam_glob (by rfl) T.d__law_is_very.mg (by decide)) (by rfl) (by rfl) (sa_cons (se_strn (n := [108, 101, 100]) (by decide)) (sa_cons (se_lam (tb := 2) (t := 2) (l := 15) (fr := [5]) (T.lam_15) (T.nms_2) T.tab_law (by rfl) (by rfl) (by rfl) (by decide)) sa_nil (star_cons (by rfl))) (star_cons (by rfl))) sk_nil (T.d__law_is_very.oc (fz__law_is_very T) (hr.mono (by decide)) (kb__law_is_very_2_ T))) (fun _ => (by rfl)))).st (sb_cons (ss_ret se_bl) sb_nil) sb_nil) (sb_cons (ss_ret (se_call (nam_glob (by rfl) T.d__law_is_very.mg (by decide)) (by rfl) (by rfl) (sa_cons (se_strn (n := [119, 101, 98]) (by decide)) (sa_cons (se_lam (tb := 2) (t := 2) (l := 16) (fr := []) (T.lam_16) (T.nms_2) T.tab_law (by rfl) (by rfl) (by rfl) (by decide)) sa_nil (star_cons (by rfl))) (star_cons (by rfl))) sk_nil (T.d__law_is_very.oc (fz__law_is_very T) (hr.mono (by decide)) (kb__law_is_very_2_ T)))) sb_nil)))))))
end K

set_option Elab.async false
set_option linter.all false
set_option maxRecDepth 100000
set_option maxHeartbeats 0
namespace K
open PySem PySem.Spec PyProof.Rows Z
abbrev p2 (a b : Int) : D := .tup [.int a, .int b]
abbrev sWeb : D := .str [119, 101, 98]
abbrev sGoal : D := .str [103, 111, 97, 108]
abbrev sLed : D := .str [108, 101, 100]
abbrev sOne : D := .str [111, 110, 101]
abbrev sOther : D := .str [111, 116, 104, 101, 114]
/-- the odd webs, each with its own cells -/
def odds0 : List (D × List Cel) := [(.non, []), (.int 5, []), (.str [97, 98], []), (.ref 0, [.dct []]), (.ref 0, [.lst []]), (.tup [], []), (.tup [.int 0, .ref 0], [.lst []]), (.tup [.int 1], []), (.tup [.bl true, .ref 0], [.lst []]), (.tup [.int 2, .non], []),
  (.tup [.int 2, .ref 0], [.lst [p2 1 0]]), (.tup [.int 2, .ref 0], [.lst [p2 0 2]]), (.tup [.int 2, .ref 0], [.lst [p2 0 1, p2 0 0]]), (.tup [.int 2, .ref 0], [.lst [p2 0 1, p2 0 1]]),
  (.tup [.int 2, .ref 0], [.lst [.tup [.int 0, .bl true]]]), (.tup [.int 2, .ref 0], [.lst [.tup [.int 0]]]), (.tup [.int 2, .ref 0], [.lst [.ref 1], .lst [.int 0, .int 1, .int 1]]), (.tup [.int 2, .ref 0], [.lst [.non]]), (.tup [.str [50], .ref 0], [.lst []]), (.tup [.int 2, .ref 0, .ref 1], [.lst [], .lst []]), (.tup [.int (-1), .ref 0], [.lst []])]
/-- the lot that the asks of an odd web look at -/
def webC (od : D × List Cel) : List Cel := let k := od.2.length
  od.2 ++ [.box (some od.1), .box (some .non), .box (some od.1), .clo 0 [k, k + 1], .clo 1 [k, k + 1], .clo 2 [k, k + 1], .clo 3 [k, k + 1], .clo 4 [k, k + 1], .clo 5 [k, k + 1], .clo 7 [k + 2], .lst [.ref (k + 3), .ref (k + 4), .ref (k + 5), .ref (k + 6), .ref (k + 7), .ref (k + 8), .ref (k + 9)]]
def up3 (j : Nat) : Nat := j + 3
def goalC (od : D × List Cel) : List Cel := [.tbl 0, .tbl 1, .tbl 2] ++ od.2.map (renC up3)
theorem web_all : (odds0.all fun od => okD (fun j => decide (j < od.2.length)) od.1 && okCs (webC od) && isOk (r__law_all_met [.ref (od.2.length + 10), .tup [sWeb, od.1]] ⟨webC od, (webC od).length⟩) (.bl true) (webC od) (webC od).length) = true := by decide +kernel
theorem goal_all : (odds0.all fun od => frK 3 (goalC od) [renD up3 od.1] && okCs od.2 && isExc (r_need_goal [renD up3 od.1] ⟨goalC od, (goalC od).length⟩) ⟨141, [[103, 111, 97, 108]], [renD up3 od.1]⟩ (goalC od) (goalC od).length) = true := by decide +kernel
def oddV (n : Nat) : List D := [.non, .int 5, .str [97, 98], .ref (n + 1), .ref (n + 2), .tup [], .tup [.int 0, .ref (n + 3)], .tup [.int 1], .tup [.bl true, .ref (n + 4)], .tup [.int 2, .non],
  .tup [.int 2, .ref (n + 5)], .tup [.int 2, .ref (n + 6)], .tup [.int 2, .ref (n + 7)], .tup [.int 2, .ref (n + 8)], .tup [.int 2, .ref (n + 9)], .tup [.int 2, .ref (n + 10)], .tup [.int 2, .ref (n + 11)], .tup [.int 2, .ref (n + 13)], .tup [.str [50], .ref (n + 14)], .tup [.int 2, .ref (n + 15), .ref (n + 16)], .tup [.int (-1), .ref (n + 17)]]
def oddC (n : Nat) : List Cel := [.dct [], .lst [], .lst [], .lst [], .lst [p2 1 0], .lst [p2 0 2], .lst [p2 0 1, p2 0 0], .lst [p2 0 1, p2 0 1], .lst [.tup [.int 0, .bl true]], .lst [.tup [.int 0]], .lst [.ref (n + 12)], .lst [.int 0, .int 1, .int 1], .lst [.non], .lst [], .lst [], .lst [], .lst []]
theorem odds_all : isOk (r__law_u_odd_webs [] ⟨[], 0⟩) (.ref 0) (.lst (oddV 0) :: oddC 0) 0 = true := by decide +kernel
/-- the odd maps -/
def leds0 : List (D × List Cel) := [(.non, []), (.int 5, []), (.str [48, 49], []), (.ref 0, [.dct []]), (.ref 0, [.lst []]), (.ref 0, [.lst [.int 0]]), (.ref 0, [.lst [.int 0, .int 0]]), (.ref 0, [.lst [.int 0, .int 2]]), (.ref 0, [.lst [.int 0, .int 1, .int 0]]), (.ref 0, [.lst [.bl true, .int 0]]), (.ref 0, [.lst [.int 0, .non]]), (.ref 0, [.lst [.int (-1), .int 0]])]
def ledC (od : D × List Cel) (ls : List Nat) : List Cel := let k := od.2.length
  od.2 ++ [.lst [p2 0 1], .box (some (.tup [.int 2, .ref k])), .box (some od.1)] ++ ls.map (fun l => .clo l [k + 1, k + 2]) ++ [.lst ((List.range ls.length).map fun j => .ref (k + 3 + j))]
def ledOk (od : D × List Cel) (ls : List Nat) (w : D) : Bool := okCs (ledC od ls) && isOk (r__law_all_met [.ref (od.2.length + 3 + ls.length), .tup [w, od.1]] ⟨ledC od ls, (ledC od ls).length⟩) (.bl true) (ledC od ls) (ledC od ls).length
theorem led_all : (leds0.all fun od => okD (fun j => decide (j < od.2.length)) od.1 && ledOk od [8] sLed && ledOk od [9, 10, 11] sOne && ledOk od [12, 13, 14] sOther) = true := by decide +kernel
theorem very_led : isOk (r__law_is_very [sLed, .ref 5] ⟨[.tbl 0, .tbl 1, .tbl 2, .lst [p2 0 1], .box (some (.tup [.int 2, .ref 3])), .clo 15 [4]], 6⟩) (.bl true) [.tbl 0, .tbl 1, .tbl 2, .lst [p2 0 1], .box (some (.tup [.int 2, .ref 3])), .clo 15 [4]] 6 = true := by decide +kernel
theorem very_web : isOk (r__law_is_very [sWeb, .ref 3] ⟨[.tbl 0, .tbl 1, .tbl 2, .clo 16 []], 4⟩) (.bl true) [.tbl 0, .tbl 1, .tbl 2, .clo 16 []] 4 = true := by decide +kernel
end K

set_option Elab.async false
set_option linter.all false
set_option maxRecDepth 100000
set_option maxHeartbeats 0
namespace K
open PySem PySem.Spec PyProof.Rows Z
/-- what _law_asks makes -/
def asksN : List D → Nat → List Cel := fun vs n => match vs with
  | [v, w] => [.lst [.ref (n + 1), .ref (n + 4), .ref (n + 5), .ref (n + 6), .ref (n + 7), .ref (n + 8)], .clo 0 [n + 2, n + 3], .box (some v), .box (some w), .clo 1 [n + 2, n + 3], .clo 2 [n + 2, n + 3], .clo 3 [n + 2, n + 3], .clo 4 [n + 2, n + 3], .clo 5 [n + 2, n + 3]]
  | _ => []
theorem asksN_ok : MkOk asksN := fun S n vs0 ok => by
  match vs0, ok with
  | [], _ => rfl
  | [_], _ => rfl
  | _ :: _ :: _ :: _, _ => rfl
  | [v, w], ok =>
    simp only [okDs, Bool.and_eq_true] at ok
    have e : ∀ u, okD (fun j => decide (j < S.length)) u = true → renD (tS S n) u = renD (tP S) u := fun u h => ren_congr (fun k hk => tS_tP (k := S.length) (Nat.le_refl _) hk) u h
    simp only [asksN, List.map_cons, List.map_nil, renC, renDs, renD, tS_new, Option.map_some, e v ok.1, e w ok.2.1]
def up4 (j : Nat) : Nat := j + 4
def askC (od : D × List Cel) (xs : List D) : List Cel := [.tbl 0, .tbl 1, .tbl 2, .lst xs] ++ od.2.map (renC up4)
theorem asks_web : (odds0.all fun od => isOk (r__law_asks [renD up3 od.1, .non] ⟨goalC od, (goalC od).length⟩) (.ref (goalC od).length) (goalC od ++ asksN [renD up3 od.1, .non] (goalC od).length) (goalC od).length) = true := by decide +kernel
theorem asks_goal (xs : List D) (n : Int) : ∀ od ∈ odds0, r__law_asks [.tup [.int n, .ref 3], renD up4 od.1] ⟨askC od xs, (askC od xs).length⟩ = .ok (.ref (askC od xs).length) ⟨askC od xs ++ asksN [.tup [.int n, .ref 3], renD up4 od.1] (askC od xs).length, (askC od xs).length⟩ := by
  unfold odds0
  simp only [List.forall_mem_cons]
  refine ⟨?_, ?_, ?_, ?_, ?_, ?_, ?_, ?_, ?_, ?_, ?_, ?_, ?_, ?_, ?_, ?_, ?_, ?_, ?_, ?_, ?_, fun x h => nomatch h⟩
  · kernel_rfl
  · kernel_rfl
  · kernel_rfl
  · kernel_rfl
  · kernel_rfl
  · kernel_rfl
  · kernel_rfl
  · kernel_rfl
  · kernel_rfl
  · kernel_rfl
  · kernel_rfl
  · kernel_rfl
  · kernel_rfl
  · kernel_rfl
  · kernel_rfl
  · kernel_rfl
  · kernel_rfl
  · kernel_rfl
  · kernel_rfl
  · kernel_rfl
  · kernel_rfl
end K

set_option Elab.async false
set_option linter.all false
set_option maxRecDepth 100000
set_option maxHeartbeats 0
namespace K
open PySem PySem.Spec PyProof.Rows Z
theorem bind4 {r : List D → Store → Res D} {a b c d : D} {m : Store} : bindR 4 0 [0, 1, 2, 3] r [a, b, c, d] [] m = r [a, b, c, d] m := bind_go rfl rfl rfl
theorem is_list_eq : r_is_list = rIsList := rfl
theorem kept_web_eq : r_kept_web = rKeptWeb := rfl
/-- o is an odd web in m -/
def OddAt (m : Store) (o : D) : Prop := ∃ od ∈ odds0, ∃ sel, At m sel od.2 ∧ o = renD (tP sel) od.1 ∧ ∀ i ∈ sel, 3 ≤ i
/-- a store in which the asks for a wrong goal go: a web, an odd web -/
structure GE (m : Store) (n : Int) (k : Nat) (ps : List (Int × Int)) (o : D) : Prop where
  ws : WS m
  nz : NoZ m
  W : Web n ps
  hk : m.cs[k]? = some (.lst (ps.map dPair))
  t0 : m.cs[0]? = some (.tbl 0)
  t1 : m.cs[1]? = some (.tbl 1)
  t2 : m.cs[2]? = some (.tbl 2)
  odd : OddAt m o
  ok : okD (fun j => decide (j < m.cs.length)) o = true
theorem OddAt.low {m : Store} {o : D} {lo : Nat} (h : OddAt m o) : OddAt ⟨m.cs, lo⟩ o := by
  obtain ⟨od, h1, sel, a, r⟩ := h
  exact ⟨od, h1, sel, ⟨a.nd, a.len, a.ok, a.here⟩, r⟩
theorem GE.low {m : Store} {n : Int} {k : Nat} {ps : List (Int × Int)} {o : D} {lo : Nat} (g : GE m n k ps o) : GE ⟨m.cs, lo⟩ n k ps o := ⟨g.ws, g.nz, g.W, g.hk, g.t0, g.t1, g.t2, g.odd.low, g.ok⟩
abbrev xGoal (o : D) : Ex := ⟨141, [[103, 111, 97, 108]], [o]⟩
section
variable {m : Store} {n : Int} {k : Nat} {ps : List (Int × Int)} {o : D}
theorem need_goal_x (g : GE m n k ps o) : f_need_goal [o] m = .exc (xGoal o) m := by
  obtain ⟨od, hod, sel, a, eo, hs⟩ := g.odd
  have hk := List.all_eq_true.mp goal_all od hod
  simp only [Bool.and_eq_true] at hk
  obtain ⟨⟨k1, k2⟩, k3⟩ := hk
  have ev := isExc_ok k3
  have kc : okCs (goalC od) = true := by
    unfold frK at k1
    simp only [Bool.and_eq_true] at k1
    exact k1.1.2
  have A : At m ([0, 1, 2] ++ sel) (goalC od) := a.shift (k := 3) rfl rfl (List.nodup_append.mpr ⟨by decide, a.nd, fun x hx y hy => by
    have := hs y hy
    simp at hx
    omega⟩) kc fun j i c h1 h2 => by
      match j, h1, h2 with
      | 0, h1, h2 => simp at h1 h2; subst h1; subst h2; exact g.t0
      | 1, h1, h2 => simp at h1 h2; subst h1; subst h2; exact g.t1
      | 2, h1, h2 => simp at h1 h2; subst h1; subst h2; exact g.t2
      | j + 3, h1, h2 => simp at h1
  have x := frm_exc (T := 3) A g.nz (fun i hi => by
    match i, hi with
    | 0, _ => rfl
    | 1, _ => rfl
    | 2, _ => rfl) k1 ev rfl
  have kv : okDs (fun j => decide (j < (goalC od).length)) [renD up3 od.1] = true := by
    unfold frK at k1
    simp only [Bool.and_eq_true] at k1
    exact k1.1.1.2
  have e1 : renDs (tP ([0, 1, 2] ++ sel)) [renD up3 od.1] = [o] := by
    simp only [renDs]
    rw [show renD up3 od.1 = renD (fun j => j + 3) od.1 from rfl, ren_pre (k := 3) (pre := [0, 1, 2]) rfl, eo]
  dsimp only at x
  rw [A.vals kv, e1] at x
  have e2 : Sub.res m ([0, 1, 2] ++ sel) ⟨goalC od, (goalC od).length⟩ = m := by
    unfold Sub.res
    rw [← A.len]
    simp
  rw [e2] at x
  exact x
theorem need_web_go (g : GE m n k ps o) (hl : m.low ≤ m.cs.length) : r_need_web [.tup [.int n, .ref k]] m = .ok (.tup [.int n, .tup (ps.map dPair)]) m := by
  refine fnR_pure (l := []) g.ws hl ?_ (Nat.le_refl _) (by simp only [okD, okDs, okDs_pairs]; rfl)
  show v_need_web [.val (.tup [.int n, .ref k]), .un] ⟨m.cs ++ [], m.cs.length⟩ = _
  rw [List.append_nil]
  have kw := kept_web_ok (m := ⟨m.cs, m.cs.length⟩) g.ws (Nat.le_refl _) g.W g.hk
  unfold v_need_web
  rw [k_nx (σ1 := [.val (.tup [.int n, .ref k]), .val (.tup [.int n, .tup (ps.map dPair)])]) (m1 := ⟨m.cs, m.cs.length⟩) (by
    rw [k_asg (call_1 (f := eV 0) (v := .tup [.int n, .ref k]) rfl (by rw [kept_web_eq]; exact kw))]; rfl)]
  rw [k_nx (σ1 := [.val (.tup [.int n, .ref k]), .val (.tup [.int n, .tup (ps.map dPair)])]) (m1 := ⟨m.cs, m.cs.length⟩) (by
    rw [k_if (is_non_tup (f := eV 1) (xs := [.int n, .tup (ps.map dPair)]) (m1 := ⟨m.cs, m.cs.length⟩) rfl)]; rfl)]
  exact k_rt (k_ret rfl)
abbrev wD (n : Int) (k : Nat) : D := .tup [.int n, .ref k]
theorem need_webs_x (g : GE m n k ps o) (hl : m.low ≤ m.cs.length) : r_need_webs [wD n k, o] m = .exc (xGoal o) m := by
  refine fnR_pureX (σ := [.val (wD n k), .val o, .val (.tup [.int n, .tup (ps.map dPair)])]) (l := []) g.ws hl ?_ (Nat.le_refl _) (by simp only [okDs, g.ok]; rfl)
  show v_need_webs [.val (wD n k), .val o, .un] ⟨m.cs ++ [], m.cs.length⟩ = _
  rw [List.append_nil]
  have g' : GE ⟨m.cs, m.cs.length⟩ n k ps o := g.low
  unfold v_need_webs
  rw [k_nx (σ1 := [.val (wD n k), .val o, .val (.tup [.int n, .tup (ps.map dPair)])]) (m1 := ⟨m.cs, m.cs.length⟩) (by
    rw [k_asg (call_1 (f := eV 0) (v := wD n k) rfl (need_web_go g' (Nat.le_refl _)))]; rfl)]
  refine x_cons (x_ret (x_tup (x_l2 (f := eV 2) (v := .tup [.int n, .tup (ps.map dPair)]) rfl (x_l1 ?_))))
  exact (k_call (fk := lNil) (r := bindR 1 0 [0] f_need_goal) (l1_go (f := eV 1) (v := o) rfl) rfl).trans (bind1.trans (need_goal_x g'))
/-- what starts with kept, there = need_webs(a, b) -/
theorem webs_x {σ : Sl} {i j : Nat} {gv : GV} {b : SV} (g : GE m n k ps o) (hl : m.low ≤ m.cs.length) (h1 : σ[i]? = some (.val (wD n k))) (h2 : σ[j]? = some (.val o)) : bCons (sAsg (eCall (lCons (eV i) (lCons (eV j) lNil)) lNil (bindR 2 0 [0, 1] r_need_webs)) gv) b σ m = .exc (xGoal o) σ m := by
  have e1 : eV i σ m = .ok (wD n k) m := by unfold eV; rw [h1]
  have e2 : eV j σ m = .ok o m := by unfold eV; rw [h2]
  exact x_cons (x_asg ((k_call (fk := lNil) (r := bindR 2 0 [0, 1] r_need_webs) (k_l1 e1 (l1_go e2)) rfl).trans (bind2.trans (need_webs_x g hl))))
theorem ok1 (g : GE m n k ps o) : okDs (fun j => decide (j < m.cs.length)) (xGoal o).vs = true := by simp only [okDs, g.ok]; rfl
theorem next_maps_x (g : GE m n k ps o) (hl : m.low ≤ m.cs.length) (l : D) : r_next_maps [wD n k, o, l] m = .exc (xGoal o) m := by
  refine fnR_pureX (σ := [.val (wD n k), .val o, .val l, .un, .un, .un]) (l := []) g.ws hl ?_ (Nat.le_refl _) (ok1 g)
  show v_next_maps [.val (wD n k), .val o, .val l, .un, .un, .un] ⟨m.cs ++ [], m.cs.length⟩ = _
  rw [List.append_nil]
  exact webs_x g.low (Nat.le_refl _) rfl rfl
theorem need_ends_x (g : GE m n k ps o) (hl : m.low ≤ m.cs.length) (a b : D) : r_need_ends [wD n k, o, a, b] m = .exc (xGoal o) m := by
  refine fnR_pureX (σ := [.val (wD n k), .val o, .val a, .val b, .un, .un, .un, .un]) (l := []) g.ws hl ?_ (Nat.le_refl _) (ok1 g)
  show v_need_ends [.val (wD n k), .val o, .val a, .val b, .un, .un, .un, .un] ⟨m.cs ++ [], m.cs.length⟩ = _
  rw [List.append_nil]
  exact webs_x g.low (Nat.le_refl _) rfl rfl
theorem ends_x {σ : Sl} {gv : GV} {b : SV} {a c : D} (g : GE m n k ps o) (hl : m.low ≤ m.cs.length) (h1 : σ[0]? = some (.val (wD n k))) (h2 : σ[1]? = some (.val o)) (h3 : σ[2]? = some (.val a)) (h4 : σ[3]? = some (.val c)) : bCons (sAsg (eCall (lCons (eV 0) (lCons (eV 1) (lCons (eV 2) (lCons (eV 3) lNil)))) lNil (bindR 4 0 [0, 1, 2, 3] r_need_ends)) gv) b σ m = .exc (xGoal o) σ m := by
  have e1 : eV 0 σ m = .ok (wD n k) m := by unfold eV; rw [h1]
  have e2 : eV 1 σ m = .ok o m := by unfold eV; rw [h2]
  have e3 : eV 2 σ m = .ok a m := by unfold eV; rw [h3]
  have e4 : eV 3 σ m = .ok c m := by unfold eV; rw [h4]
  exact x_cons (x_asg ((k_call (fk := lNil) (r := bindR 4 0 [0, 1, 2, 3] r_need_ends) (k_l1 e1 (k_l1 e2 (k_l1 e3 (l1_go e4)))) rfl).trans (bind4.trans (need_ends_x g hl a c))))
theorem steps_or_lot_x (g : GE m n k ps o) (hl : m.low ≤ m.cs.length) (a b : D) : r_steps_or_lot [wD n k, o, a, b] m = .exc (xGoal o) m := by
  refine fnR_pureX (σ := [.val (wD n k), .val o, .val a, .val b, .un, .un, .un, .un, .un]) (l := []) g.ws hl ?_ (Nat.le_refl _) (ok1 g)
  show v_steps_or_lot [.val (wD n k), .val o, .val a, .val b, .un, .un, .un, .un, .un] ⟨m.cs ++ [], m.cs.length⟩ = _
  rw [List.append_nil]
  exact ends_x g.low (Nat.le_refl _) rfl rfl rfl rfl
theorem are_steps_x (g : GE m n k ps o) (hl : m.low ≤ m.cs.length) (a b c : D) : r_are_steps [wD n k, o, a, b, c] m = .exc (xGoal o) m := by
  refine fnR_pureX (σ := [.val (wD n k), .val o, .val a, .val b, .val c, .un, .un, .un, .un, .un, .un]) (l := []) g.ws hl ?_ (Nat.le_refl _) (ok1 g)
  show v_are_steps [.val (wD n k), .val o, .val a, .val b, .val c, .un, .un, .un, .un, .un, .un] ⟨m.cs ++ [], m.cs.length⟩ = _
  rw [List.append_nil]
  exact ends_x g.low (Nat.le_refl _) rfl rfl rfl rfl
theorem steps_far_x (g : GE m n k ps o) (hl : m.low ≤ m.cs.length) (a b : D) : r_steps_far [wD n k, o, a, b] m = .exc (xGoal o) m := by
  refine fnR_pureX (σ := [.val (wD n k), .val o, .val a, .val b, .un, .un, .un, .un, .un]) (l := []) g.ws hl ?_ (Nat.le_refl _) (ok1 g)
  show v_steps_far [.val (wD n k), .val o, .val a, .val b, .un, .un, .un, .un, .un] ⟨m.cs ++ [], m.cs.length⟩ = _
  rw [List.append_nil]
  exact ends_x g.low (Nat.le_refl _) rfl rfl rfl rfl
theorem map_classes_x (g : GE m n k ps o) (hl : m.low ≤ m.cs.length) : r_map_classes [wD n k, o] m = .exc (xGoal o) m := by
  refine fnR_pureX (σ := [.val (wD n k), .val o, .un, .un, .un, .un, .un, .un]) (l := []) g.ws hl ?_ (Nat.le_refl _) (ok1 g)
  show v_map_classes [.val (wD n k), .val o, .un, .un, .un, .un, .un, .un] ⟨m.cs ++ [], m.cs.length⟩ = _
  rw [List.append_nil]
  exact webs_x g.low (Nat.le_refl _) rfl rfl
theorem class_count_x (g : GE m n k ps o) (hl : m.low ≤ m.cs.length) : r_class_count [wD n k, o] m = .exc (xGoal o) m := by
  refine fnR_pureX (σ := [.val (wD n k), .val o]) (l := []) g.ws hl ?_ (Nat.le_refl _) (ok1 g)
  show v_class_count [.val (wD n k), .val o] ⟨m.cs ++ [], m.cs.length⟩ = _
  rw [List.append_nil]
  have e1 : eV 0 [.val (wD n k), .val o] ⟨m.cs, m.cs.length⟩ = .ok (wD n k) ⟨m.cs, m.cs.length⟩ := rfl
  have e2 : eV 1 [.val (wD n k), .val o] ⟨m.cs, m.cs.length⟩ = .ok o ⟨m.cs, m.cs.length⟩ := rfl
  exact x_cons (x_ret (x_callA (x_l1 ((k_call (fk := lNil) (r := bindR 2 0 [0, 1] r_map_classes) (k_l1 e1 (l1_go e2)) rfl).trans (bind2.trans (map_classes_x g.low (Nat.le_refl _)))))))
end
end K

set_option Elab.async false
set_option linter.all false
set_option maxRecDepth 100000
set_option maxHeartbeats 0
namespace K
open PySem PySem.Spec PyProof.Rows Z
theorem b3 {r : List D → Store → Res D} {a b c : D} {m : Store} : bindR 3 0 [0, 1, 2] r [a, b, c] [] m = r [a, b, c] m := bind_go rfl rfl rfl
theorem b5 {r : List D → Store → Res D} {a b c d e : D} {m : Store} : bindR 5 0 [0, 1, 2, 3, 4] r [a, b, c, d, e] [] m = r [a, b, c, d, e] m := bind_go rfl rfl rfl
theorem b04 {r : List D → Store → Res D} {a b c d : D} {m : Store} : bindR 0 4 [3, 2, 1, 0] r [] [a, b, c, d] m = r [d, c, b, a] m := bind_go rfl rfl rfl
theorem b02 {r : List D → Store → Res D} {a b : D} {m : Store} : bindR 0 2 [1, 0] r [] [a, b] m = r [b, a] m := bind_go rfl rfl rfl
section
variable {m : Store} {n : Int} {k bw bg : Nat} {ps : List (Int × Int)} {o : D}
theorem lamR_x {np : Nat} {body : EV} {cs : List Nat} {vs : List D} {x : Ex} (hw : WS m) (hl : m.low ≤ m.cs.length) (hn : vs.length = np) (ok : okDs (fun j => decide (j < m.cs.length)) x.vs = true) (h : body (vs.map Slot.val ++ cs.map Slot.box) ⟨m.cs, m.cs.length⟩ = .exc x ⟨m.cs, m.cs.length⟩) : lamR np body cs vs m = .exc x m := by
  unfold lamR
  rw [if_pos hn, h]
  have e := gc_flat (n := m.cs.length) (lo := m.low) (vs := x.vs) (cs := m.cs) (l := []) (low := m.cs.length) rfl hw ok
  rw [List.append_nil, Nat.min_eq_left hl] at e
  simp only [e]
/-- every ask for a wrong goal -/
theorem lam_x (g : GE m n k ps o) (hl : m.low ≤ m.cs.length) (hb : m.cs[bw]? = some (.box (some (wD n k)))) (hg : m.cs[bg]? = some (.box (some o))) : ∀ l, l < 6 → LF__law_met l [bw, bg] [] m = .exc (xGoal o) m := by
  have g' : GE ⟨m.cs, m.cs.length⟩ n k ps o := g.low
  have v0 : eV 0 [.box bw, .box bg] ⟨m.cs, m.cs.length⟩ = .ok (wD n k) ⟨m.cs, m.cs.length⟩ := by
    unfold eV; simp only [List.getElem?_cons_zero, hb]
  have v1 : eV 1 [.box bw, .box bg] ⟨m.cs, m.cs.length⟩ = .ok o ⟨m.cs, m.cs.length⟩ := by
    unfold eV; simp only [List.getElem?_cons_succ, List.getElem?_cons_zero, hg]
  have vn : eC .non [.box bw, .box bg] ⟨m.cs, m.cs.length⟩ = .ok .non ⟨m.cs, m.cs.length⟩ := rfl
  have nl : (lNil : LV) [.box bw, .box bg] ⟨m.cs, m.cs.length⟩ = .ok [] ⟨m.cs, m.cs.length⟩ := rfl
  intro l hl6
  match l, hl6 with
  | 0, _ =>
    show lr_0 [bw, bg] [] m = _
    unfold lr_0
    refine lamR_x g.ws hl rfl (ok1 g) ?_
    show eCall _ _ _ [.box bw, .box bg] _ = _
    exact Eq.trans (k_call (k_l1 v0 (k_l1 v1 (l1_go vn))) (nl)) (Eq.trans b3 (next_maps_x g' (Nat.le_refl _) .non))
  | 1, _ =>
    show lr_1 [bw, bg] [] m = _
    unfold lr_1
    refine lamR_x g.ws hl rfl (ok1 g) ?_
    show eCall _ _ _ [.box bw, .box bg] _ = _
    exact Eq.trans (k_call (nl) (k_l1 vn (k_l1 vn (k_l1 v1 (l1_go v0))))) (Eq.trans b04 (steps_or_lot_x g' (Nat.le_refl _) .non .non))
  | 2, _ =>
    show lr_2 [bw, bg] [] m = _
    unfold lr_2
    refine lamR_x g.ws hl rfl (ok1 g) ?_
    show eCall _ _ _ [.box bw, .box bg] _ = _
    exact Eq.trans (k_call (k_l1 v0 (k_l1 v1 (k_l1 vn (k_l1 vn (l1_go vn))))) (nl)) (Eq.trans b5 (are_steps_x g' (Nat.le_refl _) .non .non .non))
  | 3, _ =>
    show lr_3 [bw, bg] [] m = _
    unfold lr_3
    refine lamR_x g.ws hl rfl (ok1 g) ?_
    show eCall _ _ _ [.box bw, .box bg] _ = _
    exact Eq.trans (k_call (nl) (k_l1 vn (k_l1 vn (k_l1 v1 (l1_go v0))))) (Eq.trans b04 (steps_far_x g' (Nat.le_refl _) .non .non))
  | 4, _ =>
    show lr_4 [bw, bg] [] m = _
    unfold lr_4
    refine lamR_x g.ws hl rfl (ok1 g) ?_
    show eCall _ _ _ [.box bw, .box bg] _ = _
    exact Eq.trans (k_call (k_l1 v0 (l1_go v1)) (nl)) (Eq.trans bind2 (map_classes_x g' (Nat.le_refl _)))
  | 5, _ =>
    show lr_5 [bw, bg] [] m = _
    unfold lr_5
    refine lamR_x g.ws hl rfl (ok1 g) ?_
    show eCall _ _ _ [.box bw, .box bg] _ = _
    exact Eq.trans (k_call (nl) (k_l1 v1 (l1_go v0))) (Eq.trans b02 (class_count_x g' (Nat.le_refl _)))
  | l + 6, h => omega
theorem met_goal (g : GE m n k ps o) (hl : m.low ≤ m.cs.length) {c l : Nat} (hl6 : l < 6) (hc : m.cs[c]? = some (.clo l [bw, bg])) (hb : m.cs[bw]? = some (.box (some (wD n k)))) (hg : m.cs[bg]? = some (.box (some o))) : r__law_met [.ref c] m = .ok (.tup [sGoal, o]) m := by
  refine fnR_pure (l := [.exc 141 [[103, 111, 97, 108]] [o]]) g.ws hl ?_ (Nat.le_refl _) (by simp only [okD, okDs, g.ok]; rfl)
  show v__law_met [.val (.ref c), .un] ⟨m.cs ++ [], m.cs.length⟩ = _
  rw [List.append_nil]
  have g' : GE ⟨m.cs, m.cs.length⟩ n k ps o := g.low
  have lx := lam_x g' (Nat.le_refl _) hb hg l hl6
  unfold v__law_met
  refine k_rt ?_
  have bx : (bCons (sRet (eTup (lCons (eC (.str [116, 111, 108, 100])) (lCons (eCallV (eV 0) lNil lNil (rClo LF__law_met)) lNil)))) bNil) [.val (.ref c), .un] ⟨m.cs, m.cs.length⟩ = .exc (xGoal o) [.val (.ref c), .un] ⟨m.cs, m.cs.length⟩ := by
    refine x_cons (x_ret (x_tup (x_l2 (f := eC (.str [116, 111, 108, 100])) (v := .str [116, 111, 108, 100]) rfl (x_l1 ?_))))
    show rClo LF__law_met (.ref c) [] [] ⟨m.cs, m.cs.length⟩ = _
    unfold rClo
    simp only [hc]
    exact lx
  unfold sTry
  rw [bx]
  have m1 : mtK 141 (.ref 84) = some false := by decide
  have m2 : mtK 141 (.ref 141) = some true := by decide
  simp only [catchS, m1, m2]
  have at_ : (⟨m.cs, m.cs.length⟩ : Store).push (.exc 141 [[103, 111, 97, 108]] [o]) = ⟨m.cs ++ [.exc 141 [[103, 111, 97, 108]] [o]], m.cs.length⟩ := rfl
  rw [at_]
  have ea : eAttr ok_goal [103, 111, 97, 108] (eV 1) [.val (.ref c), .val (.ref m.cs.length)] ⟨m.cs ++ [.exc 141 [[103, 111, 97, 108]] [o]], m.cs.length⟩ = .ok o ⟨m.cs ++ [.exc 141 [[103, 111, 97, 108]] [o]], m.cs.length⟩ := by
    have e1 : eV 1 [.val (.ref c), .val (.ref m.cs.length)] ⟨m.cs ++ [.exc 141 [[103, 111, 97, 108]] [o]], m.cs.length⟩ = .ok (.ref m.cs.length) ⟨m.cs ++ [.exc 141 [[103, 111, 97, 108]] [o]], m.cs.length⟩ := rfl
    have e2 : (m.cs ++ [Cel.exc 141 [[103, 111, 97, 108]] [o]])[m.cs.length]? = some (.exc 141 [[103, 111, 97, 108]] [o]) := by simp
    have e3 : ok_goal 141 = true := by decide
    unfold eAttr
    rw [e1]
    simp only [Res.bind, e2, e3, if_true]
    rfl
  have es : (bCons (sRet (eTup (lCons (eC (.str [103, 111, 97, 108])) (lCons (eAttr ok_goal [103, 111, 97, 108] (eV 1)) lNil)))) bNil) [.val (.ref c), .val (.ref m.cs.length)] ⟨m.cs ++ [.exc 141 [[103, 111, 97, 108]] [o]], m.cs.length⟩ = .ret (.tup [sGoal, o]) ⟨m.cs ++ [.exc 141 [[103, 111, 97, 108]] [o]], m.cs.length⟩ := by
    refine k_rt (k_ret ?_)
    unfold eTup
    rw [k_l1 (f := eC (.str [103, 111, 97, 108])) (v := sGoal) rfl (l1_go ea)]
    simp only [Res.bind, List.length_cons, List.length_nil]
    rw [if_pos (by decide)]
  show endS 1 ((bCons _ bNil) [.val (.ref c), .val (.ref m.cs.length)] _) = _
  rw [es]
  rfl
end
end K

set_option Elab.async false
set_option linter.all false
set_option maxRecDepth 100000
set_option maxHeartbeats 0
namespace K
open PySem PySem.Spec PyProof.Rows Z
def T6 (o : D) : List D := List.replicate 6 (.tup [sGoal, o])
def sameG (od : D × List Cel) : List Cel := ([.tbl 0, .tbl 1, .tbl 2, .lst (T6 (renD up4 od.1))] ++ od.2.map (renC up4)) ++ [.lst (T6 (renD up4 od.1))]
theorem sameG_all : (odds0.all fun od => frK 3 (sameG od) [.ref 3, .ref (4 + od.2.length)] && okCs ([.tbl 0, .tbl 1, .tbl 2, .lst (T6 (renD up4 od.1))] ++ od.2.map (renC up4)) && okD (fun j => decide (j < od.2.length)) od.1 && isOk (r__law_same 8 [.ref 3, .ref (4 + od.2.length)] ⟨sameG od, (sameG od).length⟩) (.bl true) (sameG od) (sameG od).length) = true := by decide +kernel
theorem okC_T6 {p : Nat → Bool} {o : D} (h : okD p o = true) : okC p (.lst (T6 o)) = true := okDs_all.mpr fun v hv => by
  rw [List.eq_of_mem_replicate hv]
  simp only [okD, okDs, h]; rfl
theorem renT6 {t : Nat → Nat} {o : D} : renDs t (T6 o) = T6 (renD t o) := by
  simp only [T6, List.replicate_succ, List.replicate_zero, renDs, renD]
section
variable {m : Store} {n : Int} {k : Nat} {ps : List (Int × Int)} {o : D}
/-- the told and the due are the same -/
theorem same_go (nz : NoZ m) (t0 : m.cs[0]? = some (.tbl 0)) (t1 : m.cs[1]? = some (.tbl 1)) (t2 : m.cs[2]? = some (.tbl 2)) {a b : Nat} (ha : m.cs[a]? = some (.lst (T6 o))) (hb : m.cs[b]? = some (.lst (T6 o))) (ab : a < b) (odd : ∃ od ∈ odds0, ∃ sel, At m sel od.2 ∧ o = renD (tP sel) od.1 ∧ ∀ i ∈ sel, 3 ≤ i ∧ i < a) (a3 : 3 ≤ a) : f__law_same [.ref a, .ref b] m = .ok (.bl true) m := by
  obtain ⟨od, hod, sel, A0, eo, hs⟩ := odd
  have hk := List.all_eq_true.mp sameG_all od hod
  simp only [Bool.and_eq_true] at hk
  obtain ⟨⟨⟨k1, k2⟩, k3⟩, k4⟩ := hk
  have ev := isOk_ok k4
  have eo' : ∀ l, renD (tP (([0, 1, 2, a] ++ sel) ++ l)) (renD up4 od.1) = o := fun l => by
    rw [List.append_assoc, show renD up4 od.1 = renD (fun j => j + 4) od.1 from rfl, ren_comp]
    rw [eo]
    refine ren_congr (fun j hj => ?_) od.1 k3
    rw [tP_pre (k := 4) (pre := [0, 1, 2, a]) rfl, tP_app (k := od.2.length) (Nat.le_of_eq A0.len) hj]
  have A1 : At m ([0, 1, 2, a] ++ sel) ([.tbl 0, .tbl 1, .tbl 2, .lst (T6 (renD up4 od.1))] ++ od.2.map (renC up4)) := A0.shift (k := 4) rfl rfl (List.nodup_append.mpr ⟨by simp; omega, A0.nd, fun x hx y hy => by
    have := hs y hy
    simp at hx
    omega⟩) k2 fun j i c h1 h2 => by
      match j, h1, h2 with
      | 0, h1, h2 => simp at h1 h2; subst h1; subst h2; exact t0
      | 1, h1, h2 => simp at h1 h2; subst h1; subst h2; exact t1
      | 2, h1, h2 => simp at h1 h2; subst h1; subst h2; exact t2
      | 3, h1, h2 =>
        simp at h1 h2; subst h1; subst h2
        have := eo' []
        rw [List.append_nil] at this
        simp only [renC, renT6, this]
        exact ha
      | j + 4, h1, h2 => simp at h1
  have kc : okCs (sameG od) = true := by
    unfold frK at k1
    simp only [Bool.and_eq_true] at k1
    exact k1.1.2
  have A2 : At m (([0, 1, 2, a] ++ sel) ++ [b]) (sameG od) := A1.more (List.nodup_append.mpr ⟨A1.nd, by simp, fun x hx y hy => by
    simp at hy
    subst hy
    rcases List.mem_append.mp hx with hx | hx
    · simp at hx; omega
    · have := hs x hx; omega⟩) rfl kc fun j i c h1 h2 => by
      match j, h1, h2 with
      | 0, h1, h2 =>
        simp at h1 h2; subst h1; subst h2
        simp only [renC, renT6, eo']
        exact hb
      | j + 1, h1, h2 => simp at h1
  have x := frm_ok (T := 3) A2 nz (fun i hi => by
    match i, hi with
    | 0, _ => rfl
    | 1, _ => rfl
    | 2, _ => rfl) k1 ev rfl
  have e1 : renDs (tP (([0, 1, 2, a] ++ sel) ++ [b])) [.ref 3, .ref (4 + od.2.length)] = [.ref a, .ref b] := by
    have h1 : tP (([0, 1, 2, a] ++ sel) ++ [b]) 3 = a := rfl
    have h2 : tP (([0, 1, 2, a] ++ sel) ++ [b]) (4 + od.2.length) = b := by
      have := tP_at0 (sel := [0, 1, 2, a] ++ sel) (l := [b]) (i := b) rfl
      rw [List.length_append, ← A0.len] at this
      exact this
    simp only [renDs, renD, h1, h2]
  have e2 : Sub.res m (([0, 1, 2, a] ++ sel) ++ [b]) ⟨sameG od, (sameG od).length⟩ = m := by
    unfold Sub.res
    rw [← A2.len]
    simp
  rw [e1, e2] at x
  exact x
end
end K

set_option Elab.async false
set_option linter.all false
set_option maxRecDepth 100000
set_option maxHeartbeats 0
namespace K
open PySem PySem.Spec PyProof.Rows Z
theorem at_app {cs l : List Cel} {n i : Nat} (h : cs.length = n) : (cs ++ l)[n + i]? = l[i]? := by
  rw [List.getElem?_append_right (by omega), show n + i - cs.length = i by omega]
theorem at_app0 {cs l : List Cel} {n : Nat} (h : cs.length = n) : (cs ++ l)[n]? = l[0]? := at_app (i := 0) h
theorem old_app {cs l : List Cel} {i : Nat} {c : Cel} (h : cs[i]? = some c) : (cs ++ l)[i]? = some c := by
  rw [List.getElem?_append_left (List.getElem?_eq_some_iff.mp h).1]; exact h
theorem nz_app {m : Store} {l : List Cel} {lo : Nat} (h : NoZ m) (hl : ∀ c ∈ l, c.nz = true) : NoZ ⟨m.cs ++ l, lo⟩ := fun c hc => by
  rcases List.mem_append.mp hc with hc | hc
  · exact h c hc
  · exact hl c hc
theorem ws_app {m : Store} {l : List Cel} {lo : Nat} (h : WS m) (hl : ∀ c ∈ l, okC (fun j => decide (j < m.cs.length + l.length)) c = true) : WS ⟨m.cs ++ l, lo⟩ := fun c hc => by
  show okC (fun j => decide (j < (m.cs ++ l).length)) c = true
  rw [List.length_append]
  rcases List.mem_append.mp hc with hc | hc
  · exact okC_lt (by omega) (h c hc)
  · exact hl c hc
theorem map_const6 {xs : List D} (h : xs.length = 6) (T : D) : xs.map (fun _ => T) = List.replicate 6 T := by
  rw [List.map_const', h]
theorem rMul6 {m : Store} {i : Nat} {T : D} (h : m.cs[i]? = some (.lst [T])) : rMul (.ref i) (.int 6) m = .ok (.ref m.cs.length) ⟨m.cs ++ [.lst (List.replicate 6 T)], m.low⟩ := by
  have e : m.seq? i = some [T] := by unfold Store.seq?; rw [h]; rfl
  unfold rMul
  simp only [e]
  rw [if_pos ⟨by decide, by simp⟩]
  rfl
section
variable {m : Store} {n : Int} {k bw bg a : Nat} {ps : List (Int × Int)} {o : D} {xs : List D}
/-- all asks for a wrong goal are refused -/
theorem all_met_goal (g : GE m n k ps o) (hl : m.low ≤ m.cs.length) (ha : m.cs[a]? = some (.lst xs)) (h6 : xs.length = 6) (hx : ∀ x ∈ xs, ∃ c l, x = .ref c ∧ l < 6 ∧ m.cs[c]? = some (.clo l [bw, bg])) (hb : m.cs[bw]? = some (.box (some (wD n k)))) (hg : m.cs[bg]? = some (.box (some o))) :
    r__law_all_met [.ref a, .tup [sGoal, o]] m = .ok (.bl true) m := by
  obtain ⟨N, hN⟩ : ∃ N, N = m.cs.length := ⟨_, rfl⟩
  obtain ⟨T, hT⟩ : ∃ T, T = D.tup [sGoal, o] := ⟨_, rfl⟩
  obtain ⟨M, hM⟩ : ∃ M : Store, M = ⟨m.cs, N⟩ := ⟨_, rfl⟩
  have gM : GE M n k ps o := by rw [hM]; exact g.low
  have lM : M.low ≤ M.cs.length := by rw [hM, hN]; exact Nat.le_refl _
  have cM : M.cs = m.cs := by rw [hM]
  have ML : M.cs.length = N := by rw [cM, hN]
  obtain ⟨σ, hσ⟩ : ∃ σ : Sl, σ = [.val (.ref a), .val T] := ⟨_, rfl⟩
  have sM : src M (.ref a) = some xs := by
    show Store.seq? _ _ = _
    unfold Store.seq?
    rw [cM, ha]; rfl
  have e0 : ∀ (M' : Store), eV 0 σ M' = .ok (.ref a) M' := fun M' => by rw [hσ]; rfl
  have e1 : ∀ (M' : Store), eV 1 σ M' = .ok T M' := fun M' => by rw [hσ]; rfl
  have lc := eLc_map (fe := eV 0) (f := eCall (lCons (eV 0) lNil) lNil (bindR 1 0 [0] r__law_met)) (V := fun _ => T) (n := 80) (e0 M) sM (fun x hxm => by
    obtain ⟨c, l, rfl, l6, hc⟩ := hx x hxm
    exact call_1 (f := eV 0) (v := .ref c) rfl (by rw [hT]; exact met_goal gM lM l6 (by rw [cM]; exact hc) (by rw [cM]; exact hb) (by rw [cM]; exact hg))) (by omega) (by omega)
  rw [map_const6 h6, ML, cM] at lc
  have lw : M.low = N := by rw [hM]
  rw [lw] at lc
  have l1 : (m.cs ++ [Cel.lst (List.replicate 6 T)]).length = N + 1 := by rw [List.length_append, ← hN]; rfl
  have q2 : eLst (lCons (eV 1) lNil) σ ⟨m.cs ++ [.lst (List.replicate 6 T)], N⟩ = .ok (.ref (N + 1)) ⟨(m.cs ++ [.lst (List.replicate 6 T)]) ++ [.lst [T]], N⟩ := by
    unfold eLst
    rw [l1_go (e1 _)]
    simp only [Res.bind, List.length_cons, List.length_nil, Store.push, Store.nx, l1]
    rw [if_pos (by decide)]
  have ha2 : ((m.cs ++ [Cel.lst (List.replicate 6 T)]) ++ [Cel.lst [T]])[a]? = some (.lst xs) := old_app (old_app ha)
  have e3 : eCall (lCons (eV 0) lNil) lNil (fun vs _ m => rLen vs m) σ ⟨(m.cs ++ [.lst (List.replicate 6 T)]) ++ [.lst [T]], N⟩ = .ok (.int 6) ⟨(m.cs ++ [.lst (List.replicate 6 T)]) ++ [.lst [T]], N⟩ := by
    refine Eq.trans (k_call (fk := lNil) (r := fun vs _ m => rLen vs m) (l1_go (e0 _)) rfl) ?_
    simp only [rLen, lenOf, ha2, h6]
    rfl
  have l2 : ((m.cs ++ [Cel.lst (List.replicate 6 T)]) ++ [Cel.lst [T]]).length = N + 2 := by rw [List.length_append, l1]; rfl
  have e4 : e2 rMul (eLst (lCons (eV 1) lNil)) (eCall (lCons (eV 0) lNil) lNil (fun vs _ m => rLen vs m)) σ ⟨m.cs ++ [.lst (List.replicate 6 T)], N⟩ = .ok (.ref (N + 2)) ⟨((m.cs ++ [.lst (List.replicate 6 T)]) ++ [.lst [T]]) ++ [.lst (List.replicate 6 T)], N⟩ := by
    rw [k_e2 q2 e3, rMul6 (by exact at_app0 l1)]
    simp only [l2]
  have hE : ((m.cs ++ [Cel.lst (List.replicate 6 T)]) ++ [Cel.lst [T]]) ++ [Cel.lst (List.replicate 6 T)] = m.cs ++ [.lst (List.replicate 6 T), .lst [T], .lst (List.replicate 6 T)] := by simp
  rw [hE] at e4
  have g0 : (m.cs ++ [Cel.lst (List.replicate 6 T), .lst [T], .lst (List.replicate 6 T)])[N]? = some (.lst (T6 o)) := by rw [at_app0 hN.symm, hT]; rfl
  have g2 : (m.cs ++ [Cel.lst (List.replicate 6 T), .lst [T], .lst (List.replicate 6 T)])[N + 2]? = some (.lst (T6 o)) := by rw [at_app hN.symm, hT]; rfl
  obtain ⟨od, hod, sel, A, eo, hs⟩ := g.odd
  have sm := same_go (m := ⟨m.cs ++ [.lst (List.replicate 6 T), .lst [T], .lst (List.replicate 6 T)], N⟩) (o := o) (nz_app g.nz (fun c hc => by simp at hc; rcases hc with rfl | rfl | rfl <;> rfl)) (old_app g.t0) (old_app g.t1) (old_app g.t2) g0 g2 (by omega) ⟨od, hod, sel, A.keep fun i hi => (by
    show (m.cs ++ _)[i]? = _
    rw [List.getElem?_append_left (A.lt hi)]), eo, fun i hi => ⟨hs i hi, by rw [hN]; exact A.lt hi⟩⟩ (by have := (List.getElem?_eq_some_iff.mp g.t2).1; omega)
  refine fnR_pure (l := [.lst (List.replicate 6 T), .lst [T], .lst (List.replicate 6 T)]) (lo := N) g.ws hl ?_ (by omega) rfl
  show v__law_all_met [.val (.ref a), .val (.tup [sGoal, o])] ⟨m.cs ++ [], m.cs.length⟩ = _
  rw [List.append_nil, ← hT, ← hσ, ← hN]
  refine k_rt (k_ret ?_)
  rw [hM] at lc
  exact call_2 lc e4 sm
end
end K

set_option Elab.async false
set_option linter.all false
set_option maxRecDepth 100000
set_option maxHeartbeats 0
namespace K
open PySem PySem.Spec PyProof.Rows Z
open L2 (defArgs defBody defScope FnScope)
noncomputable abbrev cOdds : List D → Store → Res D := cN r__law_u_odd_webs
noncomputable abbrev cAsks : List D → Store → Res D := cM r__law_asks asksN
noncomputable abbrev cAll : List D → Store → Res D := cT r__law_all_met
noncomputable abbrev cVery : List D → Store → Res D := cT r__law_is_very
noncomputable def v_turn1 : SV := (bCons (sIf (tNot (ts (eCall (lCons (e2 rAdd (eCall (lCons (eV 4) (lCons (eC .non) lNil)) lNil (bindR 2 0 [0, 1] cAsks)) (eLst (lCons (eLam 2 2 7 [4]) lNil))) (lCons (eTup (lCons (eC (.str [119, 101, 98])) (lCons (eV 4) lNil))) lNil)) lNil (bindR 2 0 [0, 1] cAll)))) (bCons (sRet (eC (.bl false))) bNil) bNil) (bCons (sIf (tNot (ts (eCall (lCons (eCall (lCons (eV 2) (lCons (eV 4) lNil)) lNil (bindR 2 0 [0, 1] cAsks)) (lCons (eTup (lCons (eC (.str [103, 111, 97, 108])) (lCons (eV 4) lNil))) lNil)) lNil (bindR 2 0 [0, 1] cAll)))) (bCons (sRet (eC (.bl false))) bNil) bNil) bNil))
noncomputable def v_turn2 : SV := (bCons (sIf (tNot (ts (eCall (lCons (eLst (lCons (eLam 2 2 8 [5, 4]) lNil)) (lCons (eTup (lCons (eC (.str [108, 101, 100])) (lCons (eV 4) lNil))) lNil)) lNil (bindR 2 0 [0, 1] cAll)))) (bCons (sRet (eC (.bl false))) bNil) bNil) (bCons (sAsg (eLst (lCons (eLam 2 2 9 [5, 4]) lNil)) (gName 3)) (bCons (sDrop (eMeth "list" (eV 3) (lCons (eLam 2 2 10 [5, 4]) lNil) rAppend)) (bCons (sDrop (eMeth "list" (eV 3) (lCons (eLam 2 2 11 [5, 4]) lNil) rAppend)) (bCons (sIf (tNot (ts (eCall (lCons (eV 3) (lCons (eTup (lCons (eC (.str [111, 110, 101])) (lCons (eV 4) lNil))) lNil)) lNil (bindR 2 0 [0, 1] cAll)))) (bCons (sRet (eC (.bl false))) bNil) bNil) (bCons (sAsg (eLst (lCons (eLam 2 2 12 [5, 4]) lNil)) (gName 3)) (bCons (sDrop (eMeth "list" (eV 3) (lCons (eLam 2 2 13 [5, 4]) lNil) rAppend)) (bCons (sDrop (eMeth "list" (eV 3) (lCons (eLam 2 2 14 [5, 4]) lNil) rAppend)) (bCons (sIf (tNot (ts (eCall (lCons (eV 3) (lCons (eTup (lCons (eC (.str [111, 116, 104, 101, 114])) (lCons (eV 4) lNil))) lNil)) lNil (bindR 2 0 [0, 1] cAll)))) (bCons (sRet (eC (.bl false))) bNil) bNil) bNil)))))))))
noncomputable def v_lawc : SV := (bCons (sAsg (eCall (lCons (eV 0) lNil) lNil (bindR 1 0 [0] r__law_stream)) (gName 1)) (bCons (sAsg (eCall (lCons (eV 1) (lCons (eC (.int 4)) lNil)) lNil (bindR 2 0 [0, 1] r__law_u_web)) (gName 2)) (bCons (sFor (iVal (eCall lNil lNil (bindR 0 0 [] cOdds))) (gName 4) v_turn1 80) (bCons (sAsg (eTup (lCons (eC (.int 2)) (lCons (eLst (lCons (eTup (lCons (eC (.int 0)) (lCons (eC (.int 1)) lNil))) lNil)) lNil))) (gName 5)) (bCons (sFor (iVal (eTup (lCons (eC .non) (lCons (eC (.int 5)) (lCons (eC (.str [48, 49])) (lCons eDct0 (lCons (eLst lNil) (lCons (eLst (lCons (eC (.int 0)) lNil)) (lCons (eLst (lCons (eC (.int 0)) (lCons (eC (.int 0)) lNil))) (lCons (eLst (lCons (eC (.int 0)) (lCons (eC (.int 2)) lNil))) (lCons (eLst (lCons (eC (.int 0)) (lCons (eC (.int 1)) (lCons (eC (.int 0)) lNil)))) (lCons (eLst (lCons (eC (.bl true)) (lCons (eC (.int 0)) lNil))) (lCons (eLst (lCons (eC (.int 0)) (lCons (eC .non) lNil))) (lCons (eLst (lCons (eNeg (eC (.int 1))) (lCons (eC (.int 0)) lNil))) lNil)))))))))))))) (gName 4) v_turn2 80) (bCons (sIf (tNot (ts (eCall (lCons (eC (.str [108, 101, 100])) (lCons (eLam 2 2 15 [5]) lNil)) lNil (bindR 2 0 [0, 1] cVery)))) (bCons (sRet (eC (.bl false))) bNil) bNil) (bCons (sRet (eCall (lCons (eC (.str [119, 101, 98])) (lCons (eLam 2 2 16 []) lNil)) lNil (bindR 2 0 [0, 1] cVery))) bNil)))))))
noncomputable def r_lawc : List D → Store → Res D := fnR [false, false, false, false, true, true] v_lawc
theorem fz_lawc {G : Gl} (T : Txt G) : FnZ G 15 351 (fdK G.K 351) ["script"] r_lawc :=
  T.d_law.fn (k := 14) (bv := v_lawc) (nb := [false, false, false, false, true, true]) T.ok sc_law rfl (hbx_by (by decide +kernel)) fun A outer L c0 hr => (sb_cons (ss_asg (se_call (nam_glob (by rfl) T.d__law_stream.mg (by decide)) (by rfl) (by rfl) (sa_cons (se_var (i := 0) (by rfl) (by decide) (by decide)) sa_nil (star_cons (by rfl))) sk_nil (T.d__law_stream.oc (fz__law_stream T) (hr.mono (by decide)) (kb__law_stream_1_ T))) (sg_name (i := 1) (by rfl) (.inl (by rfl))) (by rfl) (by rfl) (by rfl)) (sb_cons (ss_asg (se_call (nam_glob (by rfl) T.d__law_u_web.mg (by decide)) (by rfl) (by rfl) (sa_cons (se_var (i := 1) (by rfl) (by decide) (by decide)) (sa_cons se_int sa_nil (star_cons (by rfl))) (star_cons (by rfl))) sk_nil (T.d__law_u_web.oc (fz__law_u_web T) (hr.mono (by decide)) (kb__law_u_web_2_ T))) (sg_name (i := 2) (by rfl) (.inl (by rfl))) (by rfl) (by rfl) (by rfl)) (sb_cons (ss_for 80 top_cx (by rfl) (si_val (by rfl) (se_call0 (nam_glob (by rfl) T.d__law_u_odd_webs.mg (by decide)) (by rfl) sk_nil (T.d__law_u_odd_webs.oc ((fz__law_u_odd_webs T).cN) (hr.mono (by decide)) (kb__law_u_odd_webs_0_ T)))) (sg_name (i := 4) (by rfl) (.inr ⟨(by rfl), (by rfl)⟩)) (sb_cons (ss_if (st_not (st_plain (se_call (nam_glob (by rfl) T.d__law_all_met.mg (by decide)) (by rfl) (by rfl) (sa_cons (se_bin o_add (se_call (nam_glob (by rfl) T.d__law_asks.mg (by decide)) (by rfl) (by rfl) (sa_cons (se_var (i := 4) (by rfl) (by decide) (by decide)) (sa_cons se_non sa_nil (star_cons (by rfl))) (star_cons (by rfl))) sk_nil (T.d__law_asks.oc ((fz__law_asks T).cM asksN_ok) (hr.mono (by decide)) (kb__law_asks_2_ T))) (se_lst (sa_cons (se_lam (tb := 2) (t := 2) (l := 7) (fr := [4]) (T.lam_7) (T.nms_2) T.tab_law (by rfl) (by rfl) (by rfl) (by decide)) sa_nil (star_cons (by rfl))))) (sa_cons (se_tup (sa_cons (se_strn (n := [119, 101, 98]) (by decide)) (sa_cons (se_var (i := 4) (by rfl) (by decide) (by decide)) sa_nil (star_cons (by rfl))) (star_cons (by rfl)))) sa_nil (star_cons (by rfl))) (star_cons (by rfl))) sk_nil (T.d__law_all_met.oc ((fz__law_all_met T).cT) (hr.mono (by decide)) (kb__law_all_met_2_ T))) (fun _ => (by rfl)))).st (sb_cons (ss_ret se_bl) sb_nil) sb_nil) (sb_cons (ss_if (st_not (st_plain (se_call (nam_glob (by rfl) T.d__law_all_met.mg (by decide)) (by rfl) (by rfl) (sa_cons (se_call (nam_glob (by rfl) T.d__law_asks.mg (by decide)) (by rfl) (by rfl) (sa_cons (se_var (i := 2) (by rfl) (by decide) (by decide)) (sa_cons (se_var (i := 4) (by rfl) (by decide) (by decide)) sa_nil (star_cons (by rfl))) (star_cons (by rfl))) sk_nil (T.d__law_asks.oc ((fz__law_asks T).cM asksN_ok) (hr.mono (by decide)) (kb__law_asks_2_ T))) (sa_cons (se_tup (sa_cons (se_strn (n := [103, 111, 97, 108]) (by decide)) (sa_cons (se_var (i := 4) (by rfl) (by decide) (by decide)) sa_nil (star_cons (by rfl))) (star_cons (by rfl)))) sa_nil (star_cons (by rfl))) (star_cons (by rfl))) sk_nil (T.d__law_all_met.oc ((fz__law_all_met T).cT) (hr.mono (by decide)) (kb__law_all_met_2_ T))) (fun _ => (by rfl)))).st (sb_cons (ss_ret se_bl) sb_nil) sb_nil) sb_nil)) (fun _ => (by rfl))) (sb_cons (ss_asg (se_tup (sa_cons se_int (sa_cons (se_lst (sa_cons (se_tup (sa_cons se_int (sa_cons se_int sa_nil (star_cons (by rfl))) (star_cons (by rfl)))) sa_nil (star_cons (by rfl)))) sa_nil (star_cons (by rfl))) (star_cons (by rfl)))) (sg_name (i := 5) (by rfl) (.inr ⟨(by rfl), (by rfl)⟩)) (by rfl) (by rfl) (by rfl)) (sb_cons (ss_for 80 top_cx (by rfl) (si_val (by rfl) (se_tup (sa_cons se_non (sa_cons se_int (sa_cons (se_strn (n := [48, 49]) (by decide)) (sa_cons se_dct0 (sa_cons (se_lst sa_nil) (sa_cons (se_lst (sa_cons se_int sa_nil (star_cons (by rfl)))) (sa_cons (se_lst (sa_cons se_int (sa_cons se_int sa_nil (star_cons (by rfl))) (star_cons (by rfl)))) (sa_cons (se_lst (sa_cons se_int (sa_cons se_int sa_nil (star_cons (by rfl))) (star_cons (by rfl)))) (sa_cons (se_lst (sa_cons se_int (sa_cons se_int (sa_cons se_int sa_nil (star_cons (by rfl))) (star_cons (by rfl))) (star_cons (by rfl)))) (sa_cons (se_lst (sa_cons se_bl (sa_cons se_int sa_nil (star_cons (by rfl))) (star_cons (by rfl)))) (sa_cons (se_lst (sa_cons se_int (sa_cons se_non sa_nil (star_cons (by rfl))) (star_cons (by rfl)))) (sa_cons (se_lst (sa_cons (se_neg se_int) (sa_cons se_int sa_nil (star_cons (by rfl))) (star_cons (by rfl)))) sa_nil (star_cons (by rfl))) (star_cons (by rfl))) (star_cons (by rfl))) (star_cons (by rfl))) (star_cons (by rfl))) (star_cons (by rfl))) (star_cons (by rfl))) (star_cons (by rfl))) (star_cons (by rfl))) (star_cons (by rfl))) (star_cons (by rfl))) (star_cons (by rfl))))) (sg_name (i := 4) (by rfl) (.inr ⟨(by rfl), (by rfl)⟩)) (sb_cons (ss_if (st_not (st_plain (se_call (nam_glob (by rfl) T.d__law_all_met.mg (by decide)) (by rfl) (by rfl) (sa_cons (se_lst (sa_cons (se_lam (tb := 2) (t := 2) (l := 8) (fr := [5, 4]) (T.lam_8) (T.nms_2) T.tab_law (by rfl) (by rfl) (by rfl) (by decide)) sa_nil (star_cons (by rfl)))) (sa_cons (se_tup (sa_cons (se_strn (n := [108, 101, 100]) (by decide)) (sa_cons (se_var (i := 4) (by rfl) (by decide) (by decide)) sa_nil (star_cons (by rfl))) (star_cons (by rfl)))) sa_nil (star_cons (by rfl))) (star_cons (by rfl))) sk_nil (T.d__law_all_met.oc ((fz__law_all_met T).cT) (hr.mono (by decide)) (kb__law_all_met_2_ T))) (fun _ => (by rfl)))).st (sb_cons (ss_ret se_bl) sb_nil) sb_nil) (sb_cons (ss_asg (se_lst (sa_cons (se_lam (tb := 2) (t := 2) (l := 9) (fr := [5, 4]) (T.lam_9) (T.nms_2) T.tab_law (by rfl) (by rfl) (by rfl) (by decide)) sa_nil (star_cons (by rfl)))) (sg_name (i := 3) (by rfl) (.inl (by rfl))) (by rfl) (by rfl) (by rfl)) (sb_cons (ss_expr (se_meth F.plainAttrs_list F.slot_list_append F.type_list_append (by decide) (se_var (i := 3) (by rfl) (by decide) (by decide)) (by rfl) (sa_cons (se_lam (tb := 2) (t := 2) (l := 10) (fr := [5, 4]) (T.lam_10) (T.nms_2) T.tab_law (by rfl) (by rfl) (by rfl) (by decide)) sa_nil (star_cons (by rfl))) m_append (by rfl) (by rfl) (by rfl)) (by rfl)) (sb_cons (ss_expr (se_meth F.plainAttrs_list F.slot_list_append F.type_list_append (by decide) (se_var (i := 3) (by rfl) (by decide) (by decide)) (by rfl) (sa_cons (se_lam (tb := 2) (t := 2) (l := 11) (fr := [5, 4]) (T.lam_11) (T.nms_2) T.tab_law (by rfl) (by rfl) (by rfl) (by decide)) sa_nil (star_cons (by rfl))) m_append (by rfl) (by rfl) (by rfl)) (by rfl)) (sb_cons (ss_if (st_not (st_plain (se_call (nam_glob (by rfl) T.d__law_all_met.mg (by decide)) (by rfl) (by rfl) (sa_cons (se_var (i := 3) (by rfl) (by decide) (by decide)) (sa_cons (se_tup (sa_cons (se_strn (n := [111, 110, 101]) (by decide)) (sa_cons (se_var (i := 4) (by rfl) (by decide) (by decide)) sa_nil (star_cons (by rfl))) (star_cons (by rfl)))) sa_nil (star_cons (by rfl))) (star_cons (by rfl))) sk_nil (T.d__law_all_met.oc ((fz__law_all_met T).cT) (hr.mono (by decide)) (kb__law_all_met_2_ T))) (fun _ => (by rfl)))).st (sb_cons (ss_ret se_bl) sb_nil) sb_nil) (sb_cons (ss_asg (se_lst (sa_cons (se_lam (tb := 2) (t := 2) (l := 12) (fr := [5, 4]) (T.lam_12) (T.nms_2) T.tab_law (by rfl) (by rfl) (by rfl) (by decide)) sa_nil (star_cons (by rfl)))) (sg_name (i := 3) (by rfl) (.inl (by rfl))) (by rfl) (by rfl) (by rfl)) (sb_cons (ss_expr (se_meth F.plainAttrs_list F.slot_list_append F.type_list_append (by decide) (se_var (i := 3) (by rfl) (by decide) (by decide)) (by rfl) (sa_cons (se_lam (tb := 2) (t := 2) (l := 13) (fr := [5, 4]) (T.lam_13) (T.nms_2) T.tab_law (by rfl) (by rfl) (by rfl) (by decide)) sa_nil (star_cons (by rfl))) m_append (by rfl) (by rfl) (by rfl)) (by rfl)) (sb_cons (ss_expr (se_meth F.plainAttrs_list F.slot_list_append F.type_list_append (by decide) (se_var (i := 3) (by rfl) (by decide) (by decide)) (by rfl) (sa_cons (se_lam (tb := 2) (t := 2) (l := 14) (fr := [5, 4]) (T.lam_14) (T.nms_2) T.tab_law (by rfl) (by rfl) (by rfl) (by decide)) sa_nil (star_cons (by rfl))) m_append (by rfl) (by rfl) (by rfl)) (by rfl)) (sb_cons (ss_if (st_not (st_plain (se_call (nam_glob (by rfl) T.d__law_all_met.mg (by decide)) (by rfl) (by rfl) (sa_cons (se_var (i := 3) (by rfl) (by decide) (by decide)) (sa_cons (se_tup (sa_cons (se_strn (n := [111, 116, 104, 101, 114]) (by decide)) (sa_cons (se_var (i := 4) (by rfl) (by decide) (by decide)) sa_nil (star_cons (by rfl))) (star_cons (by rfl)))) sa_nil (star_cons (by rfl))) (star_cons (by rfl))) sk_nil (T.d__law_all_met.oc ((fz__law_all_met T).cT) (hr.mono (by decide)) (kb__law_all_met_2_ T))) (fun _ => (by rfl)))).st (sb_cons (ss_ret se_bl) sb_nil) sb_nil) sb_nil))))))))) (fun _ => (by rfl))) (sb_cons (ss_if (st_not (st_plain (se_call (nam_glob (by rfl) T.d__law_is_very.mg (by decide)) (by rfl) (by rfl) (sa_cons (se_strn (n := [108, 101, 100]) (by decide)) (sa_cons (se_lam (tb := 2) (t := 2) (l := 15) (fr := [5]) (T.lam_15) (T.nms_2) T.tab_law (by rfl) (by rfl) (by rfl) (by decide)) sa_nil (star_cons (by rfl))) (star_cons (by rfl))) sk_nil (T.d__law_is_very.oc ((fz__law_is_very T).cT) (hr.mono (by decide)) (kb__law_is_very_2_ T))) (fun _ => (by rfl)))).st (sb_cons (ss_ret se_bl) sb_nil) sb_nil) (sb_cons (ss_ret (se_call (nam_glob (by rfl) T.d__law_is_very.mg (by decide)) (by rfl) (by rfl) (sa_cons (se_strn (n := [119, 101, 98]) (by decide)) (sa_cons (se_lam (tb := 2) (t := 2) (l := 16) (fr := []) (T.lam_16) (T.nms_2) T.tab_law (by rfl) (by rfl) (by rfl) (by decide)) sa_nil (star_cons (by rfl))) (star_cons (by rfl))) sk_nil (T.d__law_is_very.oc ((fz__law_is_very T).cT) (hr.mono (by decide)) (kb__law_is_very_2_ T)))) sb_nil)))))))

end K

set_option Elab.async false
set_option linter.all false
set_option maxRecDepth 100000
set_option maxHeartbeats 0
namespace K
open PySem PySem.Spec PyProof.Rows Z
/-- the base of both loops -/
structure Bs (m : Store) : Prop where
  ws : WS m
  nz : NoZ m
  t0 : m.cs[0]? = some (.tbl 0)
  t1 : m.cs[1]? = some (.tbl 1)
  t2 : m.cs[2]? = some (.tbl 2)
theorem Bs.app {m : Store} {l : List Cel} {lo : Nat} (b : Bs m) (h1 : ∀ c ∈ l, okC (fun j => decide (j < m.cs.length + l.length)) c = true) (h2 : ∀ c ∈ l, c.nz = true) : Bs ⟨m.cs ++ l, lo⟩ := ⟨ws_app b.ws h1, nz_app b.nz h2, old_app b.t0, old_app b.t1, old_app b.t2⟩
theorem Bs.put {m : Store} {i : Nat} {c : Cel} (b : Bs m) (hi : 3 ≤ i) (h1 : okC (fun j => decide (j < m.cs.length)) c = true) (h2 : c.nz = true) : Bs (m.put i c) := by
  have ne : ∀ {k : Nat} {d : Cel}, k < 3 → m.cs[k]? = some d → (m.put i c).cs[k]? = some d := fun hk e => (List.getElem?_set_ne (by omega)).trans e
  refine ⟨fun x hx => ?_, fun x hx => ?_, ne (by decide) b.t0, ne (by decide) b.t1, ne (by decide) b.t2⟩
  · show okC (fun j => decide (j < (m.cs.set i c).length)) x = true
    rw [List.length_set]
    rcases List.mem_or_eq_of_mem_set hx with hx | rfl
    · exact b.ws x hx
    · exact h1
  · rcases List.mem_or_eq_of_mem_set hx with hx | rfl
    · exact b.nz x hx
    · exact h2
theorem At.app {m : Store} {sel : List Nat} {cs0 l : List Cel} {lo : Nat} (a : At m sel cs0) : At ⟨m.cs ++ l, lo⟩ sel cs0 := a.keep fun i hi => by
  show (m.cs ++ l)[i]? = _
  rw [List.getElem?_append_left (a.lt hi)]
/-- o is an odd web whose cells stand from b on -/
def OddB (m : Store) (o : D) (b : Nat) : Prop := ∃ od ∈ odds0, ∃ sel, At m sel od.2 ∧ o = renD (tP sel) od.1 ∧ ∀ i ∈ sel, b ≤ i
theorem OddB.app {m : Store} {l : List Cel} {lo : Nat} {o : D} {b : Nat} (h : OddB m o b) : OddB ⟨m.cs ++ l, lo⟩ o b := by
  obtain ⟨od, h1, sel, a, r⟩ := h
  exact ⟨od, h1, sel, At.app a, r⟩
theorem OddB.at {m : Store} {o : D} {b : Nat} (h : OddB m o b) (hb : 3 ≤ b) : OddAt m o := by
  obtain ⟨od, h1, sel, a, e, hs⟩ := h
  exact ⟨od, h1, sel, a, e, fun i hi => Nat.le_trans hb (hs i hi)⟩
theorem OddB.ok {m : Store} {o : D} {b : Nat} (h : OddB m o b) : okD (fun j => decide (j < m.cs.length)) o = true := by
  obtain ⟨od, h1, sel, a, e, hs⟩ := h
  have hk := List.all_eq_true.mp web_all od h1
  simp only [Bool.and_eq_true] at hk
  rw [e]
  exact okD_ren (fun j hj => by
    obtain ⟨c, _, _, e3⟩ := a.get (j := j) (by simpa using hj)
    simpa using (List.getElem?_eq_some_iff.mp e3).1) od.1 hk.1.1
section
variable {m : Store} {o : D} {b : Nat}
/-- the asks of an odd web are made -/
theorem asks_w (B : Bs m) (h : OddB m o b) (hb : 3 ≤ b) : cAsks [o, .non] m = .ok (.ref m.cs.length) ⟨m.cs ++ asksN [o, .non] m.cs.length, m.low⟩ := by
  obtain ⟨od, hod, sel, a, eo, hs⟩ := h
  have ev := isOk_ok (List.all_eq_true.mp asks_web od hod)
  have hk := List.all_eq_true.mp goal_all od hod
  simp only [Bool.and_eq_true] at hk
  have k1 := hk.1.1
  unfold frK at k1
  simp only [Bool.and_eq_true] at k1
  refine cM_eq ⟨goalC od, [renD up3 od.1, .non], [0, 1, 2] ++ sel, ev, ?_, ?_, B.nz, ?_⟩
  · have := k1.1.1.2
    simp only [okDs, Bool.and_eq_true] at this ⊢
    exact ⟨this.1, rfl, trivial⟩
  · exact a.shift (k := 3) rfl rfl (List.nodup_append.mpr ⟨by decide, a.nd, fun x hx y hy => by
      have := hs y hy
      simp at hx
      omega⟩) k1.1.2 fun j i c h1 h2 => by
        match j, h1, h2 with
        | 0, h1, h2 => simp at h1 h2; subst h1; subst h2; exact B.t0
        | 1, h1, h2 => simp at h1 h2; subst h1; subst h2; exact B.t1
        | 2, h1, h2 => simp at h1 h2; subst h1; subst h2; exact B.t2
        | j + 3, h1, h2 => simp at h1
  · simp only [renDs]
    rw [show renD up3 od.1 = renD (fun j => j + 3) od.1 from rfl, ren_pre (k := 3) (pre := [0, 1, 2]) rfl, ← eo]
    rfl
/-- ... of a web and a goal -/
theorem asks_g (B : Bs m) (h : OddB m o b) {kk : Nat} {n : Int} {xs : List D} (hk : m.cs[kk]? = some (.lst xs)) (hx : okDs (fun _ => false) xs = true) (h3 : 3 ≤ kk) (hb : kk < b) : cAsks [wD n kk, o] m = .ok (.ref m.cs.length) ⟨m.cs ++ asksN [wD n kk, o] m.cs.length, m.low⟩ := by
  obtain ⟨od, hod, sel, a, eo, hs⟩ := h
  have ev := asks_goal xs n od hod
  have ho := List.all_eq_true.mp web_all od hod
  simp only [Bool.and_eq_true] at ho
  have od1 := ho.1.1
  have al : (askC od xs).length = 4 + od.2.length := by unfold askC; rw [List.length_append, List.length_map]; rfl
  have any : ∀ {p : Nat → Bool}, okDs p xs = true := fun {p} => okDs_imp (fun i h => by cases h) xs hx
  have e0 : ∀ t, renDs t xs = xs := fun t => by
    rw [rens_congr (t := id) (fun _ h => by cases h) xs hx]
    exact rens_id (n := 0) (fun i h => by omega) xs any
  refine cM_eq ⟨askC od xs, [.tup [.int n, .ref 3], renD up4 od.1], [0, 1, 2, kk] ++ sel, ev, ?_, ?_, B.nz, ?_⟩
  · have h1 : okD (fun j => decide (j < (askC od xs).length)) (renD up4 od.1) = true := okD_ren (fun j hj => by
      simp only [decide_eq_true_eq] at hj ⊢
      rw [al]; unfold up4; omega) od.1 od1
    have h3 : decide (3 < (askC od xs).length) = true := by rw [al]; exact decide_eq_true (by omega)
    simp only [okDs, okD, h1, h3]
    rfl
  · refine a.shift (k := 4) rfl rfl (List.nodup_append.mpr ⟨by simp; omega, a.nd, fun x hx y hy => by
      have := hs y hy
      simp at hx
      omega⟩) ?_ fun j i c h1 h2 => by
        match j, h1, h2 with
        | 0, h1, h2 => simp at h1 h2; subst h1; subst h2; exact B.t0
        | 1, h1, h2 => simp at h1 h2; subst h1; subst h2; exact B.t1
        | 2, h1, h2 => simp at h1 h2; subst h1; subst h2; exact B.t2
        | 3, h1, h2 => simp at h1 h2; subst h1; subst h2; simp only [renC, e0]; exact hk
        | j + 4, h1, h2 => simp at h1
    refine List.all_eq_true.mpr fun c hc => ?_
    have hl : ([Cel.tbl 0, .tbl 1, .tbl 2, .lst xs] ++ od.2.map (renC fun j => j + 4)).length = 4 + od.2.length := al
    rw [hl]
    rcases List.mem_append.mp hc with hc | hc
    · simp at hc
      rcases hc with rfl | rfl | rfl | rfl
      · rfl
      · rfl
      · rfl
      · exact any
    · obtain ⟨c0, h0, rfl⟩ := List.mem_map.mp hc
      exact okC_ren (fun j hj => by simp only [decide_eq_true_eq] at hj ⊢; omega) c0 (List.all_eq_true.mp a.ok c0 h0)
  · simp only [renDs]
    rw [show renD up4 od.1 = renD (fun j => j + 4) od.1 from rfl, ren_pre (k := 4) (pre := [0, 1, 2, kk]) rfl, ← eo]
    rfl
end
end K

set_option Elab.async false
set_option linter.all false
set_option maxRecDepth 100000
set_option maxHeartbeats 0
namespace K
open PySem PySem.Spec PyProof.Rows Z
theorem cT_of {r : List D → Store → Res D} {vs : List D} {m : Store} (h : r vs m = .ok (.bl true) m) : cT r vs m = .ok (.bl true) m := by
  unfold cT
  split
  · rfl
  · exact h
def Q7 (N : Nat) : List D := [.ref (N + 1), .ref (N + 4), .ref (N + 5), .ref (N + 6), .ref (N + 7), .ref (N + 8), .ref (N + 9)]
/-- what the first part of a turn makes -/
def L1 (o : D) (N : Nat) : List Cel := asksN [o, .non] N ++ [.clo 7 [4], .lst [.ref (N + 9)], .lst (Q7 N)]
theorem L1_eq (o : D) (N : Nat) : L1 o N = [.lst [.ref (N + 1), .ref (N + 4), .ref (N + 5), .ref (N + 6), .ref (N + 7), .ref (N + 8)], .clo 0 [N + 2, N + 3], .box (some o), .box (some .non), .clo 1 [N + 2, N + 3], .clo 2 [N + 2, N + 3], .clo 3 [N + 2, N + 3], .clo 4 [N + 2, N + 3], .clo 5 [N + 2, N + 3], .clo 7 [4], .lst [.ref (N + 9)], .lst (Q7 N)] := rfl
section
variable {m : Store} {o : D} {b N : Nat}
/-- the asks of an odd web are all refused -/
theorem web_tells (B : Bs m) (h : OddB m o b) (hb : 4 < b) (h4 : m.cs[4]? = some (.box (some o))) (hN : N = m.cs.length) {lo : Nat} (nz : NoZ ⟨m.cs ++ L1 o N, lo⟩) : Tells r__law_all_met [.ref (N + 11), .tup [sWeb, o]] ⟨m.cs ++ L1 o N, lo⟩ (.bl true) := by
  obtain ⟨od, hod, sel, a, eo, hs⟩ := h
  have hk := List.all_eq_true.mp web_all od hod
  simp only [Bool.and_eq_true] at hk
  obtain ⟨⟨k1, k2⟩, k3⟩ := hk
  have ev := isOk_ok k3
  have sl : ∀ i ∈ sel, b ≤ i ∧ i < N := fun i hi => ⟨hs i hi, by rw [hN]; exact a.lt hi⟩
  have len : (webC od).length = od.2.length + 11 := by unfold webC; rw [List.length_append]; rfl
  have k0 := (List.getElem?_eq_some_iff.mp h4).1
  have g : ∀ {j : Nat} {c : Cel}, (L1 o N)[j]? = some c → (m.cs ++ L1 o N)[N + j]? = some c := fun e => (at_app hN.symm).trans e
  have q0 : tP (sel ++ [N + 2, N + 3, 4, N + 1, N + 4, N + 5, N + 6, N + 7, N + 8, N + 9, N + 11]) od.2.length = N + 2 := by rw [a.len]; exact tP_at0 rfl
  have q : ∀ j i, [N + 2, N + 3, 4, N + 1, N + 4, N + 5, N + 6, N + 7, N + 8, N + 9, N + 11][j]? = some i → tP (sel ++ [N + 2, N + 3, 4, N + 1, N + 4, N + 5, N + 6, N + 7, N + 8, N + 9, N + 11]) (od.2.length + j) = i := fun j i e => by rw [a.len]; exact tP_at e
  have eo' : renD (tP (sel ++ [N + 2, N + 3, 4, N + 1, N + 4, N + 5, N + 6, N + 7, N + 8, N + 9, N + 11])) od.1 = o := by rw [a.ren k1, eo]
  have A : At ⟨m.cs ++ L1 o N, lo⟩ (sel ++ [N + 2, N + 3, 4, N + 1, N + 4, N + 5, N + 6, N + 7, N + 8, N + 9, N + 11]) (webC od) := by
    refine At.more (At.app a) (List.nodup_append.mpr ⟨a.nd, by simp; omega, fun x hx y hy => by
      have := sl x hx
      simp at hy
      omega⟩) rfl k2 fun j i c h1 h2 => ?_
    match j, h1, h2 with
    | 0, h1, h2 => simp at h1 h2; subst h1; subst h2; simp only [renC, Option.map_some, eo']; exact g (j := 2) rfl
    | 1, h1, h2 => simp at h1 h2; subst h1; subst h2; exact g (j := 3) rfl
    | 2, h1, h2 => simp at h1 h2; subst h1; subst h2; simp only [renC, Option.map_some, eo']; exact old_app h4
    | 3, h1, h2 => simp at h1 h2; subst h1; subst h2; simp only [renC, List.map_cons, List.map_nil, q0, q 1 _ rfl]; exact g (j := 1) rfl
    | 4, h1, h2 => simp at h1 h2; subst h1; subst h2; simp only [renC, List.map_cons, List.map_nil, q0, q 1 _ rfl]; exact g (j := 4) rfl
    | 5, h1, h2 => simp at h1 h2; subst h1; subst h2; simp only [renC, List.map_cons, List.map_nil, q0, q 1 _ rfl]; exact g (j := 5) rfl
    | 6, h1, h2 => simp at h1 h2; subst h1; subst h2; simp only [renC, List.map_cons, List.map_nil, q0, q 1 _ rfl]; exact g (j := 6) rfl
    | 7, h1, h2 => simp at h1 h2; subst h1; subst h2; simp only [renC, List.map_cons, List.map_nil, q0, q 1 _ rfl]; exact g (j := 7) rfl
    | 8, h1, h2 => simp at h1 h2; subst h1; subst h2; simp only [renC, List.map_cons, List.map_nil, q0, q 1 _ rfl]; exact g (j := 8) rfl
    | 9, h1, h2 => simp at h1 h2; subst h1; subst h2; simp only [renC, List.map_cons, List.map_nil, q 2 _ rfl]; exact g (j := 9) rfl
    | 10, h1, h2 => simp at h1 h2; subst h1; subst h2; simp only [renC, renDs, renD, q 3 _ rfl, q 4 _ rfl, q 5 _ rfl, q 6 _ rfl, q 7 _ rfl, q 8 _ rfl, q 9 _ rfl]; exact g (j := 11) rfl
    | j + 11, h1, h2 => simp at h1
  refine ⟨webC od, [.ref (od.2.length + 10), .tup [sWeb, od.1]], .bl true, _, ev, ?_, rfl, A, nz, ?_, rfl⟩
  · have h1 : okD (fun j => decide (j < (webC od).length)) od.1 = true := okD_lt (by rw [len]; omega) k1
    have h2 : decide (od.2.length + 10 < (webC od).length) = true := by rw [len]; exact decide_eq_true (by omega)
    simp only [okDs, okD, h1, h2]
    rfl
  · simp only [renDs, renD, q 10 _ rfl, eo']
theorem L1_nz : ∀ c ∈ L1 o N, c.nz = true := by
  rw [L1_eq]
  intro c hc
  simp only [List.mem_cons, List.not_mem_nil, or_false] at hc
  rcases hc with rfl | rfl | rfl | rfl | rfl | rfl | rfl | rfl | rfl | rfl | rfl | rfl <;> rfl
theorem L1_ok (h4 : 4 < N) (ok : okD (fun j => decide (j < N)) o = true) : ∀ c ∈ L1 o N, okC (fun j => decide (j < N + 12)) c = true := by
  rw [L1_eq]
  intro c hc
  have o' : okD (fun j => decide (j < N + 12)) o = true := okD_lt (by omega) ok
  simp only [List.mem_cons, List.not_mem_nil, or_false] at hc
  rcases hc with rfl | rfl | rfl | rfl | rfl | rfl | rfl | rfl | rfl | rfl | rfl | rfl
  · simp [okC, okDs, okD]
  · simp [okC]
  · exact o'
  · rfl
  · simp [okC]
  · simp [okC]
  · simp [okC]
  · simp [okC]
  · simp [okC]
  · simp [okC]
    try omega
  · simp [okC, okDs, okD]
  · simp [okC, okDs, okD, Q7]
theorem asksN_nz {v w : D} {n : Nat} : ∀ c ∈ asksN [v, w] n, c.nz = true := by
  intro c hc
  simp only [asksN, List.mem_cons, List.not_mem_nil, or_false] at hc
  rcases hc with rfl | rfl | rfl | rfl | rfl | rfl | rfl | rfl | rfl <;> rfl
theorem asksN_okC {v w : D} {n : Nat} (hv : okD (fun j => decide (j < n)) v = true) (hw : okD (fun j => decide (j < n)) w = true) : ∀ c ∈ asksN [v, w] n, okC (fun j => decide (j < n + 9)) c = true := by
  intro c hc
  have v' : okD (fun j => decide (j < n + 9)) v = true := okD_lt (by omega) hv
  have w' : okD (fun j => decide (j < n + 9)) w = true := okD_lt (by omega) hw
  simp only [asksN, List.mem_cons, List.not_mem_nil, or_false] at hc
  rcases hc with rfl | rfl | rfl | rfl | rfl | rfl | rfl | rfl | rfl
  · simp [okC, okDs, okD]
  · simp [okC]
  · exact v'
  · exact w'
  · simp [okC]
  · simp [okC]
  · simp [okC]
  · simp [okC]
  · simp [okC]
end
end K

set_option Elab.async false
set_option linter.all false
set_option maxRecDepth 100000
set_option maxHeartbeats 0
namespace K
open PySem PySem.Spec PyProof.Rows Z
section
variable {m : Store} {o : D} {b N : Nat} {n : Int} {ps : List (Int × Int)} {s0 s1 s3 : Slot}
/-- a turn of the first loop -/
theorem turn1_ok (B : Bs m) (h : OddB m o b) (hb : 8 < b) (h4 : m.cs[4]? = some (.box (some o))) (W : Web n ps) (h8 : m.cs[8]? = some (.lst (ps.map dPair))) (hl : m.low ≤ m.cs.length) :
    ∃ l, v_turn1 [s0, s1, .val (wD n 8), s3, .box 4, .box 5] m = .nxt [s0, s1, .val (wD n 8), s3, .box 4, .box 5] ⟨m.cs ++ l, m.low⟩ ∧ Bs ⟨m.cs ++ l, m.low⟩ := by
  obtain ⟨N, hN⟩ : ∃ N, N = m.cs.length := ⟨_, rfl⟩
  obtain ⟨σ, hσ⟩ : ∃ σ : Sl, σ = [s0, s1, .val (wD n 8), s3, .box 4, .box 5] := ⟨_, rfl⟩
  have N8 : 8 < N := by rw [hN]; exact (List.getElem?_eq_some_iff.mp h8).1
  have ok0 : okD (fun j => decide (j < N)) o = true := by rw [hN]; exact h.ok
  have ev4 : ∀ (l : List Cel) (lo : Nat), eV 4 σ ⟨m.cs ++ l, lo⟩ = .ok o ⟨m.cs ++ l, lo⟩ := fun l lo => by
    rw [hσ]; unfold eV
    simp only [List.getElem?_cons_succ, List.getElem?_cons_zero, old_app h4]
  have ev2 : ∀ (M : Store), eV 2 σ M = .ok (wD n 8) M := fun M => by rw [hσ]; rfl
  -- the first asks
  have a1 := asks_w B h (by omega)
  have e1 : eCall (lCons (eV 4) (lCons (eC .non) lNil)) lNil (bindR 2 0 [0, 1] cAsks) σ m = .ok (.ref N) ⟨m.cs ++ asksN [o, .non] N, m.low⟩ := by
    have := call_2 (f := eV 4) (g := eC .non) (v := o) (u := .non) (m := m) (σ := σ) (m1 := m) (by have := ev4 [] m.low; rwa [List.append_nil] at this) rfl a1
    rw [← hN] at this; exact this
  have n1 : (m.cs ++ asksN [o, .non] N).length = N + 9 := by rw [List.length_append, ← hN]; rfl
  have e2' : eLst (lCons (eLam 2 2 7 [4]) lNil) σ ⟨m.cs ++ asksN [o, .non] N, m.low⟩ = .ok (.ref (N + 10)) ⟨(m.cs ++ asksN [o, .non] N) ++ [.clo 7 [4], .lst [.ref (N + 9)]], m.low⟩ := by
    have el := lam_go (tb := 2) (t := 2) (l := 7) (j := 4) (b := 4) (σ := σ) (m := ⟨m.cs ++ asksN [o, .non] N, m.low⟩) (old_app B.t2) (by rw [hσ]; rfl)
    unfold eLst
    rw [l1_go el]
    simp only [Res.bind, List.length_cons, List.length_nil, Store.push, Store.nx, n1]
    rw [if_pos (by decide)]
    simp
    show m.cs.length + 10 = N + 10
    omega
  have M2 : (m.cs ++ asksN [o, .non] N) ++ [Cel.clo 7 [4], .lst [.ref (N + 9)]] = m.cs ++ (asksN [o, .non] N ++ [Cel.clo 7 [4], .lst [.ref (N + 9)]]) := by rw [List.append_assoc]
  rw [M2] at e2'
  have s1' : Store.seq? ⟨m.cs ++ (asksN [o, .non] N ++ [Cel.clo 7 [4], .lst [.ref (N + 9)]]), m.low⟩ N = some [.ref (N + 1), .ref (N + 4), .ref (N + 5), .ref (N + 6), .ref (N + 7), .ref (N + 8)] := by
    unfold Store.seq?
    simp only [at_app0 (l := asksN [o, .non] N ++ [Cel.clo 7 [4], .lst [.ref (N + 9)]]) hN.symm]
    rfl
  have s2' : Store.seq? ⟨m.cs ++ (asksN [o, .non] N ++ [Cel.clo 7 [4], .lst [.ref (N + 9)]]), m.low⟩ (N + 10) = some [.ref (N + 9)] := by
    unfold Store.seq?
    simp only [at_app (i := 10) (l := asksN [o, .non] N ++ [Cel.clo 7 [4], .lst [.ref (N + 9)]]) hN.symm]
    rfl
  have n2 : (m.cs ++ (asksN [o, .non] N ++ [Cel.clo 7 [4], .lst [.ref (N + 9)]])).length = N + 11 := by rw [List.length_append, ← hN]; rfl
  have e3 : e2 rAdd (eCall (lCons (eV 4) (lCons (eC .non) lNil)) lNil (bindR 2 0 [0, 1] cAsks)) (eLst (lCons (eLam 2 2 7 [4]) lNil)) σ m = .ok (.ref (N + 11)) ⟨m.cs ++ L1 o N, m.low⟩ := by
    rw [k_e2 e1 e2']
    simp only [rAdd, s1', s2', Store.push, Store.nx, n2]
    rw [if_pos (by simp)]
    congr 2
    unfold L1
    simp only [List.append_assoc]
    rfl
  have nz3 : NoZ ⟨m.cs ++ L1 o N, m.low⟩ := nz_app B.nz L1_nz
  have l12 : (L1 o N).length = 12 := rfl
  have B3 : Bs ⟨m.cs ++ L1 o N, m.low⟩ := B.app (by rw [l12, ← hN]; exact L1_ok (by omega) ok0) L1_nz
  have t1 := cT_eq (web_tells B h (by omega) h4 hN nz3)
  have due : ∀ (c : List Nat) (l : List Cel), eTup (lCons (eC (.str c)) (lCons (eV 4) lNil)) σ ⟨m.cs ++ l, m.low⟩ = .ok (.tup [.str c, o]) ⟨m.cs ++ l, m.low⟩ := fun c l => by
    unfold eTup
    rw [k_l1 (f := eC (.str c)) (v := .str c) rfl (l1_go (ev4 l m.low))]
    simp only [Res.bind, List.length_cons, List.length_nil]
    rw [if_pos (by decide)]
  have f1 := call_2 e3 (due [119, 101, 98] (L1 o N)) t1
  -- the second asks
  have n3 : (m.cs ++ L1 o N).length = N + 12 := by rw [List.length_append, ← hN]; rfl
  have h3 : OddB ⟨m.cs ++ L1 o N, m.low⟩ o b := h.app
  have a2 := asks_g (n := n) B3 h3 (old_app h8) (okDs_pairs ps) (by decide) hb
  have e5 : eCall (lCons (eV 2) (lCons (eV 4) lNil)) lNil (bindR 2 0 [0, 1] cAsks) σ ⟨m.cs ++ L1 o N, m.low⟩ = .ok (.ref (N + 12)) ⟨m.cs ++ (L1 o N ++ asksN [wD n 8, o] (N + 12)), m.low⟩ := by
    have := call_2 (ev2 _) (ev4 (L1 o N) m.low) a2
    simp only [n3, List.append_assoc] at this
    exact this
  obtain ⟨E, hE⟩ : ∃ E, E = L1 o N ++ asksN [wD n 8, o] (N + 12) := ⟨_, rfl⟩
  rw [← hE] at e5
  have okw : okD (fun j => decide (j < N + 12)) (wD n 8) = true := by
    have : decide (8 < N + 12) = true := decide_eq_true (by omega)
    simp only [okD, okDs, this]; rfl
  have B4 : Bs ⟨m.cs ++ E, m.low⟩ := B.app (fun c hc => by
    have el : E.length = 21 := by rw [hE]; rfl
    rw [el, ← hN]
    rw [hE] at hc
    rcases List.mem_append.mp hc with hc | hc
    · exact okC_lt (by omega) (L1_ok (by omega) ok0 c hc)
    · exact okC_lt (by omega) (asksN_okC (n := N + 12) okw (okD_lt (by omega) ok0) c hc)) (fun c hc => by
    rw [hE] at hc
    rcases List.mem_append.mp hc with hc | hc
    · exact L1_nz c hc
    · exact asksN_nz c hc)
  have g : ∀ {j : Nat} {c : Cel}, (asksN [wD n 8, o] (N + 12))[j]? = some c → (m.cs ++ E)[N + 12 + j]? = some c := fun {j c} e => by
    rw [hE, ← List.append_assoc, at_app n3]; exact e
  have h5 : OddB ⟨m.cs ++ E, m.low⟩ o b := h.app
  have ge : GE ⟨m.cs ++ E, m.low⟩ n 8 ps o := ⟨B4.ws, B4.nz, W, old_app h8, B4.t0, B4.t1, B4.t2, h5.at (by omega), h5.ok⟩
  have t2 := cT_of (all_met_goal (a := N + 12) (bw := N + 12 + 2) (bg := N + 12 + 3) ge (by show m.low ≤ (m.cs ++ E).length; rw [List.length_append]; omega) (g (j := 0) rfl) rfl (fun x hx => by
    simp only [List.mem_cons, List.not_mem_nil, or_false] at hx
    rcases hx with rfl | rfl | rfl | rfl | rfl | rfl
    · exact ⟨_, 0, rfl, by decide, g (j := 1) rfl⟩
    · exact ⟨_, 1, rfl, by decide, g (j := 4) rfl⟩
    · exact ⟨_, 2, rfl, by decide, g (j := 5) rfl⟩
    · exact ⟨_, 3, rfl, by decide, g (j := 6) rfl⟩
    · exact ⟨_, 4, rfl, by decide, g (j := 7) rfl⟩
    · exact ⟨_, 5, rfl, by decide, g (j := 8) rfl⟩) (g (j := 2) rfl) (g (j := 3) rfl))
  have f2 := call_2 e5 (due [103, 111, 97, 108] E) t2
  refine ⟨E, ?_, B4⟩
  rw [← hσ]
  unfold v_turn1
  rw [k_nx (σ1 := σ) (m1 := ⟨m.cs ++ L1 o N, m.low⟩) (by rw [k_if (k_ntT f1)]; rfl)]
  rw [k_nx (σ1 := σ) (m1 := ⟨m.cs ++ E, m.low⟩) (by rw [k_if (k_ntT f2)]; rfl)]
  rfl
end
end K

set_option Elab.async false
set_option linter.all false
set_option maxRecDepth 100000
set_option maxHeartbeats 0
namespace K
open PySem PySem.Spec PyProof.Rows Z
theorem lam_goN {tb t l : Nat} {fr cs' : List Nat} {σ : Sl} {m : Store} (h : m.cs[tb]? = some (.tbl t)) (hb : omap (boxAt σ) fr = some cs') : eLam tb t l fr σ m = .ok (.ref m.cs.length) ⟨m.cs ++ [.clo l cs'], m.low⟩ := by
  unfold eLam
  rw [h]
  simp only [if_true, hb]
  rfl
theorem ask_goN {tb t l n s lo : Nat} {fr cs' : List Nat} {σ : Sl} {cs r : List Cel} {xs : List D} (hn : cs.length = n) (h : cs[tb]? = some (.tbl t)) (hb : omap (boxAt σ) fr = some cs') (hs : σ[s]? = some (.val (.ref n))) (hx : xs.length < 16777216) :
    sDrop (eMeth "list" (eV s) (lCons (eLam tb t l fr) lNil) rAppend) σ ⟨cs ++ (.lst xs :: r), lo⟩ = .nxt σ ⟨cs ++ (.lst (xs ++ [.ref (n + (1 + r.length))]) :: (r ++ [.clo l cs'])), min lo n⟩ := by
  have htb : (cs ++ (.lst xs :: r))[tb]? = some (.tbl t) := by rw [List.getElem?_append_left (List.getElem?_eq_some_iff.mp h).1]; exact h
  have hl : (cs ++ (.lst xs :: r))[n]? = some (.lst xs) := by rw [← hn]; simp
  have e1 : eV s σ ⟨cs ++ (.lst xs :: r), lo⟩ = .ok (.ref n) ⟨cs ++ (.lst xs :: r), lo⟩ := by unfold eV; rw [hs]
  have e2 := lam_goN (l := l) (m := ⟨cs ++ (.lst xs :: r), lo⟩) htb hb
  refine k_drop (v := .non) ?_
  rw [k_meth e1 (by simp only [tyOf, hl]) (l1_go e2)]
  have hl2 : ((cs ++ (.lst xs :: r)) ++ [Cel.clo l cs'])[n]? = some (.lst xs) := by
    rw [List.getElem?_append_left (List.getElem?_eq_some_iff.mp hl).1]; exact hl
  simp only [rAppend, hl2, Store.put]
  rw [if_pos hx]
  have e3 : (cs ++ (Cel.lst xs :: r) ++ [Cel.clo l cs']).set n (.lst (xs ++ [.ref (cs ++ (Cel.lst xs :: r)).length])) = cs ++ (.lst (xs ++ [.ref (n + (1 + r.length))]) :: (r ++ [.clo l cs'])) := by
    rw [List.append_assoc, List.set_append_right _ _ (by omega), hn]
    simp [hn, Nat.add_comm]
  rw [e3]
/-- o is an odd map in m -/
def LedB (m : Store) (o : D) (b e : Nat) : Prop := ∃ od ∈ leds0, ∃ sel, At m sel od.2 ∧ o = renD (tP sel) od.1 ∧ ∀ i ∈ sel, b ≤ i ∧ i < e
theorem LedB.app {m : Store} {l : List Cel} {lo : Nat} {o : D} {b e : Nat} (h : LedB m o b e) : LedB ⟨m.cs ++ l, lo⟩ o b e := by
  obtain ⟨od, h1, sel, a, r⟩ := h
  exact ⟨od, h1, sel, At.app a, r⟩
theorem LedB.ok {m : Store} {o : D} {b e : Nat} (h : LedB m o b e) : okD (fun j => decide (j < m.cs.length)) o = true := by
  obtain ⟨od, h1, sel, a, eo, hs⟩ := h
  have hk := List.all_eq_true.mp led_all od h1
  simp only [Bool.and_eq_true] at hk
  rw [eo]
  exact okD_ren (fun j hj => by
    obtain ⟨c, _, _, e3⟩ := a.get (j := j) (by simpa using hj)
    simpa using (List.getElem?_eq_some_iff.mp e3).1) od.1 hk.1.1.1
section
variable {m : Store} {o : D} {b e t : Nat}
/-- asks of one lambda -/
theorem led1 (B : Bs m) (h : LedB m o b e) {c a : Nat} (h4 : m.cs[4]? = some (.box (some o))) (h5 : m.cs[5]? = some (.box (some (.tup [.int 2, .ref t])))) (ht : m.cs[t]? = some (.lst [p2 0 1])) (t5 : 5 < t) (tb : t < b) (hc : m.cs[c]? = some (.clo 8 [5, 4])) (ha : m.cs[a]? = some (.lst [.ref c])) (ec : e ≤ c) (bc : b ≤ c) (ca : c < a) : Tells r__law_all_met [.ref a, .tup [sLed, o]] m (.bl true) := by
  obtain ⟨od, hod, sel, A, eo, hs⟩ := h
  have hk := List.all_eq_true.mp led_all od hod
  simp only [Bool.and_eq_true, ledOk] at hk
  obtain ⟨⟨⟨k1, k2, k3⟩, _⟩, _⟩ := hk
  have ev := isOk_ok k3
  have len : (ledC od [8]).length = od.2.length + 5 := by unfold ledC; simp
  have q0 : tP (sel ++ [t, 5, 4, c, a]) od.2.length = t := by rw [A.len]; exact tP_at0 rfl
  have q : ∀ j i, [t, 5, 4, c, a][j]? = some i → tP (sel ++ [t, 5, 4, c, a]) (od.2.length + j) = i := fun j i e => by rw [A.len]; exact tP_at e
  have eo' : renD (tP (sel ++ [t, 5, 4, c, a])) od.1 = o := by rw [A.ren k1, eo]
  have AA : At m (sel ++ [t, 5, 4, c, a]) (ledC od [8]) := by
    have el : ledC od [8] = od.2 ++ [.lst [p2 0 1], .box (some (.tup [.int 2, .ref od.2.length])), .box (some od.1), .clo 8 [od.2.length + 1, od.2.length + 2], .lst [.ref (od.2.length + 3)]] := by unfold ledC; simp
    rw [el] at k2 ⊢
    refine At.more A (List.nodup_append.mpr ⟨A.nd, by simp; omega, fun x hx y hy => by
      have := hs x hx
      simp at hy
      omega⟩) rfl k2 fun j i d h1 h2 => ?_
    match j, h1, h2 with
    | 0, h1, h2 => simp at h1 h2; subst h1; subst h2; exact ht
    | 1, h1, h2 => simp at h1 h2; subst h1; subst h2; simp only [renC, Option.map_some, renD, renDs, q0]; exact h5
    | 2, h1, h2 => simp at h1 h2; subst h1; subst h2; simp only [renC, Option.map_some, eo']; exact h4
    | 3, h1, h2 => simp at h1 h2; subst h1; subst h2; simp only [renC, List.map_cons, List.map_nil, q 1 _ rfl, q 2 _ rfl]; exact hc
    | 4, h1, h2 => simp at h1 h2; subst h1; subst h2; simp only [renC, renDs, renD, q 3 _ rfl]; exact ha
    | j + 5, h1, h2 => simp at h1
  refine ⟨ledC od [8], [.ref (od.2.length + 3 + 1), .tup [sLed, od.1]], .bl true, _, ev, ?_, rfl, AA, B.nz, ?_, rfl⟩
  · have h1 : okD (fun j => decide (j < (ledC od [8]).length)) od.1 = true := okD_lt (by rw [len]; omega) k1
    have h2 : decide (od.2.length + 3 + 1 < (ledC od [8]).length) = true := by rw [len]; exact decide_eq_true (by omega)
    simp only [okDs, okD, h1, h2]
    rfl
  · simp only [renDs, renD, eo']
    rw [show od.2.length + 3 + 1 = od.2.length + 4 by omega, q 4 _ rfl]
/-- asks of three lambdas -/
theorem led3 (B : Bs m) (h : LedB m o b e) {l1 l2 l3 c1 c2 c3 a : Nat} {w : D} (hw : ∃ x, w = .str x) (h4 : m.cs[4]? = some (.box (some o))) (h5 : m.cs[5]? = some (.box (some (.tup [.int 2, .ref t])))) (ht : m.cs[t]? = some (.lst [p2 0 1])) (t5 : 5 < t) (tb : t < b) (hc1 : m.cs[c1]? = some (.clo l1 [5, 4])) (hc2 : m.cs[c2]? = some (.clo l2 [5, 4])) (hc3 : m.cs[c3]? = some (.clo l3 [5, 4])) (ha : m.cs[a]? = some (.lst [.ref c1, .ref c2, .ref c3]))
    (ec : e ≤ c1) (bc : b ≤ c1) (o1 : c1 < a) (o2 : a < c2) (o3 : c2 < c3) (ok : ∀ od ∈ leds0, ledOk od [l1, l2, l3] w = true) : Tells r__law_all_met [.ref a, .tup [w, o]] m (.bl true) := by
  obtain ⟨od, hod, sel, A, eo, hs⟩ := h
  have hk := List.all_eq_true.mp led_all od hod
  simp only [Bool.and_eq_true] at hk
  have k1 := hk.1.1.1
  have ho := ok od hod
  simp only [ledOk, Bool.and_eq_true] at ho
  obtain ⟨k2, k3⟩ := ho
  have ev := isOk_ok k3
  have len : (ledC od [l1, l2, l3]).length = od.2.length + 7 := by unfold ledC; simp
  have q0 : tP (sel ++ [t, 5, 4, c1, c2, c3, a]) od.2.length = t := by rw [A.len]; exact tP_at0 rfl
  have q : ∀ j i, [t, 5, 4, c1, c2, c3, a][j]? = some i → tP (sel ++ [t, 5, 4, c1, c2, c3, a]) (od.2.length + j) = i := fun j i e => by rw [A.len]; exact tP_at e
  have eo' : renD (tP (sel ++ [t, 5, 4, c1, c2, c3, a])) od.1 = o := by rw [A.ren k1, eo]
  have AA : At m (sel ++ [t, 5, 4, c1, c2, c3, a]) (ledC od [l1, l2, l3]) := by
    have el : ledC od [l1, l2, l3] = od.2 ++ [.lst [p2 0 1], .box (some (.tup [.int 2, .ref od.2.length])), .box (some od.1), .clo l1 [od.2.length + 1, od.2.length + 2], .clo l2 [od.2.length + 1, od.2.length + 2], .clo l3 [od.2.length + 1, od.2.length + 2], .lst [.ref (od.2.length + 3), .ref (od.2.length + 4), .ref (od.2.length + 5)]] := by
      unfold ledC
      simp [List.range, List.range.loop]
    rw [el] at k2 ⊢
    refine At.more A (List.nodup_append.mpr ⟨A.nd, by simp; omega, fun x hx y hy => by
      have := hs x hx
      simp at hy
      omega⟩) rfl k2 fun j i d h1 h2 => ?_
    match j, h1, h2 with
    | 0, h1, h2 => simp at h1 h2; subst h1; subst h2; exact ht
    | 1, h1, h2 => simp at h1 h2; subst h1; subst h2; simp only [renC, Option.map_some, renD, renDs, q0]; exact h5
    | 2, h1, h2 => simp at h1 h2; subst h1; subst h2; simp only [renC, Option.map_some, eo']; exact h4
    | 3, h1, h2 => simp at h1 h2; subst h1; subst h2; simp only [renC, List.map_cons, List.map_nil, q 1 _ rfl, q 2 _ rfl]; exact hc1
    | 4, h1, h2 => simp at h1 h2; subst h1; subst h2; simp only [renC, List.map_cons, List.map_nil, q 1 _ rfl, q 2 _ rfl]; exact hc2
    | 5, h1, h2 => simp at h1 h2; subst h1; subst h2; simp only [renC, List.map_cons, List.map_nil, q 1 _ rfl, q 2 _ rfl]; exact hc3
    | 6, h1, h2 => simp at h1 h2; subst h1; subst h2; simp only [renC, renDs, renD, q 3 _ rfl, q 4 _ rfl, q 5 _ rfl]; exact ha
    | j + 7, h1, h2 => simp at h1
  obtain ⟨x, rfl⟩ := hw
  refine ⟨ledC od [l1, l2, l3], [.ref (od.2.length + 3 + 3), .tup [.str x, od.1]], .bl true, _, ev, ?_, rfl, AA, B.nz, ?_, rfl⟩
  · have h1 : okD (fun j => decide (j < (ledC od [l1, l2, l3]).length)) od.1 = true := okD_lt (by rw [len]; omega) k1
    have h2 : decide (od.2.length + 3 + 3 < (ledC od [l1, l2, l3]).length) = true := by rw [len]; exact decide_eq_true (by omega)
    simp only [okDs, okD, h1, h2]
    rfl
  · simp only [renDs, renD, eo']
    rw [show od.2.length + 3 + 3 = od.2.length + 6 by omega, q 6 _ rfl]
end
end K

set_option Elab.async false
set_option linter.all false
set_option maxRecDepth 100000
set_option maxHeartbeats 0
namespace K
open PySem PySem.Spec PyProof.Rows Z
def L2_ (N : Nat) : List Cel := [.clo 8 [5, 4], .lst [.ref N]]
def L3_ (N : Nat) : List Cel := L2_ N ++ [.clo 9 [5, 4], .lst [.ref (N + 2), .ref (N + 4), .ref (N + 5)], .clo 10 [5, 4], .clo 11 [5, 4]]
def L4_ (N : Nat) : List Cel := L3_ N ++ [.clo 12 [5, 4], .lst [.ref (N + 6), .ref (N + 8), .ref (N + 9)], .clo 13 [5, 4], .clo 14 [5, 4]]
theorem L4_nz {N : Nat} : ∀ c ∈ L4_ N, c.nz = true := by
  intro c hc
  simp only [L4_, L3_, L2_, List.cons_append, List.nil_append, List.mem_cons, List.not_mem_nil, or_false] at hc
  rcases hc with rfl | rfl | rfl | rfl | rfl | rfl | rfl | rfl | rfl | rfl <;> rfl
theorem L4_ok {N : Nat} (h : 5 < N) : ∀ c ∈ L4_ N, okC (fun j => decide (j < N + 10)) c = true := by
  have d : ∀ k, k < 10 → decide (N + k < N + 10) = true := fun k hk => decide_eq_true (by omega)
  have d0 : decide (N < N + 10) = true := decide_eq_true (by omega)
  have d4 : decide (4 < N + 10) = true := decide_eq_true (by omega)
  have d5 : decide (5 < N + 10) = true := decide_eq_true (by omega)
  have d2 := d 2 (by decide)
  have e4 := d 4 (by decide)
  have e5 := d 5 (by decide)
  have d6 := d 6 (by decide)
  have d8 := d 8 (by decide)
  have d9 := d 9 (by decide)
  intro c hc
  simp only [L4_, L3_, L2_, List.cons_append, List.nil_append, List.mem_cons, List.not_mem_nil, or_false] at hc
  rcases hc with rfl | rfl | rfl | rfl | rfl | rfl | rfl | rfl | rfl | rfl <;> simp only [okC, okDs, okD, List.all_cons, List.all_nil, d0, d2, d4, d5, e4, e5, d6, d8, d9] <;> rfl
section
variable {m : Store} {o : D} {b e t : Nat} {s0 s1 s2 s3 : Slot}
/-- a turn of the second loop -/
theorem turn2_ok (B : Bs m) (h : LedB m o b e) (h4 : m.cs[4]? = some (.box (some o))) (h5 : m.cs[5]? = some (.box (some (.tup [.int 2, .ref t])))) (ht : m.cs[t]? = some (.lst [p2 0 1])) (t5 : 5 < t) (tb : t < b) (be : b ≤ e) (eN : e ≤ m.cs.length) (hl : m.low ≤ m.cs.length) (l3 : ∀ q, s3 ≠ .box q) :
    ∃ l, v_turn2 [s0, s1, s2, s3, .box 4, .box 5] m = .nxt [s0, s1, s2, .val (.ref (m.cs.length + 7)), .box 4, .box 5] ⟨m.cs ++ l, m.low⟩ ∧ Bs ⟨m.cs ++ l, m.low⟩ := by
  obtain ⟨N, hN⟩ : ∃ N, N = m.cs.length := ⟨_, rfl⟩
  rw [← hN] at eN
  have ev4 : ∀ (s3 : Slot) (l : List Cel) (lo : Nat), eV 4 [s0, s1, s2, s3, .box 4, .box 5] ⟨m.cs ++ l, lo⟩ = .ok o ⟨m.cs ++ l, lo⟩ := fun s3 l lo => by
    unfold eV
    simp only [List.getElem?_cons_succ, List.getElem?_cons_zero, old_app h4]
  have due : ∀ (s3 : Slot) (c : List Nat) (l : List Cel), eTup (lCons (eC (.str c)) (lCons (eV 4) lNil)) [s0, s1, s2, s3, .box 4, .box 5] ⟨m.cs ++ l, m.low⟩ = .ok (.tup [.str c, o]) ⟨m.cs ++ l, m.low⟩ := fun s3 c l => by
    unfold eTup
    rw [k_l1 (f := eC (.str c)) (v := .str c) rfl (l1_go (ev4 s3 l m.low))]
    simp only [Res.bind, List.length_cons, List.length_nil]
    rw [if_pos (by decide)]
  have bx : ∀ s3 : Slot, omap (boxAt [s0, s1, s2, s3, .box 4, .box 5]) [5, 4] = some [5, 4] := fun s3 => rfl
  have N5 : 5 < N := by omega
  have B2 : Bs ⟨m.cs ++ L2_ N, m.low⟩ := B.app (by
    rw [show (L2_ N).length = 2 from rfl, ← hN]
    intro c hc
    have x0 : decide (N < N + 2) = true := decide_eq_true (by omega)
    have x4 : decide (4 < N + 2) = true := decide_eq_true (by omega)
    have x5 : decide (5 < N + 2) = true := decide_eq_true (by omega)
    simp only [L2_, List.mem_cons, List.not_mem_nil, or_false] at hc
    rcases hc with rfl | rfl <;> simp only [okC, okDs, okD, List.all_cons, List.all_nil, x0, x4, x5] <;> rfl) (fun c hc => L4_nz (N := N) c (by unfold L4_ L3_; simp [hc]))
  have B3 : Bs ⟨m.cs ++ L3_ N, m.low⟩ := B.app (by
    rw [show (L3_ N).length = 6 from rfl, ← hN]
    intro c hc
    have x0 : decide (N < N + 6) = true := decide_eq_true (by omega)
    have x2 : decide (N + 2 < N + 6) = true := decide_eq_true (by omega)
    have y4 : decide (N + 4 < N + 6) = true := decide_eq_true (by omega)
    have y5 : decide (N + 5 < N + 6) = true := decide_eq_true (by omega)
    have x4 : decide (4 < N + 6) = true := decide_eq_true (by omega)
    have x5 : decide (5 < N + 6) = true := decide_eq_true (by omega)
    simp only [L3_, L2_, List.cons_append, List.nil_append, List.mem_cons, List.not_mem_nil, or_false] at hc
    rcases hc with rfl | rfl | rfl | rfl | rfl | rfl <;> simp only [okC, okDs, okD, List.all_cons, List.all_nil, x0, x2, x4, x5, y4, y5] <;> rfl) (fun c hc => L4_nz (N := N) c (by unfold L4_; simp [hc]))
  have B4 : Bs ⟨m.cs ++ L4_ N, m.low⟩ := B.app (by rw [show (L4_ N).length = 10 from rfl, ← hN]; exact L4_ok N5) L4_nz
  have g2 : ∀ {j : Nat} {c : Cel}, (L2_ N)[j]? = some c → (m.cs ++ L2_ N)[N + j]? = some c := fun e => (at_app hN.symm).trans e
  have g3 : ∀ {j : Nat} {c : Cel}, (L3_ N)[j]? = some c → (m.cs ++ L3_ N)[N + j]? = some c := fun e => (at_app hN.symm).trans e
  have g4 : ∀ {j : Nat} {c : Cel}, (L4_ N)[j]? = some c → (m.cs ++ L4_ N)[N + j]? = some c := fun e => (at_app hN.symm).trans e
  -- one lambda
  have a1 : eLst (lCons (eLam 2 2 8 [5, 4]) lNil) [s0, s1, s2, s3, .box 4, .box 5] m = .ok (.ref (N + 1)) ⟨m.cs ++ L2_ N, m.low⟩ := by
    have el := lam_goN (tb := 2) (t := 2) (l := 8) (m := m) B.t2 (bx s3)
    unfold eLst
    rw [l1_go el]
    simp only [Res.bind, List.length_cons, List.length_nil, Store.push, Store.nx, List.length_append]
    rw [if_pos (by decide)]
    simp [L2_, hN]
  have T1 := cT_eq (led1 B2 h.app (c := N) (a := N + 1) (old_app h4) (old_app h5) (old_app ht) t5 tb (g2 (j := 0) rfl) (g2 (j := 1) rfl) eN (by omega) (by omega))
  have f1 := call_2 a1 (due s3 [108, 101, 100] (L2_ N)) T1
  -- three lambdas
  have n2 : (m.cs ++ L2_ N).length = N + 2 := by rw [List.length_append, ← hN]; rfl
  have b1 : eLst (lCons (eLam 2 2 9 [5, 4]) lNil) [s0, s1, s2, s3, .box 4, .box 5] ⟨m.cs ++ L2_ N, m.low⟩ = .ok (.ref (N + 3)) ⟨((m.cs ++ L2_ N) ++ [.clo 9 [5, 4]]) ++ (.lst [.ref (N + 2)] :: []), m.low⟩ := by
    have el := lam_goN (tb := 2) (t := 2) (l := 9) (m := ⟨m.cs ++ L2_ N, m.low⟩) B2.t2 (bx s3)
    unfold eLst
    rw [l1_go el]
    simp only [Res.bind, List.length_cons, List.length_nil, Store.push, Store.nx, List.length_append, n2]
    rw [if_pos (by decide)]
    try simp [← hN]
    try rfl
  have m3 : ((m.cs ++ L2_ N) ++ [Cel.clo 9 [5, 4]]).length = N + 3 := by rw [List.length_append, n2]; rfl
  have mn : ∀ k, min m.low (N + k) = m.low := fun k => by omega
  have t23 : ((m.cs ++ L2_ N) ++ [Cel.clo 9 [5, 4]])[2]? = some (.tbl 2) := old_app B2.t2
  have r3 := ask_goN (tb := 2) (t := 2) (l := 10) (s := 3) (lo := m.low) (r := []) (xs := [.ref (N + 2)]) m3 t23 (bx (.val (.ref (N + 3)))) rfl (by simp)
  have r4 := ask_goN (tb := 2) (t := 2) (l := 11) (s := 3) (lo := min m.low (N + 3)) (r := [.clo 10 [5, 4]]) (xs := [.ref (N + 2), .ref (N + 4)]) m3 t23 (bx (.val (.ref (N + 3)))) rfl (by simp)
  have E3 : ((m.cs ++ L2_ N) ++ [Cel.clo 9 [5, 4]]) ++ (.lst [.ref (N + 2), .ref (N + 4), .ref (N + 5)] :: [.clo 10 [5, 4], .clo 11 [5, 4]]) = m.cs ++ L3_ N := by
    unfold L3_; simp [List.append_assoc]
  have T2 := cT_eq (led3 B3 h.app (w := sOne) (l1 := 9) (l2 := 10) (l3 := 11) (c1 := N + 2) (c2 := N + 4) (c3 := N + 5) (a := N + 3) ⟨_, rfl⟩ (old_app h4) (old_app h5) (old_app ht) t5 tb (g3 (j := 2) rfl) (g3 (j := 4) rfl) (g3 (j := 5) rfl) (g3 (j := 3) rfl) (by omega) (by omega) (by omega) (by omega) (by omega) fun od ho => by
    have hk := List.all_eq_true.mp led_all od ho
    simp only [Bool.and_eq_true] at hk
    exact hk.1.2)
  have f2 := call_2 (f := eV 3) (σ := [s0, s1, s2, .val (.ref (N + 3)), .box 4, .box 5]) rfl (due (.val (.ref (N + 3))) [111, 110, 101] (L3_ N)) T2
  -- three more
  have n3 : (m.cs ++ L3_ N).length = N + 6 := by rw [List.length_append, ← hN]; rfl
  have c1 : eLst (lCons (eLam 2 2 12 [5, 4]) lNil) [s0, s1, s2, .val (.ref (N + 3)), .box 4, .box 5] ⟨m.cs ++ L3_ N, m.low⟩ = .ok (.ref (N + 7)) ⟨((m.cs ++ L3_ N) ++ [.clo 12 [5, 4]]) ++ (.lst [.ref (N + 6)] :: []), m.low⟩ := by
    have el := lam_goN (tb := 2) (t := 2) (l := 12) (m := ⟨m.cs ++ L3_ N, m.low⟩) B3.t2 (bx (.val (.ref (N + 3))))
    unfold eLst
    rw [l1_go el]
    simp only [Res.bind, List.length_cons, List.length_nil, Store.push, Store.nx, List.length_append, n3]
    rw [if_pos (by decide)]
    try simp [← hN]
    try rfl
  have m4 : ((m.cs ++ L3_ N) ++ [Cel.clo 12 [5, 4]]).length = N + 7 := by rw [List.length_append, n3]; rfl
  have t24 : ((m.cs ++ L3_ N) ++ [Cel.clo 12 [5, 4]])[2]? = some (.tbl 2) := old_app B3.t2
  have r5 := ask_goN (tb := 2) (t := 2) (l := 13) (s := 3) (lo := m.low) (r := []) (xs := [.ref (N + 6)]) m4 t24 (bx (.val (.ref (N + 7)))) rfl (by simp)
  have r6 := ask_goN (tb := 2) (t := 2) (l := 14) (s := 3) (lo := min m.low (N + 7)) (r := [.clo 13 [5, 4]]) (xs := [.ref (N + 6), .ref (N + 8)]) m4 t24 (bx (.val (.ref (N + 7)))) rfl (by simp)
  have E4 : ((m.cs ++ L3_ N) ++ [Cel.clo 12 [5, 4]]) ++ (.lst [.ref (N + 6), .ref (N + 8), .ref (N + 9)] :: [.clo 13 [5, 4], .clo 14 [5, 4]]) = m.cs ++ L4_ N := by
    unfold L4_; simp [List.append_assoc]
  have T3 := cT_eq (led3 B4 h.app (w := sOther) (l1 := 12) (l2 := 13) (l3 := 14) (c1 := N + 6) (c2 := N + 8) (c3 := N + 9) (a := N + 7) ⟨_, rfl⟩ (old_app h4) (old_app h5) (old_app ht) t5 tb (g4 (j := 6) rfl) (g4 (j := 8) rfl) (g4 (j := 9) rfl) (g4 (j := 7) rfl) (by omega) (by omega) (by omega) (by omega) (by omega) fun od ho => by
    have hk := List.all_eq_true.mp led_all od ho
    simp only [Bool.and_eq_true] at hk
    exact hk.2)
  have f3 := call_2 (f := eV 3) (σ := [s0, s1, s2, .val (.ref (N + 7)), .box 4, .box 5]) rfl (due (.val (.ref (N + 7))) [111, 116, 104, 101, 114] (L4_ N)) T3
  refine ⟨L4_ N, ?_, B4⟩
  rw [← hN]
  unfold v_turn2
  rw [k_nx (σ1 := [s0, s1, s2, s3, .box 4, .box 5]) (m1 := ⟨m.cs ++ L2_ N, m.low⟩) (by rw [k_if (k_ntT f1)]; rfl)]
  rw [k_nx (σ1 := [s0, s1, s2, .val (.ref (N + 3)), .box 4, .box 5]) (m1 := ⟨((m.cs ++ L2_ N) ++ [.clo 9 [5, 4]]) ++ (.lst [.ref (N + 2)] :: []), m.low⟩) (by rw [k_asg b1, gName_lc (s := s3) rfl l3]; rfl)]
  rw [k_nx r3]
  rw [show ([D.ref (N + 2)] ++ [D.ref (N + 3 + (1 + ([] : List Cel).length))]) = [.ref (N + 2), .ref (N + 4)] from rfl, show (([] : List Cel) ++ [Cel.clo 10 [5, 4]]) = [.clo 10 [5, 4]] from rfl, k_nx r4]
  rw [show ([D.ref (N + 2), .ref (N + 4)] ++ [D.ref (N + 3 + (1 + [Cel.clo 10 [5, 4]].length))]) = [.ref (N + 2), .ref (N + 4), .ref (N + 5)] from rfl, show ([Cel.clo 10 [5, 4]] ++ [Cel.clo 11 [5, 4]]) = [.clo 10 [5, 4], .clo 11 [5, 4]] from rfl, E3, mn, mn]
  rw [k_nx (σ1 := [s0, s1, s2, .val (.ref (N + 3)), .box 4, .box 5]) (m1 := ⟨m.cs ++ L3_ N, m.low⟩) (by rw [k_if (k_ntT f2)]; rfl)]
  rw [k_nx (σ1 := [s0, s1, s2, .val (.ref (N + 7)), .box 4, .box 5]) (m1 := ⟨((m.cs ++ L3_ N) ++ [.clo 12 [5, 4]]) ++ (.lst [.ref (N + 6)] :: []), m.low⟩) (by rw [k_asg c1, gName_lc (s := .val (.ref (N + 3))) rfl (fun q z => by cases z)]; rfl)]
  rw [k_nx r5]
  rw [show ([D.ref (N + 6)] ++ [D.ref (N + 7 + (1 + ([] : List Cel).length))]) = [.ref (N + 6), .ref (N + 8)] from rfl, show (([] : List Cel) ++ [Cel.clo 13 [5, 4]]) = [.clo 13 [5, 4]] from rfl, k_nx r6]
  rw [show ([D.ref (N + 6), .ref (N + 8)] ++ [D.ref (N + 7 + (1 + [Cel.clo 13 [5, 4]].length))]) = [.ref (N + 6), .ref (N + 8), .ref (N + 9)] from rfl, show ([Cel.clo 13 [5, 4]] ++ [Cel.clo 14 [5, 4]]) = [.clo 13 [5, 4], .clo 14 [5, 4]] from rfl, E4, mn, mn]
  rw [k_nx (σ1 := [s0, s1, s2, .val (.ref (N + 7)), .box 4, .box 5]) (m1 := ⟨m.cs ++ L4_ N, m.low⟩) (by rw [k_if (k_ntT f3)]; rfl)]
  rfl
end
end K

set_option Elab.async false
set_option linter.all false
set_option maxRecDepth 100000
set_option maxHeartbeats 0
namespace K
open PySem PySem.Spec PyProof.Rows Z
theorem stream_eq : r__law_stream = rStream := rfl
theorem u_web_eq : r__law_u_web = rUWeb := rfl
theorem odd_0 {m : Store} {o : D} {b k : Nat} (hk : odds0[k]? = some (o, [])) (e : o = renD (tP []) o) : OddB m o b := ⟨_, List.mem_of_getElem? hk, [], At.nil m, e, fun j hj => nomatch hj⟩
theorem odd_1 {m : Store} {o v : D} {c : Cel} {b i k : Nat} (hk : odds0[k]? = some (v, [c])) (e : o = renD (tP [i]) v) (hc : m.cs[i]? = some (renC (tP [i]) c)) (ok : okCs [c] = true) (h1 : b ≤ i) : OddB m o b := ⟨_, List.mem_of_getElem? hk, [i], At.one hc ok, e, fun j hj => by simp at hj; subst hj; exact h1⟩
theorem odd_2 {m : Store} {o v : D} {c d : Cel} {b i j k : Nat} (hk : odds0[k]? = some (v, [c, d])) (e : o = renD (tP [i, j]) v) (hc : m.cs[i]? = some (renC (tP [i, j]) c)) (hd : m.cs[j]? = some (renC (tP [i, j]) d)) (ok : okCs [c, d] = true) (h1 : b ≤ i) (h2 : i < j) : OddB m o b := ⟨_, List.mem_of_getElem? hk, [i, j], ⟨by simp; omega, rfl, ok, fun q r x e1 e2 => by
  match q, e1, e2 with
  | 0, e1, e2 => simp at e1 e2; subst e1; subst e2; exact hc
  | 1, e1, e2 => simp at e1 e2; subst e1; subst e2; exact hd
  | q + 2, e1, e2 => simp at e1⟩, e, fun q hq => by simp at hq; omega⟩
theorem led_0 {m : Store} {o : D} {b e k : Nat} (hk : leds0[k]? = some (o, [])) (ev : o = renD (tP []) o) : LedB m o b e := ⟨_, List.mem_of_getElem? hk, [], At.nil m, ev, fun j hj => nomatch hj⟩
theorem led_1 {m : Store} {o v : D} {c : Cel} {b e i k : Nat} (hk : leds0[k]? = some (v, [c])) (ev : o = renD (tP [i]) v) (hc : m.cs[i]? = some (renC (tP [i]) c)) (ok : okCs [c] = true) (h1 : b ≤ i) (h2 : i < e) : LedB m o b e := ⟨_, List.mem_of_getElem? hk, [i], At.one hc ok, ev, fun j hj => by simp at hj; subst hj; exact ⟨h1, h2⟩⟩
/-- the odd webs stand in m from n on -/
theorem odds_at {m : Store} {n : Nat} (h : ∀ j c, (oddC n)[j]? = some c → m.cs[n + 1 + j]? = some c) : ∀ o ∈ oddV n, OddB m o (n + 1) := by
  have g : ∀ j c, (oddC n)[j]? = some c → m.cs[n + (j + 1)]? = some c := fun j c e => by
    have := h j c e
    rw [show n + (j + 1) = n + 1 + j by omega]; exact this
  intro o ho
  simp only [oddV, List.mem_cons, List.not_mem_nil, or_false] at ho
  rcases ho with rfl | rfl | rfl | rfl | rfl | rfl | rfl | rfl | rfl | rfl | rfl | rfl | rfl | rfl | rfl | rfl | rfl | rfl | rfl | rfl | rfl
  · exact odd_0 (k := 0) rfl rfl
  · exact odd_0 (k := 1) rfl rfl
  · exact odd_0 (k := 2) rfl rfl
  · exact odd_1 (k := 3) (i := n + 1) rfl rfl (g 0 _ rfl) rfl (by omega)
  · exact odd_1 (k := 4) (i := n + 2) rfl rfl (g 1 _ rfl) rfl (by omega)
  · exact odd_0 (k := 5) rfl rfl
  · exact odd_1 (k := 6) (i := n + 3) rfl rfl (g 2 _ rfl) rfl (by omega)
  · exact odd_0 (k := 7) rfl rfl
  · exact odd_1 (k := 8) (i := n + 4) rfl rfl (g 3 _ rfl) rfl (by omega)
  · exact odd_0 (k := 9) rfl rfl
  · exact odd_1 (k := 10) (i := n + 5) rfl rfl (g 4 _ rfl) rfl (by omega)
  · exact odd_1 (k := 11) (i := n + 6) rfl rfl (g 5 _ rfl) rfl (by omega)
  · exact odd_1 (k := 12) (i := n + 7) rfl rfl (g 6 _ rfl) rfl (by omega)
  · exact odd_1 (k := 13) (i := n + 8) rfl rfl (g 7 _ rfl) rfl (by omega)
  · exact odd_1 (k := 14) (i := n + 9) rfl rfl (g 8 _ rfl) rfl (by omega)
  · exact odd_1 (k := 15) (i := n + 10) rfl rfl (g 9 _ rfl) rfl (by omega)
  · exact odd_2 (k := 16) (i := n + 11) (j := n + 12) rfl rfl (g 10 _ rfl) (g 11 _ rfl) rfl (by omega) (by omega)
  · exact odd_1 (k := 17) (i := n + 13) rfl rfl (g 12 _ rfl) rfl (by omega)
  · exact odd_1 (k := 18) (i := n + 14) rfl rfl (g 13 _ rfl) rfl (by omega)
  · exact odd_2 (k := 19) (i := n + 15) (j := n + 16) rfl rfl (g 14 _ rfl) (g 15 _ rfl) rfl (by omega) (by omega)
  · exact odd_1 (k := 20) (i := n + 17) rfl rfl (g 16 _ rfl) rfl (by omega)
theorem odds_made {m : Store} (nz : NoZ m) : cOdds [] m = .ok (.ref m.cs.length) ⟨m.cs ++ (.lst (oddV m.cs.length) :: oddC m.cs.length), m.low⟩ := by
  have x := cN_eq (isOk_ok odds_all) nz
  exact x.trans (by rfl)
/-- the odd maps -/
def ledV (n : Nat) : List D := [.non, .int 5, .str [48, 49], .ref n, .ref (n + 1), .ref (n + 2), .ref (n + 3), .ref (n + 4), .ref (n + 5), .ref (n + 6), .ref (n + 7), .ref (n + 8)]
def ledCs : List Cel := [.dct [], .lst [], .lst [.int 0], .lst [.int 0, .int 0], .lst [.int 0, .int 2], .lst [.int 0, .int 1, .int 0], .lst [.bl true, .int 0], .lst [.int 0, .non], .lst [.int (-1), .int 0]]
theorem leds_at {m : Store} {n : Nat} (g : ∀ j c, ledCs[j]? = some c → m.cs[n + j]? = some c) : ∀ o ∈ ledV n, LedB m o n (n + 9) := by
  intro o ho
  simp only [ledV, List.mem_cons, List.not_mem_nil, or_false] at ho
  rcases ho with rfl | rfl | rfl | rfl | rfl | rfl | rfl | rfl | rfl | rfl | rfl | rfl
  · exact led_0 (k := 0) rfl rfl
  · exact led_0 (k := 1) rfl rfl
  · exact led_0 (k := 2) rfl rfl
  · exact led_1 (k := 3) (i := n) rfl rfl (g 0 _ rfl) rfl (by omega) (by omega)
  · exact led_1 (k := 4) (i := n + 1) rfl rfl (g 1 _ rfl) rfl (by omega) (by omega)
  · exact led_1 (k := 5) (i := n + 2) rfl rfl (g 2 _ rfl) rfl (by omega) (by omega)
  · exact led_1 (k := 6) (i := n + 3) rfl rfl (g 3 _ rfl) rfl (by omega) (by omega)
  · exact led_1 (k := 7) (i := n + 4) rfl rfl (g 4 _ rfl) rfl (by omega) (by omega)
  · exact led_1 (k := 8) (i := n + 5) rfl rfl (g 5 _ rfl) rfl (by omega) (by omega)
  · exact led_1 (k := 9) (i := n + 6) rfl rfl (g 6 _ rfl) rfl (by omega) (by omega)
  · exact led_1 (k := 10) (i := n + 7) rfl rfl (g 7 _ rfl) rfl (by omega) (by omega)
  · exact led_1 (k := 11) (i := n + 8) rfl rfl (g 8 _ rfl) rfl (by omega) (by omega)
def ledE : EV := (eTup (lCons (eC .non) (lCons (eC (.int 5)) (lCons (eC (.str [48, 49])) (lCons eDct0 (lCons (eLst lNil) (lCons (eLst (lCons (eC (.int 0)) lNil)) (lCons (eLst (lCons (eC (.int 0)) (lCons (eC (.int 0)) lNil))) (lCons (eLst (lCons (eC (.int 0)) (lCons (eC (.int 2)) lNil))) (lCons (eLst (lCons (eC (.int 0)) (lCons (eC (.int 1)) (lCons (eC (.int 0)) lNil)))) (lCons (eLst (lCons (eC (.bl true)) (lCons (eC (.int 0)) lNil))) (lCons (eLst (lCons (eC (.int 0)) (lCons (eC .non) lNil))) (lCons (eLst (lCons (eNeg (eC (.int 1))) (lCons (eC (.int 0)) lNil))) lNil)))))))))))))
theorem ledE_go {σ : Sl} {m : Store} : ledE σ m = .ok (.tup (ledV m.cs.length)) ⟨m.cs ++ ledCs, m.low⟩ := by
  have nx : ∀ (l : List Cel), (⟨m.cs ++ l, m.low⟩ : Store).cs.length = m.cs.length + l.length := fun l => List.length_append
  have L : ∀ {fa : LV} {xs : List D} (l : List Cel), fa σ ⟨m.cs ++ l, m.low⟩ = .ok xs ⟨m.cs ++ l, m.low⟩ → xs.length ≤ 16777216 → eLst fa σ ⟨m.cs ++ l, m.low⟩ = .ok (.ref (m.cs.length + l.length)) ⟨m.cs ++ (l ++ [.lst xs]), m.low⟩ := fun {fa xs} l h hx => by
    unfold eLst
    rw [h]
    simp only [Res.bind]
    rw [if_pos hx]
    simp [Store.push, Store.nx]
  have e0 : eDct0 σ m = .ok (.ref m.cs.length) ⟨m.cs ++ [.dct []], m.low⟩ := rfl
  have f1 := L (fa := lNil) (xs := []) [.dct []] rfl (by decide)
  have f2 := L (fa := lCons (eC (.int 0)) lNil) (xs := [.int 0]) [.dct [], .lst []] rfl (by decide)
  have f3 := L (fa := lCons (eC (.int 0)) (lCons (eC (.int 0)) lNil)) (xs := [.int 0, .int 0]) [.dct [], .lst [], .lst [.int 0]] rfl (by decide)
  have f4 := L (fa := lCons (eC (.int 0)) (lCons (eC (.int 2)) lNil)) (xs := [.int 0, .int 2]) [.dct [], .lst [], .lst [.int 0], .lst [.int 0, .int 0]] rfl (by decide)
  have f5 := L (fa := lCons (eC (.int 0)) (lCons (eC (.int 1)) (lCons (eC (.int 0)) lNil))) (xs := [.int 0, .int 1, .int 0]) [.dct [], .lst [], .lst [.int 0], .lst [.int 0, .int 0], .lst [.int 0, .int 2]] rfl (by decide)
  have f6 := L (fa := lCons (eC (.bl true)) (lCons (eC (.int 0)) lNil)) (xs := [.bl true, .int 0]) [.dct [], .lst [], .lst [.int 0], .lst [.int 0, .int 0], .lst [.int 0, .int 2], .lst [.int 0, .int 1, .int 0]] rfl (by decide)
  have f7 := L (fa := lCons (eC (.int 0)) (lCons (eC .non) lNil)) (xs := [.int 0, .non]) [.dct [], .lst [], .lst [.int 0], .lst [.int 0, .int 0], .lst [.int 0, .int 2], .lst [.int 0, .int 1, .int 0], .lst [.bl true, .int 0]] rfl (by decide)
  have f8 := L (fa := lCons (eNeg (eC (.int 1))) (lCons (eC (.int 0)) lNil)) (xs := [.int (-1), .int 0]) [.dct [], .lst [], .lst [.int 0], .lst [.int 0, .int 0], .lst [.int 0, .int 2], .lst [.int 0, .int 1, .int 0], .lst [.bl true, .int 0], .lst [.int 0, .non]] rfl (by decide)
  unfold ledE eTup
  rw [k_l1 (f := eC .non) rfl (k_l1 (f := eC (.int 5)) rfl (k_l1 (f := eC (.str [48, 49])) rfl (k_l1 e0 (k_l1 f1 (k_l1 f2 (k_l1 f3 (k_l1 f4 (k_l1 f5 (k_l1 f6 (k_l1 f7 (l1_go f8)))))))))))]
  simp only [Res.bind, List.length_cons, List.length_nil]
  rw [if_pos (by decide)]
  rfl
end K

set_option Elab.async false
set_option linter.all false
set_option maxRecDepth 100000
set_option maxHeartbeats 0
namespace K
open PySem PySem.Spec PyProof.Rows Z
theorem At.put {m : Store} {sel : List Nat} {cs0 : List Cel} {i : Nat} {x : Cel} (a : At m sel cs0) (h : ∀ j ∈ sel, i < j) : At (m.put i x) sel cs0 := a.keep fun k hk => List.getElem?_set_ne (by have := h k hk; omega)
theorem OddB.put {m : Store} {i : Nat} {x : Cel} {o : D} {b : Nat} (h : OddB m o b) (hi : i < b) : OddB (m.put i x) o b := by
  obtain ⟨od, h1, sel, a, e, hs⟩ := h
  exact ⟨od, h1, sel, At.put a fun j hj => Nat.lt_of_lt_of_le hi (hs j hj), e, hs⟩
theorem LedB.put {m : Store} {i : Nat} {x : Cel} {o : D} {b e : Nat} (h : LedB m o b e) (hi : i < b) : LedB (m.put i x) o b e := by
  obtain ⟨od, h1, sel, a, ev, hs⟩ := h
  exact ⟨od, h1, sel, At.put a fun j hj => Nat.lt_of_lt_of_le hi (hs j hj).1, ev, hs⟩
theorem put_ne {m : Store} {i k : Nat} {x c : Cel} (h : k ≠ i) (e : m.cs[k]? = some c) : (m.put i x).cs[k]? = some c := (List.getElem?_set_ne (Ne.symm h)).trans e
theorem put_eq {m : Store} {i : Nat} {x c : Cel} (e : m.cs[i]? = some c) : (m.put i x).cs[i]? = some x := List.getElem?_set_self (List.getElem?_eq_some_iff.mp e).1
theorem put_len {m : Store} {i : Nat} {x : Cel} : (m.put i x).cs.length = m.cs.length := List.length_set
/-- ahead of each turn of the first loop -/
structure P1 (n : Int) (ps : List (Int × Int)) (σ : Sl) (m : Store) : Prop where
  sl : σ = [.val (.ref 3), .val (.ref 6), .val (wD n 8), .un, .box 4, .box 5]
  B : Bs m
  lo : 4 ≤ m.low
  le : m.low ≤ m.cs.length
  c4 : ∃ bo, m.cs[4]? = some (.box bo)
  c5 : ∃ bo, m.cs[5]? = some (.box bo)
  c8 : m.cs[8]? = some (.lst (ps.map dPair))
  c9 : m.cs[9]? = some (.lst (oddV 9))
  odd : ∀ o ∈ oddV 9, OddB m o 10
theorem turn1_P {n : Int} {ps : List (Int × Int)} (W : Web n ps) {σ : Sl} {m : Store} {x : D} (p : P1 n ps σ m) (hx : x ∈ oddV 9) : ∃ σ1 m1 σ2 m2, gName 4 x σ m = .nxt σ1 m1 ∧ v_turn1 σ1 m1 = .nxt σ2 m2 ∧ P1 n ps σ2 m2 := by
  obtain ⟨rfl, B, lo, le, ⟨b4, c4⟩, ⟨b5, c5⟩, c8, c9, odd⟩ := p
  have ox := odd x hx
  have BM : Bs (m.put 4 (.box (some x))) := B.put (by decide) ox.ok rfl
  have len := (List.getElem?_eq_some_iff.mp c9).1
  have ML : (m.put 4 (.box (some x))).low = 4 := by show min m.low 4 = 4; omega
  obtain ⟨l, e, Bl⟩ := turn1_ok (m := m.put 4 (.box (some x))) (o := x) (b := 10) (s0 := .val (.ref 3)) (s1 := .val (.ref 6)) (s3 := .un) BM (ox.put (by decide)) (by decide) (put_eq c4) W (put_ne (by decide) c8) (by rw [ML, put_len]; omega)
  refine ⟨_, _, _, _, gName_box rfl c4, e, rfl, Bl, Nat.le_of_eq ML.symm, ?_, ⟨_, old_app (put_eq c4)⟩, ⟨_, old_app (put_ne (by decide) c5)⟩, old_app (put_ne (by decide) c8), old_app (put_ne (by decide) c9), fun o ho => OddB.app ((odd o ho).put (by decide))⟩
  show (m.put 4 (.box (some x))).low ≤ ((m.put 4 (.box (some x))).cs ++ l).length
  rw [List.length_append, ML, put_len]
  omega
/-- ahead of each turn of the second loop -/
structure P2 (n : Int) (t N : Nat) (σ : Sl) (m : Store) : Prop where
  sl : ∃ s3, σ = [.val (.ref 3), .val (.ref 6), .val (wD n 8), s3, .box 4, .box 5] ∧ ∀ q, s3 ≠ .box q
  B : Bs m
  lo : 4 ≤ m.low
  le : m.low ≤ m.cs.length
  c4 : ∃ bo, m.cs[4]? = some (.box bo)
  c5 : m.cs[5]? = some (.box (some (.tup [.int 2, .ref t])))
  ct : m.cs[t]? = some (.lst [p2 0 1])
  Nl : N + 9 ≤ m.cs.length
  led : ∀ o ∈ ledV N, LedB m o N (N + 9)
theorem turn2_P {n : Int} {t N : Nat} (t5 : 5 < t) (tN : t < N) {σ : Sl} {m : Store} {x : D} (p : P2 n t N σ m) (hx : x ∈ ledV N) : ∃ σ1 m1 σ2 m2, gName 4 x σ m = .nxt σ1 m1 ∧ v_turn2 σ1 m1 = .nxt σ2 m2 ∧ P2 n t N σ2 m2 := by
  obtain ⟨⟨s3, rfl, l3⟩, B, lo, le, ⟨b4, c4⟩, c5, ct, Nl, led⟩ := p
  have ox := led x hx
  have BM : Bs (m.put 4 (.box (some x))) := B.put (by decide) ox.ok rfl
  have ML : (m.put 4 (.box (some x))).low = 4 := by show min m.low 4 = 4; omega
  obtain ⟨l, e, Bl⟩ := turn2_ok (m := m.put 4 (.box (some x))) (o := x) (b := N) (e := N + 9) (t := t) (s0 := .val (.ref 3)) (s1 := .val (.ref 6)) (s2 := .val (wD n 8)) (s3 := s3) BM (ox.put (by omega)) (put_eq c4) (put_ne (by decide) c5) (put_ne (by omega) ct) t5 tN (by omega) (by rw [put_len]; exact Nl) (by rw [ML, put_len]; omega) l3
  refine ⟨_, _, _, _, gName_box rfl c4, e, ⟨_, rfl, fun q z => by cases z⟩, Bl, Nat.le_of_eq ML.symm, ?_, ⟨_, old_app (put_eq c4)⟩, old_app (put_ne (by decide) c5), old_app (put_ne (by omega) ct), ?_, fun o ho => LedB.app ((led o ho).put (by omega))⟩
  · show (m.put 4 (.box (some x))).low ≤ ((m.put 4 (.box (some x))).cs ++ l).length
    rw [List.length_append, ML, put_len]
    omega
  · show N + 9 ≤ ((m.put 4 (.box (some x))).cs ++ l).length
    rw [List.length_append, put_len]
    omega
theorem very_led_t {m : Store} {t c : Nat} (B : Bs m) (t5 : 5 < t) (tc : t < c) (h5 : m.cs[5]? = some (.box (some (.tup [.int 2, .ref t])))) (ht : m.cs[t]? = some (.lst [p2 0 1])) (hc : m.cs[c]? = some (.clo 15 [5])) : Tells r__law_is_very [sLed, .ref c] m (.bl true) := by
  refine ⟨_, [sLed, .ref 5], .bl true, [0, 1, 2, t, 5, c], isOk_ok very_led, by decide, rfl, ⟨by simp; omega, rfl, by decide, fun j i d h1 h2 => ?_⟩, B.nz, rfl, rfl⟩
  match j, h1, h2 with
  | 0, h1, h2 => simp at h1 h2; subst h1; subst h2; exact B.t0
  | 1, h1, h2 => simp at h1 h2; subst h1; subst h2; exact B.t1
  | 2, h1, h2 => simp at h1 h2; subst h1; subst h2; exact B.t2
  | 3, h1, h2 => simp at h1 h2; subst h1; subst h2; exact ht
  | 4, h1, h2 => simp at h1 h2; subst h1; subst h2; exact h5
  | 5, h1, h2 => simp at h1 h2; subst h1; subst h2; exact hc
  | j + 6, h1, h2 => simp at h1
theorem very_web_t {m : Store} {c : Nat} (B : Bs m) (tc : 2 < c) (hc : m.cs[c]? = some (.clo 16 [])) : Tells r__law_is_very [sWeb, .ref c] m (.bl true) := by
  refine ⟨_, [sWeb, .ref 3], .bl true, [0, 1, 2, c], isOk_ok very_web, by decide, rfl, ⟨by simp; omega, rfl, by decide, fun j i d h1 h2 => ?_⟩, B.nz, rfl, rfl⟩
  match j, h1, h2 with
  | 0, h1, h2 => simp at h1 h2; subst h1; subst h2; exact B.t0
  | 1, h1, h2 => simp at h1 h2; subst h1; subst h2; exact B.t1
  | 2, h1, h2 => simp at h1 h2; subst h1; subst h2; exact B.t2
  | 3, h1, h2 => simp at h1 h2; subst h1; subst h2; exact hc
  | j + 4, h1, h2 => simp at h1
end K

set_option Elab.async false
set_option linter.all false
set_option maxRecDepth 100000
set_option maxHeartbeats 0
namespace K
open PySem PySem.Spec PyProof.Rows Z
def pre (X : List D) : List Cel := [.tbl 0, .tbl 1, .tbl 2, .frz X, .box none, .box none, .lst [.ref 7, .int 0, .int 0, .int 17], .lst X]
theorem pre_ok (ns : List Int) : ∀ x ∈ pre (ns.map D.int), okC (fun k => decide (k < (pre (ns.map D.int)).length)) x = true := by
  intro x hx
  simp only [pre, List.mem_cons, List.not_mem_nil, or_false] at hx
  rcases hx with rfl | rfl | rfl | rfl | rfl | rfl | rfl | rfl
  · rfl
  · rfl
  · rfl
  · exact okDs_ints ns
  · rfl
  · rfl
  · rfl
  · exact okDs_ints ns
theorem pre_nz (X : List D) : ∀ x ∈ pre X, x.nz = true := by
  intro x hx
  simp only [pre, List.mem_cons, List.not_mem_nil, or_false] at hx
  rcases hx with rfl | rfl | rfl | rfl | rfl | rfl | rfl | rfl <;> rfl
theorem law_ev (ns : List Int) (h63 : ns.length ≤ 63) : ∃ m', r_lawc [.ref 3] (start 3 ns) = .ok (.bl true) m' ∧ 3 ≤ m'.low := by
  obtain ⟨X, hX⟩ : ∃ X, X = ns.map D.int := ⟨_, rfl⟩
  obtain ⟨m0, hm0⟩ : ∃ m0 : Store, m0 = ⟨[.tbl 0, .tbl 1, .tbl 2, .frz X, .box none, .box none], 4⟩ := ⟨_, rfl⟩
  obtain ⟨m1, hm1⟩ : ∃ m1 : Store, m1 = ⟨pre X, 4⟩ := ⟨_, rfl⟩
  have st : r__law_stream [.ref 3] m0 = .ok (.ref 6) m1 := by
    rw [stream_eq, stream_ok (ns := ns) (by rw [hm0, ← hX]; rfl) (by rw [hm0]; show (4 : Nat) ≤ 6; decide) h63, hm0, hm1, ← hX]
    rfl
  -- the web
  have S : Sok (pre X) 6 7 4 := ⟨⟨by show 6 < 8; decide, by show 7 < 8; decide, by decide⟩, by rw [hX]; exact pre_ok ns, by decide, by decide⟩
  have s1 : Stm (pre X) 6 7 4 [] 0 m1 := ⟨⟨ns, 0, 0, 17, by rw [hm1, hX]; rfl, h63, by decide, by decide, by decide, by decide, by decide⟩, by rw [hm1]; exact Nat.le_refl _, by rw [hm1]; show (4 : Nat) ≤ 8; decide⟩
  obtain ⟨n, ps, m2, e2, _, W, s2⟩ := u_web_ok S s1 (by decide) (most := 4) (by decide) (by decide)
  have l2 := s2.len
  have ml2 : m2.cs.length = 9 := by rw [l2]; rfl
  have ws2 : WS m2 := S.ws (fun x hx => by simp at hx; subst hx; exact okDs_pairs ps) s2
  obtain ⟨⟨js, a, bb, c, ec, _⟩, lo2, le2⟩ := s2
  have nz2 : NoZ m2 := fun x hx => by
    rw [ec] at hx
    rcases List.mem_append.mp hx with hx | hx
    · unfold stc at hx
      rcases List.mem_or_eq_of_mem_set hx with hx | rfl
      · rcases List.mem_or_eq_of_mem_set hx with hx | rfl
        · exact pre_nz X x hx
        · rfl
      · rfl
    · simp at hx; subst hx; rfl
  have g2 : ∀ k, k < 6 → m2.cs[k]? = (pre X)[k]? := fun k hk => by
    rw [ec, List.getElem?_append_left (by rw [stc_len]; show k < 8; omega)]
    unfold stc
    rw [List.getElem?_set_ne (by omega), List.getElem?_set_ne (by omega)]
  have c8 : m2.cs[8]? = some (.lst (ps.map dPair)) := by rw [ec]; exact at_app0 (by rw [stc_len]; rfl)
  have B2 : Bs m2 := ⟨ws2, nz2, (g2 0 (by decide)).trans rfl, (g2 1 (by decide)).trans rfl, (g2 2 (by decide)).trans rfl⟩
  -- the odd webs
  have e3 := odds_made nz2
  rw [ml2] at e3
  obtain ⟨m3, hm3⟩ : ∃ m3 : Store, m3 = ⟨m2.cs ++ (.lst (oddV 9) :: oddC 9), m2.low⟩ := ⟨_, rfl⟩
  rw [← hm3] at e3
  have B3 : Bs m3 := by
    rw [hm3]
    refine B2.app ?_ ?_
    · rw [ml2]
      have h : (Cel.lst (oddV 9) :: oddC 9).all (okC fun j => decide (j < 9 + (Cel.lst (oddV 9) :: oddC 9).length)) = true := by decide +kernel
      exact fun c hc => List.all_eq_true.mp h c hc
    · have h : (Cel.lst (oddV 9) :: oddC 9).all Cel.nz = true := by decide +kernel
      exact fun c hc => List.all_eq_true.mp h c hc
  have at3 : ∀ j c, (Cel.lst (oddV 9) :: oddC 9)[j]? = some c → m3.cs[9 + j]? = some c := fun j c e => by rw [hm3]; exact (at_app ml2).trans e
  have P0 : P1 n ps [.val (.ref 3), .val (.ref 6), .val (wD n 8), .un, .box 4, .box 5] m3 := ⟨rfl, B3, by rw [hm3]; exact lo2, by rw [hm3]; show m2.low ≤ (m2.cs ++ _).length; rw [List.length_append]; omega, ⟨none, by rw [hm3]; exact old_app ((g2 4 (by decide)).trans rfl)⟩, ⟨none, by rw [hm3]; exact old_app ((g2 5 (by decide)).trans rfl)⟩, by rw [hm3]; exact old_app c8, at3 0 _ rfl, odds_at (n := 9) fun j c e => by
    have := at3 (j + 1) c e
    rw [show 9 + 1 + j = 9 + (j + 1) by omega]; exact this⟩
  obtain ⟨σ4, m4, e4, p4⟩ := sFor_list (g := gName 4) (tb := v_turn1) (n := 80) (fe := eCall lNil lNil (bindR 0 0 [] cOdds)) (σ := [.val (.ref 3), .val (.ref 6), .val (wD n 8), .un, .box 4, .box 5]) (m := m2) (P := fun _ σ m => P1 n ps σ m) ((k_call (fk := lNil) rfl rfl).trans (bind0.trans e3)) (fun k σ m p => by
      show Store.seq? _ _ = some (oddV 9)
      unfold Store.seq?
      rw [p.c9]; rfl) (fun k σ m x p hx => turn1_P W p (List.mem_of_getElem? hx)) (by decide) P0
  obtain ⟨hσ4, B4, lo4, le4, ⟨b4, c44⟩, ⟨b5, c45⟩, c48, c49, _⟩ := p4
  -- the tie
  obtain ⟨t, ht⟩ : ∃ t, t = m4.cs.length := ⟨_, rfl⟩
  have t9 : 9 < t := by rw [ht]; exact (List.getElem?_eq_some_iff.mp c49).1
  obtain ⟨m5, hm5⟩ : ∃ m5 : Store, m5 = (⟨m4.cs ++ [.lst [p2 0 1]], m4.low⟩ : Store).put 5 (.box (some (.tup [.int 2, .ref t]))) := ⟨_, rfl⟩
  have c45' : (m4.cs ++ [Cel.lst [p2 0 1]])[5]? = some (.box b5) := old_app c45
  have q5 : sAsg (eTup (lCons (eC (.int 2)) (lCons (eLst (lCons (eTup (lCons (eC (.int 0)) (lCons (eC (.int 1)) lNil))) lNil)) lNil))) (gName 5) σ4 m4 = .nxt σ4 m5 := by
    have e : eTup (lCons (eC (.int 2)) (lCons (eLst (lCons (eTup (lCons (eC (.int 0)) (lCons (eC (.int 1)) lNil))) lNil)) lNil)) σ4 m4 = .ok (.tup [.int 2, .ref t]) ⟨m4.cs ++ [.lst [p2 0 1]], m4.low⟩ := by rw [ht]; rfl
    rw [k_asg e, gName_box (j := 5) (by rw [hσ4]; rfl) c45', hm5]
  have B5 : Bs m5 := by
    rw [hm5]
    have Bx : Bs ⟨m4.cs ++ [.lst [p2 0 1]], m4.low⟩ := B4.app (fun c hc => by simp at hc; subst hc; rfl) (fun c hc => by simp at hc; subst hc; rfl)
    refine Bx.put (by decide) ?_ rfl
    have : decide (t < (m4.cs ++ [Cel.lst [p2 0 1]]).length) = true := decide_eq_true (by rw [List.length_append, ← ht]; exact Nat.lt_succ_self _)
    simp only [okC, okD, okDs, this]
    rfl
  have lo5 : m5.low = 4 ∨ m5.low = 5 := by
    rw [hm5]
    show min m4.low 5 = 4 ∨ min m4.low 5 = 5
    omega
  have ml5 : m5.cs.length = t + 1 := by rw [hm5, put_len]; show (m4.cs ++ _).length = _; rw [List.length_append, ← ht]; rfl
  -- the odd maps
  obtain ⟨N, hN⟩ : ∃ N, N = m5.cs.length := ⟨_, rfl⟩
  have e6 := ledE_go (σ := σ4) (m := m5)
  rw [← hN] at e6
  obtain ⟨m6, hm6⟩ : ∃ m6 : Store, m6 = ⟨m5.cs ++ ledCs, m5.low⟩ := ⟨_, rfl⟩
  rw [← hm6] at e6
  have B6 : Bs m6 := by
    rw [hm6]
    refine B5.app ?_ ?_
    · intro c hc
      have h : ledCs.all (okC fun j => decide (j < 0)) = true := by decide +kernel
      exact okC_lt (k := 0) (by omega) (List.all_eq_true.mp h c hc)
    · have h : ledCs.all Cel.nz = true := by decide +kernel
      exact fun c hc => List.all_eq_true.mp h c hc
  have tN : t < N := by rw [hN, ml5]; exact Nat.lt_succ_self _
  have c5 : m5.cs[5]? = some (.box (some (.tup [.int 2, .ref t]))) := by rw [hm5]; exact put_eq (m := ⟨m4.cs ++ [.lst [p2 0 1]], m4.low⟩) c45'
  have c4 : m5.cs[4]? = some (.box b4) := by rw [hm5]; exact put_ne (by decide) (old_app c44)
  have ct : m5.cs[t]? = some (.lst [p2 0 1]) := by rw [hm5]; exact put_ne (by omega) (at_app0 ht.symm)
  have at6 : ∀ j c, ledCs[j]? = some c → m6.cs[N + j]? = some c := fun j c e => by rw [hm6]; exact (at_app hN.symm).trans e
  have l6 : m6.cs.length = N + 9 := by rw [hm6]; show (m5.cs ++ _).length = _; rw [List.length_append, ← hN]; rfl
  have Q0 : P2 n t N σ4 m6 := ⟨⟨.un, hσ4, fun q z => by cases z⟩, B6, by rw [hm6]; show 4 ≤ m5.low; omega, by rw [l6, hm6]; show m5.low ≤ _; rw [ml5] at hN; omega, ⟨_, by rw [hm6]; exact old_app c4⟩, by rw [hm6]; exact old_app c5, by rw [hm6]; exact old_app ct, Nat.le_of_eq l6.symm, leds_at at6⟩
  obtain ⟨σ7, m7, e7, p7⟩ := sFor_list (g := gName 4) (tb := v_turn2) (n := 80) (fe := ledE) (σ := σ4) (m := m5) (fs := ledV N) (P := fun _ σ m => P2 n t N σ m) e6 (fun k σ m p => rfl) (fun k σ m x p hx => turn2_P (by omega) tN p (List.mem_of_getElem? hx)) (show (12 : Nat) < 80 by decide) Q0
  obtain ⟨⟨s3, hσ7, l3⟩, B7, lo7, le7, _, c57, ct7, Nl7, _⟩ := p7
  -- the last asks
  have lam1 := lam_go (tb := 2) (t := 2) (l := 15) (j := 5) (b := 5) (σ := σ7) (m := m7) B7.t2 (by rw [hσ7]; rfl)
  obtain ⟨m8, hm8⟩ : ∃ m8 : Store, m8 = ⟨m7.cs ++ [.clo 15 [5]], m7.low⟩ := ⟨_, rfl⟩
  rw [← hm8] at lam1
  have l7 : 9 < m7.cs.length := by omega
  have B8 : Bs m8 := by
    rw [hm8]
    refine B7.app (fun c hc => ?_) (fun c hc => by simp at hc; subst hc; rfl)
    simp at hc; subst hc
    simp only [okC, List.all_cons, List.all_nil, Bool.and_true]
    exact decide_eq_true (by omega)
  have v1 := cT_eq (very_led_t (m := m8) (t := t) (c := m7.cs.length) B8 (by omega) (by rw [ml5] at hN; omega) (by rw [hm8]; exact old_app c57) (by rw [hm8]; exact old_app ct7) (by rw [hm8]; exact at_app0 rfl))
  have lam2 := lam_go0 (tb := 2) (t := 2) (l := 16) (σ := σ7) (m := m8) B8.t2
  obtain ⟨m9, hm9⟩ : ∃ m9 : Store, m9 = ⟨m8.cs ++ [.clo 16 []], m8.low⟩ := ⟨_, rfl⟩
  rw [← hm9] at lam2
  have B9 : Bs m9 := by
    rw [hm9]
    exact B8.app (fun c hc => by simp at hc; subst hc; rfl) (fun c hc => by simp at hc; subst hc; rfl)
  have l8 : m8.cs.length = m7.cs.length + 1 := by rw [hm8]; show (m7.cs ++ _).length = _; rw [List.length_append]; rfl
  have v2 := cT_eq (very_web_t (m := m9) (c := m8.cs.length) B9 (by omega) (by rw [hm9]; exact at_app0 rfl))
  have lo9 : 4 ≤ m9.low := by rw [hm9]; show 4 ≤ m8.low; rw [hm8]; exact lo7
  have body : v_lawc (starts [false, false, false, false, true, true] [.ref 3] (start 3 ns).cs.length) ⟨(start 3 ns).cs ++ startc [false, false, false, false, true, true] [.ref 3], (start 3 ns).cs.length⟩ = .ret (.bl true) m9 := by
    have s0 : (⟨(start 3 ns).cs ++ startc [false, false, false, false, true, true] [.ref 3], (start 3 ns).cs.length⟩ : Store) = m0 := by rw [hm0, hX]; rfl
    rw [s0]
    show v_lawc [.val (.ref 3), .un, .un, .un, .box 4, .box 5] m0 = _
    unfold v_lawc
    rw [k_nx (σ1 := [.val (.ref 3), .val (.ref 6), .un, .un, .box 4, .box 5]) (m1 := m1) (by rw [k_asg (call_1 (f := eV 0) (v := .ref 3) rfl st)]; rfl)]
    rw [k_nx (σ1 := [.val (.ref 3), .val (.ref 6), .val (wD n 8), .un, .box 4, .box 5]) (m1 := m2) (by rw [k_asg (call_2 (f := eV 1) (g := eC (.int 4)) (v := .ref 6) (u := .int 4) rfl rfl (by rw [u_web_eq]; exact e2)), gName_lc (s := .un) rfl (fun q z => by cases z)]; rfl)]
    rw [k_nx e4, k_nx q5]
    rw [show (eTup (lCons (eC .non) (lCons (eC (.int 5)) (lCons (eC (.str [48, 49])) (lCons eDct0 (lCons (eLst lNil) (lCons (eLst (lCons (eC (.int 0)) lNil)) (lCons (eLst (lCons (eC (.int 0)) (lCons (eC (.int 0)) lNil))) (lCons (eLst (lCons (eC (.int 0)) (lCons (eC (.int 2)) lNil))) (lCons (eLst (lCons (eC (.int 0)) (lCons (eC (.int 1)) (lCons (eC (.int 0)) lNil)))) (lCons (eLst (lCons (eC (.bl true)) (lCons (eC (.int 0)) lNil))) (lCons (eLst (lCons (eC (.int 0)) (lCons (eC .non) lNil))) (lCons (eLst (lCons (eNeg (eC (.int 1))) (lCons (eC (.int 0)) lNil))) lNil))))))))))))) = ledE from rfl]
    rw [k_nx e7]
    rw [k_nx (σ1 := σ7) (m1 := m8) (by rw [k_if (k_ntT (call_2 (f := eC (.str [108, 101, 100])) (v := sLed) rfl lam1 v1))]; rfl)]
    exact k_rt (k_ret (call_2 (f := eC (.str [119, 101, 98])) (v := sWeb) rfl lam2 v2))
  obtain ⟨m', g1, g2'⟩ := gc_one (n := (start 3 ns).cs.length) (lo := (start 3 ns).low) (v := .bl true) (m1 := m9) rfl
  refine ⟨m', fnR_ret body g1, ?_⟩
  rw [g2']
  show 3 ≤ min 4 m9.low
  omega
end K

set_option Elab.async false
set_option linter.all false
set_option maxRecDepth 100000
set_option maxHeartbeats 0
namespace K
open PySem PySem.Spec PyProof.Rows Z
def osK (K : PySem.W.Frag) (f : Addr) : Array (Option Value) := match K.lookup f with
  | some o => o.slots
  | none => #[]
def ipos : FuncBody → Pos × Pos × Pos × Pos := fun b => match b with
  | .stmts [.Assign [.Attribute (.Name _ p1) _ p2] (.Name _ p3) p4] => (p1, p2, p3, p4)
  | _ => (⟨0, 0, 0, 0⟩, ⟨0, 0, 0, 0⟩, ⟨0, 0, 0, 0⟩, ⟨0, 0, 0, 0⟩)
def FnK (K : PySem.W.Frag) (x : Str) (st : Stmt) (f c : Addr) : Prop := K.lookup f = some ⟨.type "function", none, .func (PySem.W.fnOf x x (L2.defArgs st) (L2.defBody st) (L2.defScope st) .none .none .none (fdK K f).pyModule none (.ref c) .none), osK K f⟩
def clF {α : Type} (d : α) (g : ClassData → α) (K : PySem.W.Frag) (C : Addr) : α := match K.lookup C with
  | some ⟨_, _, .cls c, _⟩ => g c
  | _ => d
def dicK (K : PySem.W.Frag) (C : Addr) : Option Addr := match K.lookup C with
  | some o => o.dict
  | none => none
def OexB (K : PySem.W.Frag) (C : Addr) : Prop := K.lookup C = some (excClassObj (clF "" (·.name) K C) (clF "" (·.qualname) K C) C (clF 0 (·.ns) K C) (clF [] (·.bases) K C) (clF [] (·.mro.tail) K C) true (clF [] (·.slotNames) K C) (clF [] (·.subclasses) K C) (clF false (·.abstract) K C) (clF none (·.collection) K C) (dicK K C)
  ((osK K C).getD 0 none) ((osK K C).getD 1 none) ((osK K C).getD 2 none) ((osK K C).getD 3 none) ((osK K C).getD 5 none) "ValueError.__new__") ∧ PySem.HandSPX.refsVE (clF [] (·.mro.tail) K C) = true
def iniFd (K : PySem.W.Frag) (f : Addr) (x : Str) : FuncData := PySem.W.fnOf (fdK K f).name (fdK K f).qualname (fdK K f).params [.Assign [.Attribute (.Name "self" (ipos (fdK K f).body).1) x (ipos (fdK K f).body).2.1] (.Name x (ipos (fdK K f).body).2.2.1) (ipos (fdK K f).body).2.2.2] (fdK K f).scope .none .none .none (fdK K f).pyModule none (fdK K f).code .none
def InitK (K : PySem.W.Frag) (f : Addr) (x : Str) : Prop := K.lookup f = some ⟨.type "function", none, .func (iniFd K f x), osK K f⟩ ∧ PySem.W.codeIn K (fdK K f).code (fdK K f).qualname = true ∧
  (fdK K f).scope.kind = .function ∧ (fdK K f).scope.isCoroutine = false ∧ (fdK K f).scope.isGenerator = false ∧ (fdK K f).scope.names.lookup ("self" : Str) = some .local ∧ (fdK K f).scope.names.lookup x = some .local ∧ ∀ a u : Value, bindArgs (iniFd K f x) ⟨[a, u], []⟩ = pure [(("self" : Str), a), (x, u)]
theorem _root_.PySem.W.Frag.In.defAt {K : PySem.W.Frag} {h : Heap} {mg : Str → Option Value} {Gg : Gl} {x : Str} {st : Stmt} {f c : Addr} (KX : K.In h) (G : h.Ns mainGlobals mg) (n : PySem.W.nsIn K mainGlobals x = some (some (.ref f))) (e : PySem.W.codeIn K (.ref c) x = true) (l : FnK K x st f c) (hk : Gg.K = K := by rfl) (hm : Gg.mg = mg := by rfl) : DefAt Gg x st f (fdK Gg.K f) (.ref c) := by
  subst hk; subst hm
  have ef : fdK Gg.K f = PySem.W.fnOf x x (L2.defArgs st) (L2.defBody st) (L2.defScope st) .none .none .none (fdK Gg.K f).pyModule none (.ref c) .none := by conv => lhs; unfold fdK; rw [l]
  exact ⟨PySem.W.mg_of KX G n, e, _, _, _, _, _, _, _, _, ef, l.trans (by rw [← ef])⟩
theorem ini_of {K : PySem.W.Frag} {C f : Addr} {x : Str} (h1 : OexB K C) (h2 : PySem.W.findIn K (.ref C) "__setattr__" = some (some (.builtin "object.__setattr__"))) (h3 : PySem.W.subIn K (.ref C) (.type "BaseException") = some true) (h4 : PySem.W.typeIn K (.ref C) = some (.type "type")) (h5 : PySem.W.keepIn K (.ref C) = true) (h6 : PySem.W.findIn K (.ref C) "__init__" = some (some (.ref f))) (h7 : PySem.W.typeIn K (.ref f) = some (.type "function")) (h8 : InitK K f x) (h9 : PySem.W.findIn K (.ref C) x = some none)
    (n1 : ("self" : Str) ≠ x) (n2 : (("self" : Str) == ("__debug__" : Str)) = false) (n3 : (x == ("__debug__" : Str)) = false) : Ini K C f "self" x x (fdK K f) := by
  obtain ⟨l, c, k1, k2, k3, k4, k5, b⟩ := h8
  have e : fdK K f = iniFd K f x := by conv => lhs; unfold fdK; rw [l]
  exact ⟨⟨⟨_, _, _, _, _, _, _, _, _, _, _, _, _, _, _, h1⟩, h2, h3, h4, h5⟩, h6, h7, ⟨_, _, _, l.trans (by rw [← e])⟩, ⟨_, _, _, _, _, _, _, _, _, _, _, _, _, _, _, e, c, k1, k2, k3, k4, k5⟩, n1, n2, n3, h9, fun a u => by rw [e]; exact b a u⟩
structure KFacts (K : PySem.W.Frag) : Prop where
  n__law_met : PySem.W.nsIn K mainGlobals "_law_met" = some (some (.ref 332))
  e__law_met : PySem.W.codeIn K (.ref 331) "_law_met" = true
  l__law_met : FnK K "_law_met" (top 46) 332 331
  n__law_same : PySem.W.nsIn K mainGlobals "_law_same" = some (some (.ref 306))
  e__law_same : PySem.W.codeIn K (.ref 305) "_law_same" = true
  l__law_same : FnK K "_law_same" (top 42) 306 305
  n__law_all_met : PySem.W.nsIn K mainGlobals "_law_all_met" = some (some (.ref 344))
  e__law_all_met : PySem.W.codeIn K (.ref 343) "_law_all_met" = true
  l__law_all_met : FnK K "_law_all_met" (top 48) 344 343
  n_is_list : PySem.W.nsIn K mainGlobals "is_list" = some (some (.ref 21))
  e_is_list : PySem.W.codeIn K (.ref 20) "is_list" = true
  l_is_list : FnK K "is_list" (top 1) 21 20
  n_is_whole : PySem.W.nsIn K mainGlobals "is_whole" = some (some (.ref 28))
  e_is_whole : PySem.W.codeIn K (.ref 27) "is_whole" = true
  l_is_whole : FnK K "is_whole" (top 2) 28 27
  n_is_number : PySem.W.nsIn K mainGlobals "is_number" = some (some (.ref 35))
  e_is_number : PySem.W.codeIn K (.ref 34) "is_number" = true
  l_is_number : FnK K "is_number" (top 3) 35 34
  n_is_below : PySem.W.nsIn K mainGlobals "is_below" = some (some (.ref 42))
  e_is_below : PySem.W.codeIn K (.ref 41) "is_below" = true
  l_is_below : FnK K "is_below" (top 4) 42 41
  n_is_row : PySem.W.nsIn K mainGlobals "is_row" = some (some (.ref 49))
  e_is_row : PySem.W.codeIn K (.ref 48) "is_row" = true
  l_is_row : FnK K "is_row" (top 5) 49 48
  n_near_lists : PySem.W.nsIn K mainGlobals "near_lists" = some (some (.ref 179))
  e_near_lists : PySem.W.codeIn K (.ref 178) "near_lists" = true
  l_near_lists : FnK K "near_lists" (top 17) 179 178
  n_kept_map : PySem.W.nsIn K mainGlobals "kept_map" = some (some (.ref 201))
  e_kept_map : PySem.W.codeIn K (.ref 200) "kept_map" = true
  l_kept_map : FnK K "kept_map" (top 23) 201 200
  n_is_ascending : PySem.W.nsIn K mainGlobals "is_ascending" = some (some (.ref 54))
  e_is_ascending : PySem.W.codeIn K (.ref 53) "is_ascending" = true
  l_is_ascending : FnK K "is_ascending" (top 6) 54 53
  n_kept_web : PySem.W.nsIn K mainGlobals "kept_web" = some (some (.ref 167))
  e_kept_web : PySem.W.codeIn K (.ref 166) "kept_web" = true
  l_kept_web : FnK K "kept_web" (top 15) 167 166
  n_need_goal : PySem.W.nsIn K mainGlobals "need_goal" = some (some (.ref 196))
  e_need_goal : PySem.W.codeIn K (.ref 195) "need_goal" = true
  l_need_goal : FnK K "need_goal" (top 22) 196 195
  n_need_web : PySem.W.nsIn K mainGlobals "need_web" = some (some (.ref 174))
  e_need_web : PySem.W.codeIn K (.ref 173) "need_web" = true
  l_need_web : FnK K "need_web" (top 16) 174 173
  n_need_webs : PySem.W.nsIn K mainGlobals "need_webs" = some (some (.ref 225))
  e_need_webs : PySem.W.codeIn K (.ref 224) "need_webs" = true
  l_need_webs : FnK K "need_webs" (top 28) 225 224
  n_need_ends : PySem.W.nsIn K mainGlobals "need_ends" = some (some (.ref 244))
  e_need_ends : PySem.W.codeIn K (.ref 243) "need_ends" = true
  l_need_ends : FnK K "need_ends" (top 31) 244 243
  n_nexts_of : PySem.W.nsIn K mainGlobals "nexts_of" = some (some (.ref 218))
  e_nexts_of : PySem.W.codeIn K (.ref 217) "nexts_of" = true
  l_nexts_of : FnK K "nexts_of" (top 27) 218 217
  n_are_steps : PySem.W.nsIn K mainGlobals "are_steps" = some (some (.ref 261))
  e_are_steps : PySem.W.codeIn K (.ref 260) "are_steps" = true
  l_are_steps : FnK K "are_steps" (top 34) 261 260
  n_maps_by : PySem.W.nsIn K mainGlobals "maps_by" = some (some (.ref 213))
  e_maps_by : PySem.W.codeIn K (.ref 212) "maps_by" = true
  l_maps_by : FnK K "maps_by" (top 25) 213 212
  n_reached : PySem.W.nsIn K mainGlobals "reached" = some (some (.ref 237))
  e_reached : PySem.W.codeIn K (.ref 236) "reached" = true
  l_reached : FnK K "reached" (top 30) 237 236
  n_map_classes : PySem.W.nsIn K mainGlobals "map_classes" = some (some (.ref 273))
  e_map_classes : PySem.W.codeIn K (.ref 272) "map_classes" = true
  l_map_classes : FnK K "map_classes" (top 36) 273 272
  n_class_count : PySem.W.nsIn K mainGlobals "class_count" = some (some (.ref 280))
  e_class_count : PySem.W.codeIn K (.ref 279) "class_count" = true
  l_class_count : FnK K "class_count" (top 37) 280 279
  n_next_maps : PySem.W.nsIn K mainGlobals "next_maps" = some (some (.ref 230))
  e_next_maps : PySem.W.codeIn K (.ref 229) "next_maps" = true
  l_next_maps : FnK K "next_maps" (top 29) 230 229
  n_way_to : PySem.W.nsIn K mainGlobals "way_to" = some (some (.ref 251))
  e_way_to : PySem.W.codeIn K (.ref 250) "way_to" = true
  l_way_to : FnK K "way_to" (top 32) 251 250
  n_steps_far : PySem.W.nsIn K mainGlobals "steps_far" = some (some (.ref 268))
  e_steps_far : PySem.W.codeIn K (.ref 267) "steps_far" = true
  l_steps_far : FnK K "steps_far" (top 35) 268 267
  n_steps_or_lot : PySem.W.nsIn K mainGlobals "steps_or_lot" = some (some (.ref 256))
  e_steps_or_lot : PySem.W.codeIn K (.ref 255) "steps_or_lot" = true
  l_steps_or_lot : FnK K "steps_or_lot" (top 33) 256 255
  n__law_asks : PySem.W.nsIn K mainGlobals "_law_asks" = some (some (.ref 339))
  e__law_asks : PySem.W.codeIn K (.ref 338) "_law_asks" = true
  l__law_asks : FnK K "_law_asks" (top 47) 339 338
  n__law_is_very : PySem.W.nsIn K mainGlobals "_law_is_very" = some (some (.ref 313))
  e__law_is_very : PySem.W.codeIn K (.ref 312) "_law_is_very" = true
  l__law_is_very : FnK K "_law_is_very" (top 43) 313 312
  n__law_stream : PySem.W.nsIn K mainGlobals "_law_stream" = some (some (.ref 294))
  e__law_stream : PySem.W.codeIn K (.ref 293) "_law_stream" = true
  l__law_stream : FnK K "_law_stream" (top 40) 294 293
  n__law_u_odd_webs : PySem.W.nsIn K mainGlobals "_law_u_odd_webs" = some (some (.ref 325))
  e__law_u_odd_webs : PySem.W.codeIn K (.ref 324) "_law_u_odd_webs" = true
  l__law_u_odd_webs : FnK K "_law_u_odd_webs" (top 45) 325 324
  n__law_draw : PySem.W.nsIn K mainGlobals "_law_draw" = some (some (.ref 301))
  e__law_draw : PySem.W.codeIn K (.ref 300) "_law_draw" = true
  l__law_draw : FnK K "_law_draw" (top 41) 301 300
  n__law_u_web : PySem.W.nsIn K mainGlobals "_law_u_web" = some (some (.ref 318))
  e__law_u_web : PySem.W.codeIn K (.ref 317) "_law_u_web" = true
  l__law_u_web : FnK K "_law_u_web" (top 44) 318 317
  n_folds_among : PySem.W.nsIn K mainGlobals "folds_among" = some (some (.ref 189))
  e_folds_among : PySem.W.codeIn K (.ref 188) "folds_among" = true
  l_folds_among : FnK K "folds_among" (top 20) 189 188
  n_stiff_or_fold : PySem.W.nsIn K mainGlobals "stiff_or_fold" = some (some (.ref 287))
  e_stiff_or_fold : PySem.W.codeIn K (.ref 286) "stiff_or_fold" = true
  l_stiff_or_fold : FnK K "stiff_or_fold" (top 38) 287 286
  n_law : PySem.W.nsIn K mainGlobals "law" = some (some (.ref 351))
  e_law : PySem.W.codeIn K (.ref 350) "law" = true
  l_law : FnK K "law" (top 49) 351 350
  b_abs : PySem.W.nsIn K mainGlobals "abs" = some none
  b_all : PySem.W.nsIn K mainGlobals "all" = some none
  b_bool : PySem.W.nsIn K mainGlobals "bool" = some none
  b_dict : PySem.W.nsIn K mainGlobals "dict" = some none
  b_int : PySem.W.nsIn K mainGlobals "int" = some none
  b_isinstance : PySem.W.nsIn K mainGlobals "isinstance" = some none
  b_len : PySem.W.nsIn K mainGlobals "len" = some none
  b_list : PySem.W.nsIn K mainGlobals "list" = some none
  b_range : PySem.W.nsIn K mainGlobals "range" = some none
  b_sorted : PySem.W.nsIn K mainGlobals "sorted" = some none
  b_str : PySem.W.nsIn K mainGlobals "str" = some none
  b_tuple : PySem.W.nsIn K mainGlobals "tuple" = some none
  b_zip : PySem.W.nsIn K mainGlobals "zip" = some none
  c_BadGoal : PySem.W.nsIn K mainGlobals "BadGoal" = some (some (.ref 141))
  c_BadLed : PySem.W.nsIn K mainGlobals "BadLed" = some (some (.ref 160))
  c_BadOne : PySem.W.nsIn K mainGlobals "BadOne" = some (some (.ref 103))
  c_BadOther : PySem.W.nsIn K mainGlobals "BadOther" = some (some (.ref 122))
  c_BadWeb : PySem.W.nsIn K mainGlobals "BadWeb" = some (some (.ref 84))
  i1_BadGoal : OexB K 141
  i2_BadGoal : PySem.W.findIn K (.ref 141) "__setattr__" = some (some (.builtin "object.__setattr__"))
  i3_BadGoal : PySem.W.subIn K (.ref 141) (.type "BaseException") = some true
  i4_BadGoal : PySem.W.typeIn K (.ref 141) = some (.type "type")
  i5_BadGoal : PySem.W.keepIn K (.ref 141) = true
  i6_BadGoal : PySem.W.findIn K (.ref 141) "__init__" = some (some (.ref 138))
  i7_BadGoal : PySem.W.typeIn K (.ref 138) = some (.type "function")
  i8_BadGoal : InitK K 138 "goal"
  i9_BadGoal : PySem.W.findIn K (.ref 141) "goal" = some none
  i1_BadLed : OexB K 160
  i2_BadLed : PySem.W.findIn K (.ref 160) "__setattr__" = some (some (.builtin "object.__setattr__"))
  i3_BadLed : PySem.W.subIn K (.ref 160) (.type "BaseException") = some true
  i4_BadLed : PySem.W.typeIn K (.ref 160) = some (.type "type")
  i5_BadLed : PySem.W.keepIn K (.ref 160) = true
  i6_BadLed : PySem.W.findIn K (.ref 160) "__init__" = some (some (.ref 157))
  i7_BadLed : PySem.W.typeIn K (.ref 157) = some (.type "function")
  i8_BadLed : InitK K 157 "led"
  i9_BadLed : PySem.W.findIn K (.ref 160) "led" = some none
  i1_BadOne : OexB K 103
  i2_BadOne : PySem.W.findIn K (.ref 103) "__setattr__" = some (some (.builtin "object.__setattr__"))
  i3_BadOne : PySem.W.subIn K (.ref 103) (.type "BaseException") = some true
  i4_BadOne : PySem.W.typeIn K (.ref 103) = some (.type "type")
  i5_BadOne : PySem.W.keepIn K (.ref 103) = true
  i6_BadOne : PySem.W.findIn K (.ref 103) "__init__" = some (some (.ref 100))
  i7_BadOne : PySem.W.typeIn K (.ref 100) = some (.type "function")
  i8_BadOne : InitK K 100 "one"
  i9_BadOne : PySem.W.findIn K (.ref 103) "one" = some none
  i1_BadOther : OexB K 122
  i2_BadOther : PySem.W.findIn K (.ref 122) "__setattr__" = some (some (.builtin "object.__setattr__"))
  i3_BadOther : PySem.W.subIn K (.ref 122) (.type "BaseException") = some true
  i4_BadOther : PySem.W.typeIn K (.ref 122) = some (.type "type")
  i5_BadOther : PySem.W.keepIn K (.ref 122) = true
  i6_BadOther : PySem.W.findIn K (.ref 122) "__init__" = some (some (.ref 119))
  i7_BadOther : PySem.W.typeIn K (.ref 119) = some (.type "function")
  i8_BadOther : InitK K 119 "other"
  i9_BadOther : PySem.W.findIn K (.ref 122) "other" = some none
  i1_BadWeb : OexB K 84
  i2_BadWeb : PySem.W.findIn K (.ref 84) "__setattr__" = some (some (.builtin "object.__setattr__"))
  i3_BadWeb : PySem.W.subIn K (.ref 84) (.type "BaseException") = some true
  i4_BadWeb : PySem.W.typeIn K (.ref 84) = some (.type "type")
  i5_BadWeb : PySem.W.keepIn K (.ref 84) = true
  i6_BadWeb : PySem.W.findIn K (.ref 84) "__init__" = some (some (.ref 81))
  i7_BadWeb : PySem.W.typeIn K (.ref 81) = some (.type "function")
  i8_BadWeb : InitK K 81 "web"
  i9_BadWeb : PySem.W.findIn K (.ref 84) "web" = some none
  mt_141 : PySem.W.exmOne K (.ref 141) (.ref 141) = some true
  mf_160_141 : PySem.W.exmOne K (.ref 160) (.ref 141) = some false
  mf_103_141 : PySem.W.exmOne K (.ref 103) (.ref 141) = some false
  mf_122_141 : PySem.W.exmOne K (.ref 122) (.ref 141) = some false
  mf_84_141 : PySem.W.exmOne K (.ref 84) (.ref 141) = some false
  mt_160 : PySem.W.exmOne K (.ref 160) (.ref 160) = some true
  mf_141_160 : PySem.W.exmOne K (.ref 141) (.ref 160) = some false
  mf_103_160 : PySem.W.exmOne K (.ref 103) (.ref 160) = some false
  mf_122_160 : PySem.W.exmOne K (.ref 122) (.ref 160) = some false
  mf_84_160 : PySem.W.exmOne K (.ref 84) (.ref 160) = some false
  mt_103 : PySem.W.exmOne K (.ref 103) (.ref 103) = some true
  mf_141_103 : PySem.W.exmOne K (.ref 141) (.ref 103) = some false
  mf_160_103 : PySem.W.exmOne K (.ref 160) (.ref 103) = some false
  mf_122_103 : PySem.W.exmOne K (.ref 122) (.ref 103) = some false
  mf_84_103 : PySem.W.exmOne K (.ref 84) (.ref 103) = some false
  mt_122 : PySem.W.exmOne K (.ref 122) (.ref 122) = some true
  mf_141_122 : PySem.W.exmOne K (.ref 141) (.ref 122) = some false
  mf_160_122 : PySem.W.exmOne K (.ref 160) (.ref 122) = some false
  mf_103_122 : PySem.W.exmOne K (.ref 103) (.ref 122) = some false
  mf_84_122 : PySem.W.exmOne K (.ref 84) (.ref 122) = some false
  mt_84 : PySem.W.exmOne K (.ref 84) (.ref 84) = some true
  mf_141_84 : PySem.W.exmOne K (.ref 141) (.ref 84) = some false
  mf_160_84 : PySem.W.exmOne K (.ref 160) (.ref 84) = some false
  mf_103_84 : PySem.W.exmOne K (.ref 103) (.ref 84) = some false
  mf_122_84 : PySem.W.exmOne K (.ref 122) (.ref 84) = some false
  x1_goal_141 : L2.xfB K 141 = true
  x2_goal_141 : PySem.W.findIn K (.ref 141) "goal" = some none
  x1_led_160 : L2.xfB K 160 = true
  x2_led_160 : PySem.W.findIn K (.ref 160) "led" = some none
  x1_one_103 : L2.xfB K 103 = true
  x2_one_103 : PySem.W.findIn K (.ref 103) "one" = some none
  x1_other_122 : L2.xfB K 122 = true
  x2_other_122 : PySem.W.findIn K (.ref 122) "other" = some none
  x1_web_84 : L2.xfB K 84 = true
  x2_web_84 : PySem.W.findIn K (.ref 84) "web" = some none
  t1_338 : PySem.W.codeHdIn K 338 334 = true
  t2_334 : K.lookup 334 = none
  t1_312 : PySem.W.codeHdIn K 312 308 = true
  t2_308 : K.lookup 308 = none
  t1_350 : PySem.W.codeHdIn K 350 346 = true
  t2_346 : K.lookup 346 = none
def nmsK : Nat → Nat → Nat → Str := fun t _ _ => match t with
  | 0 => ("_law_asks" : Str) ++ ".<locals>." ++ "<lambda>"
  | 1 => ("_law_is_very" : Str) ++ ".<locals>." ++ "<lambda>"
  | 2 => ("law" : Str) ++ ".<locals>." ++ "<lambda>"
  | _ => ""
def tabsK : List (Addr × Addr) := [(338, 334), (312, 308), (350, 346)]
theorem txt_of {P : Program} {w : World} {K : PySem.W.Frag} {mg : Str → Option Value} {h : Heap} (KX : K.In h) (G : h.Ns mainGlobals mg) (KF : KFacts K) (base : Heap) (os : OsState) (ok : (glOf P w K mg lamK nmsK (tabsK.map (·.2)) base os).Ok) (TB : ∀ p ∈ tabsK, LamX.TabB base mg p.1 p.2) : Txt (glOf P w K mg lamK nmsK (tabsK.map (·.2)) base os) where
  ok := ok
  d__law_met := KX.defAt G KF.n__law_met KF.e__law_met KF.l__law_met
  d__law_same := KX.defAt G KF.n__law_same KF.e__law_same KF.l__law_same
  d__law_all_met := KX.defAt G KF.n__law_all_met KF.e__law_all_met KF.l__law_all_met
  d_is_list := KX.defAt G KF.n_is_list KF.e_is_list KF.l_is_list
  d_is_whole := KX.defAt G KF.n_is_whole KF.e_is_whole KF.l_is_whole
  d_is_number := KX.defAt G KF.n_is_number KF.e_is_number KF.l_is_number
  d_is_below := KX.defAt G KF.n_is_below KF.e_is_below KF.l_is_below
  d_is_row := KX.defAt G KF.n_is_row KF.e_is_row KF.l_is_row
  d_near_lists := KX.defAt G KF.n_near_lists KF.e_near_lists KF.l_near_lists
  d_kept_map := KX.defAt G KF.n_kept_map KF.e_kept_map KF.l_kept_map
  d_is_ascending := KX.defAt G KF.n_is_ascending KF.e_is_ascending KF.l_is_ascending
  d_kept_web := KX.defAt G KF.n_kept_web KF.e_kept_web KF.l_kept_web
  d_need_goal := KX.defAt G KF.n_need_goal KF.e_need_goal KF.l_need_goal
  d_need_web := KX.defAt G KF.n_need_web KF.e_need_web KF.l_need_web
  d_need_webs := KX.defAt G KF.n_need_webs KF.e_need_webs KF.l_need_webs
  d_need_ends := KX.defAt G KF.n_need_ends KF.e_need_ends KF.l_need_ends
  d_nexts_of := KX.defAt G KF.n_nexts_of KF.e_nexts_of KF.l_nexts_of
  d_are_steps := KX.defAt G KF.n_are_steps KF.e_are_steps KF.l_are_steps
  d_maps_by := KX.defAt G KF.n_maps_by KF.e_maps_by KF.l_maps_by
  d_reached := KX.defAt G KF.n_reached KF.e_reached KF.l_reached
  d_map_classes := KX.defAt G KF.n_map_classes KF.e_map_classes KF.l_map_classes
  d_class_count := KX.defAt G KF.n_class_count KF.e_class_count KF.l_class_count
  d_next_maps := KX.defAt G KF.n_next_maps KF.e_next_maps KF.l_next_maps
  d_way_to := KX.defAt G KF.n_way_to KF.e_way_to KF.l_way_to
  d_steps_far := KX.defAt G KF.n_steps_far KF.e_steps_far KF.l_steps_far
  d_steps_or_lot := KX.defAt G KF.n_steps_or_lot KF.e_steps_or_lot KF.l_steps_or_lot
  d__law_asks := KX.defAt G KF.n__law_asks KF.e__law_asks KF.l__law_asks
  d__law_is_very := KX.defAt G KF.n__law_is_very KF.e__law_is_very KF.l__law_is_very
  d__law_stream := KX.defAt G KF.n__law_stream KF.e__law_stream KF.l__law_stream
  d__law_u_odd_webs := KX.defAt G KF.n__law_u_odd_webs KF.e__law_u_odd_webs KF.l__law_u_odd_webs
  d__law_draw := KX.defAt G KF.n__law_draw KF.e__law_draw KF.l__law_draw
  d__law_u_web := KX.defAt G KF.n__law_u_web KF.e__law_u_web KF.l__law_u_web
  d_folds_among := KX.defAt G KF.n_folds_among KF.e_folds_among KF.l_folds_among
  d_stiff_or_fold := KX.defAt G KF.n_stiff_or_fold KF.e_stiff_or_fold KF.l_stiff_or_fold
  d_law := KX.defAt G KF.n_law KF.e_law KF.l_law
  lam_0 := rfl
  lam_1 := rfl
  lam_2 := rfl
  lam_3 := rfl
  lam_4 := rfl
  lam_5 := rfl
  lam_6 := rfl
  lam_7 := rfl
  lam_8 := rfl
  lam_9 := rfl
  lam_10 := rfl
  lam_11 := rfl
  lam_12 := rfl
  lam_13 := rfl
  lam_14 := rfl
  lam_15 := rfl
  lam_16 := rfl
  nms_0 := fun _ _ => rfl
  tab__law_asks := TB (338, 334) (by simp [tabsK])
  nms_1 := fun _ _ => rfl
  tab__law_is_very := TB (312, 308) (by simp [tabsK])
  nms_2 := fun _ _ => rfl
  tab_law := TB (350, 346) (by simp [tabsK])
  b_abs := PySem.W.mg_none_of KX G KF.b_abs
  b_all := PySem.W.mg_none_of KX G KF.b_all
  b_bool := PySem.W.mg_none_of KX G KF.b_bool
  b_dict := PySem.W.mg_none_of KX G KF.b_dict
  b_int := PySem.W.mg_none_of KX G KF.b_int
  b_isinstance := PySem.W.mg_none_of KX G KF.b_isinstance
  b_len := PySem.W.mg_none_of KX G KF.b_len
  b_list := PySem.W.mg_none_of KX G KF.b_list
  b_range := PySem.W.mg_none_of KX G KF.b_range
  b_sorted := PySem.W.mg_none_of KX G KF.b_sorted
  b_str := PySem.W.mg_none_of KX G KF.b_str
  b_tuple := PySem.W.mg_none_of KX G KF.b_tuple
  b_zip := PySem.W.mg_none_of KX G KF.b_zip
  c_BadGoal := PySem.W.mg_of KX G KF.c_BadGoal
  c_BadLed := PySem.W.mg_of KX G KF.c_BadLed
  c_BadOne := PySem.W.mg_of KX G KF.c_BadOne
  c_BadOther := PySem.W.mg_of KX G KF.c_BadOther
  c_BadWeb := PySem.W.mg_of KX G KF.c_BadWeb
  i_BadGoal := ini_of KF.i1_BadGoal KF.i2_BadGoal KF.i3_BadGoal KF.i4_BadGoal KF.i5_BadGoal KF.i6_BadGoal KF.i7_BadGoal KF.i8_BadGoal KF.i9_BadGoal (by decide) (by decide) (by decide)
  i_BadLed := ini_of KF.i1_BadLed KF.i2_BadLed KF.i3_BadLed KF.i4_BadLed KF.i5_BadLed KF.i6_BadLed KF.i7_BadLed KF.i8_BadLed KF.i9_BadLed (by decide) (by decide) (by decide)
  i_BadOne := ini_of KF.i1_BadOne KF.i2_BadOne KF.i3_BadOne KF.i4_BadOne KF.i5_BadOne KF.i6_BadOne KF.i7_BadOne KF.i8_BadOne KF.i9_BadOne (by decide) (by decide) (by decide)
  i_BadOther := ini_of KF.i1_BadOther KF.i2_BadOther KF.i3_BadOther KF.i4_BadOther KF.i5_BadOther KF.i6_BadOther KF.i7_BadOther KF.i8_BadOther KF.i9_BadOther (by decide) (by decide) (by decide)
  i_BadWeb := ini_of KF.i1_BadWeb KF.i2_BadWeb KF.i3_BadWeb KF.i4_BadWeb KF.i5_BadWeb KF.i6_BadWeb KF.i7_BadWeb KF.i8_BadWeb KF.i9_BadWeb (by decide) (by decide) (by decide)
  mt := fun C c b h => by
    unfold mtK at h
    split at h
    · split at h
      · rename_i e; subst e; cases h; exact KF.mt_141
      · split at h
        · rename_i e; simp only [Bool.or_eq_true, decide_eq_true_eq] at e; cases h
          rcases e with ((rfl | rfl) | rfl) | rfl
          · exact KF.mf_160_141
          · exact KF.mf_103_141
          · exact KF.mf_122_141
          · exact KF.mf_84_141
        · cases h
    · split at h
      · rename_i e; subst e; cases h; exact KF.mt_160
      · split at h
        · rename_i e; simp only [Bool.or_eq_true, decide_eq_true_eq] at e; cases h
          rcases e with ((rfl | rfl) | rfl) | rfl
          · exact KF.mf_141_160
          · exact KF.mf_103_160
          · exact KF.mf_122_160
          · exact KF.mf_84_160
        · cases h
    · split at h
      · rename_i e; subst e; cases h; exact KF.mt_103
      · split at h
        · rename_i e; simp only [Bool.or_eq_true, decide_eq_true_eq] at e; cases h
          rcases e with ((rfl | rfl) | rfl) | rfl
          · exact KF.mf_141_103
          · exact KF.mf_160_103
          · exact KF.mf_122_103
          · exact KF.mf_84_103
        · cases h
    · split at h
      · rename_i e; subst e; cases h; exact KF.mt_122
      · split at h
        · rename_i e; simp only [Bool.or_eq_true, decide_eq_true_eq] at e; cases h
          rcases e with ((rfl | rfl) | rfl) | rfl
          · exact KF.mf_141_122
          · exact KF.mf_160_122
          · exact KF.mf_103_122
          · exact KF.mf_84_122
        · cases h
    · split at h
      · rename_i e; subst e; cases h; exact KF.mt_84
      · split at h
        · rename_i e; simp only [Bool.or_eq_true, decide_eq_true_eq] at e; cases h
          rcases e with ((rfl | rfl) | rfl) | rfl
          · exact KF.mf_141_84
          · exact KF.mf_160_84
          · exact KF.mf_103_84
          · exact KF.mf_122_84
        · cases h
    · cases h
  x_goal := fun C h => by
    simp only [ok_goal, Bool.or_eq_true, decide_eq_true_eq] at h
    rcases h with rfl
    · exact ⟨L2.xfB_ok KF.x1_goal_141, KF.x2_goal_141⟩
  x_led := fun C h => by
    simp only [ok_led, Bool.or_eq_true, decide_eq_true_eq] at h
    rcases h with rfl
    · exact ⟨L2.xfB_ok KF.x1_led_160, KF.x2_led_160⟩
  x_one := fun C h => by
    simp only [ok_one, Bool.or_eq_true, decide_eq_true_eq] at h
    rcases h with rfl
    · exact ⟨L2.xfB_ok KF.x1_one_103, KF.x2_one_103⟩
  x_other := fun C h => by
    simp only [ok_other, Bool.or_eq_true, decide_eq_true_eq] at h
    rcases h with rfl
    · exact ⟨L2.xfB_ok KF.x1_other_122, KF.x2_other_122⟩
  x_web := fun C h => by
    simp only [ok_web, Bool.or_eq_true, decide_eq_true_eq] at h
    rcases h with rfl
    · exact ⟨L2.xfB_ok KF.x1_web_84, KF.x2_web_84⟩
theorem lawZ_of {l : PySem.W.OpenLaw} {w : World} {K : PySem.W.Frag} {mg : Str → Option Value} {fa : Addr} {h : Heap} (KX : K.In h) (G : h.Ns mainGlobals mg) (hmg : mg "law" = some (.ref fa)) (hT : ∀ p ∈ tabsK, h.get? p.2 = some (PySem.W.tabObj #[])) (KF : KFacts K) : LawZ l w K 15 63 "script" mg fa h := by
  have e := PySem.W.mg_of KX G KF.n_law
  rw [hmg] at e
  cases e
  refine ⟨fdK K 351, tabsK, r_lawc, lamK, nmsK, hT, ?_, ?_, by decide, ?_, ?_, fun base os ok TB => fz_lawc (txt_of KX G KF base os ok TB)⟩
  · intro p hp
    simp only [tabsK, List.mem_cons, List.not_mem_nil, or_false] at hp
    rcases hp with rfl | rfl | rfl
    · exact KF.t2_334
    · exact KF.t2_308
    · exact KF.t2_346
  · intro p hp
    simp only [tabsK, List.mem_cons, List.not_mem_nil, or_false] at hp
    rcases hp with rfl | rfl | rfl
    · exact PySem.W.codeHd_of_K KX KF.t1_338
    · exact PySem.W.codeHd_of_K KX KF.t1_312
    · exact PySem.W.codeHd_of_K KX KF.t1_350
  · intro s u
    have l := KF.l_law
    unfold FnK at l
    have e : fdK K 351 = PySem.W.fnOf "law" "law" (L2.defArgs (top 49)) (L2.defBody (top 49)) (L2.defScope (top 49)) .none .none .none (fdK K 351).pyModule none (.ref 350) .none := by conv => lhs; unfold fdK; rw [l]
    rw [e]
    exact BindsTo.of_eq rfl
  · intro ns h1 _
    exact law_ev ns h1
end K
set_option maxHeartbeats 0 in
theorem PySem.Challenge.cw_foldedwebs_k35_steps_of_maps_refused_holds : PySem.Challenge.rw_foldedwebs_k35_steps_of_maps_refused.Holds := by
  w_on; o_law; k_head; (case hw => w_witness2)
  k_fill
  refine Z.walkZ (l := PySem.Challenge.rw_foldedwebs_k35_steps_of_maps_refused) (n := 63) (k := 15) (x := "script") rfl (by decide) rfl ⟨rfl, by decide, by decide⟩ (fun w h Y => by first | exact PySem.W.km_in_of Y | exact PySem.W.kIn_of Y) ?F
  case F =>
    intro w mg fa h Y KX G hmg
    refine K.lawZ_of KX G hmg ?hT ?KF
    case hT =>
      intro p hp
      simp only [K.tabsK, List.mem_cons, List.not_mem_nil, or_false] at hp
      rcases hp with rfl | rfl | rfl
      · exact PySem.W.km_tabs_of (w := w) (h := h) Y _ (by simp)
      · exact PySem.W.km_tabs_of (w := w) (h := h) Y _ (by simp)
      · exact PySem.W.km_tabs_of (w := w) (h := h) Y _ (by simp)
    case KF =>
      refine ⟨?_, ?_, ?_, ?_, ?_, ?_, ?_, ?_, ?_, ?_, ?_, ?_, ?_, ?_, ?_, ?_, ?_, ?_, ?_, ?_, ?_, ?_, ?_, ?_, ?_, ?_, ?_, ?_, ?_, ?_, ?_, ?_, ?_, ?_, ?_, ?_, ?_, ?_, ?_, ?_, ?_, ?_, ?_, ?_, ?_, ?_, ?_, ?_, ?_, ?_, ?_, ?_, ?_, ?_, ?_, ?_, ?_, ?_, ?_, ?_, ?_, ?_, ?_, ?_, ?_, ?_, ?_, ?_, ?_, ?_, ?_, ?_, ?_, ?_, ?_, ?_, ?_, ?_, ?_, ?_, ?_, ?_, ?_, ?_, ?_, ?_, ?_, ?_, ?_, ?_, ?_, ?_, ?_, ?_, ?_, ?_, ?_, ?_, ?_, ?_, ?_, ?_, ?_, ?_, ?_, ?_, ?_, ?_, ?_, ?_, ?_, ?_, ?_, ?_, ?_, ?_, ?_, ?_, ?_, ?_, ?_, ?_, ?_, ?_, ?_, ?_, ?_, ?_, ?_, ?_, ?_, ?_, ?_, ?_, ?_, ?_, ?_, ?_, ?_, ?_, ?_, ?_, ?_, ?_, ?_, ?_, ?_, ?_, ?_, ?_, ?_, ?_, ?_, ?_, ?_, ?_, ?_, ?_, ?_, ?_, ?_, ?_, ?_, ?_, ?_, ?_, ?_, ?_, ?_, ?_, ?_, ?_, ?_, ?_, ?_, ?_, ?_, ?_, ?_, ?_, ?_, ?_, ?_, ?_, ?_, ?_, ?_, ?_, ?_, ?_, ?_, ?_, ?_, ?_, ?_, ?_, ?_, ?_, ?_, ?_, ?_, ?_, ?_, ?_, ?_, ?_, ?_, ?_, ?_⟩
      · k_is
      · k_is
      · show _ = _; kernel_rfl
      · k_is
      · k_is
      · show _ = _; kernel_rfl
      · k_is
      · k_is
      · show _ = _; kernel_rfl
      · k_is
      · k_is
      · show _ = _; kernel_rfl
      · k_is
      · k_is
      · show _ = _; kernel_rfl
      · k_is
      · k_is
      · show _ = _; kernel_rfl
      · k_is
      · k_is
      · show _ = _; kernel_rfl
      · k_is
      · k_is
      · show _ = _; kernel_rfl
      · k_is
      · k_is
      · show _ = _; kernel_rfl
      · k_is
      · k_is
      · show _ = _; kernel_rfl
      · k_is
      · k_is
      · show _ = _; kernel_rfl
      · k_is
      · k_is
      · show _ = _; kernel_rfl
      · k_is
      · k_is
      · show _ = _; kernel_rfl
      · k_is
      · k_is
      · show _ = _; kernel_rfl
      · k_is
      · k_is
      · show _ = _; kernel_rfl
      · k_is
      · k_is
      · show _ = _; kernel_rfl
      · k_is
      · k_is
      · show _ = _; kernel_rfl
      · k_is
      · k_is
      · show _ = _; kernel_rfl
      · k_is
      · k_is
      · show _ = _; kernel_rfl
      · k_is
      · k_is
      · show _ = _; kernel_rfl
      · k_is
      · k_is
      · show _ = _; kernel_rfl
      · k_is
      · k_is
      · show _ = _; kernel_rfl
      · k_is
      · k_is
      · show _ = _; kernel_rfl
      · k_is
      · k_is
      · show _ = _; kernel_rfl
      · k_is
      · k_is
      · show _ = _; kernel_rfl
      · k_is
      · k_is
      · show _ = _; kernel_rfl
      · k_is
      · k_is
      · show _ = _; kernel_rfl
      · k_is
      · k_is
      · show _ = _; kernel_rfl
      · k_is
      · k_is
      · show _ = _; kernel_rfl
      · k_is
      · k_is
      · show _ = _; kernel_rfl
      · k_is
      · k_is
      · show _ = _; kernel_rfl
      · k_is
      · k_is
      · show _ = _; kernel_rfl
      · k_is
      · k_is
      · show _ = _; kernel_rfl
      · k_is
      · k_is
      · show _ = _; kernel_rfl
      · k_is
      · k_is
      · show _ = _; kernel_rfl
      · k_is
      · k_is
      · k_is
      · k_is
      · k_is
      · k_is
      · k_is
      · k_is
      · k_is
      · k_is
      · k_is
      · k_is
      · k_is
      · k_is
      · k_is
      · k_is
      · k_is
      · k_is
      · refine ⟨?_, ?_⟩; kernel_rfl; kernel_rfl
      · k_is
      · k_is
      · k_is
      · k_is
      · k_is
      · k_is
      · refine ⟨?_, ?_, ?_, ?_, ?_, ?_, ?_, ?_⟩; kernel_rfl; kernel_rfl; kernel_rfl; kernel_rfl; kernel_rfl; kernel_rfl; kernel_rfl; (intro a u; first | kernel_rfl | rfl)
      · k_is
      · refine ⟨?_, ?_⟩; kernel_rfl; kernel_rfl
      · k_is
      · k_is
      · k_is
      · k_is
      · k_is
      · k_is
      · refine ⟨?_, ?_, ?_, ?_, ?_, ?_, ?_, ?_⟩; kernel_rfl; kernel_rfl; kernel_rfl; kernel_rfl; kernel_rfl; kernel_rfl; kernel_rfl; (intro a u; first | kernel_rfl | rfl)
      · k_is
      · refine ⟨?_, ?_⟩; kernel_rfl; kernel_rfl
      · k_is
      · k_is
      · k_is
      · k_is
      · k_is
      · k_is
      · refine ⟨?_, ?_, ?_, ?_, ?_, ?_, ?_, ?_⟩; kernel_rfl; kernel_rfl; kernel_rfl; kernel_rfl; kernel_rfl; kernel_rfl; kernel_rfl; (intro a u; first | kernel_rfl | rfl)
      · k_is
      · refine ⟨?_, ?_⟩; kernel_rfl; kernel_rfl
      · k_is
      · k_is
      · k_is
      · k_is
      · k_is
      · k_is
      · refine ⟨?_, ?_, ?_, ?_, ?_, ?_, ?_, ?_⟩; kernel_rfl; kernel_rfl; kernel_rfl; kernel_rfl; kernel_rfl; kernel_rfl; kernel_rfl; (intro a u; first | kernel_rfl | rfl)
      · k_is
      · refine ⟨?_, ?_⟩; kernel_rfl; kernel_rfl
      · k_is
      · k_is
      · k_is
      · k_is
      · k_is
      · k_is
      · refine ⟨?_, ?_, ?_, ?_, ?_, ?_, ?_, ?_⟩; kernel_rfl; kernel_rfl; kernel_rfl; kernel_rfl; kernel_rfl; kernel_rfl; kernel_rfl; (intro a u; first | kernel_rfl | rfl)
      · k_is
      · (first | k_is | kernel_rfl)
      · (first | k_is | kernel_rfl)
      · (first | k_is | kernel_rfl)
      · (first | k_is | kernel_rfl)
      · (first | k_is | kernel_rfl)
      · (first | k_is | kernel_rfl)
      · (first | k_is | kernel_rfl)
      · (first | k_is | kernel_rfl)
      · (first | k_is | kernel_rfl)
      · (first | k_is | kernel_rfl)
      · (first | k_is | kernel_rfl)
      · (first | k_is | kernel_rfl)
      · (first | k_is | kernel_rfl)
      · (first | k_is | kernel_rfl)
      · (first | k_is | kernel_rfl)
      · (first | k_is | kernel_rfl)
      · (first | k_is | kernel_rfl)
      · (first | k_is | kernel_rfl)
      · (first | k_is | kernel_rfl)
      · (first | k_is | kernel_rfl)
      · (first | k_is | kernel_rfl)
      · (first | k_is | kernel_rfl)
      · (first | k_is | kernel_rfl)
      · (first | k_is | kernel_rfl)
      · (first | k_is | kernel_rfl)
      · (first | k_is | kernel_rfl)
      · k_is
      · (first | k_is | kernel_rfl)
      · k_is
      · (first | k_is | kernel_rfl)
      · k_is
      · (first | k_is | kernel_rfl)
      · k_is
      · (first | k_is | kernel_rfl)
      · k_is
      · (first | k_is | kernel_rfl)
      · (first | k_is | kernel_rfl)
      · (first | k_is | kernel_rfl)
      · (first | k_is | kernel_rfl)
      · (first | k_is | kernel_rfl)
      · (first | k_is | kernel_rfl)


