import PyProof.Rows.All
import Wide.All
import OpenK.AllK
import Wide.FinOn
import HandS.ForMost
import HandS.ForExc
import HandS.Deep
import HandS.TupAny
import HandS.TupMul
import HandS.Zip
import HandS.IsInst
import KE.KDictKeyed
import KE.SortData
import HandS.Style
import PyProof.DictRoadsH
import KE.KDictWalk
import HandS.TupSets
import HandS.Ends
import PySem.Challenge.RW_daytellings_k01_cases
set_option Elab.async false
set_option linter.all false
set_option maxRecDepth 100000
namespace Dt
open PySem PySem.Spec PyProof.Rows L2

/-! ### results -/
inductive Res (α : Type) where
  | ok (a : α)
  | err (c : Str)
  | stuck
def Res.bind {α β : Type} (r : Res α) (k : α → Res β) : Res β := match r with
  | .ok a => k a
  | .err c => .err c
  | .stuck => .stuck
instance : Monad Res where
  pure := .ok
  bind := Res.bind
@[simp] theorem ok_bind {α β : Type} (a : α) (k : α → Res β) : ((Res.ok a) >>= k) = k a := rfl
@[simp] theorem err_bind {α β : Type} (c : Str) (k : α → Res β) : ((Res.err c : Res α) >>= k) = .err c := rfl
@[simp] theorem stuck_bind {α β : Type} (k : α → Res β) : ((Res.stuck : Res α) >>= k) = .stuck := rfl
@[simp] theorem pure_ok {α : Type} (a : α) : (pure a : Res α) = .ok a := rfl
theorem bind_assoc' {α β γ : Type} (r : Res α) (k : α → Res β) (l : β → Res γ) : ((r >>= k) >>= l) = (r >>= fun a => k a >>= l) := by cases r <;> rfl

/-! ### data and what stands for it -/
structure Kx where
  P : Program
  w : World
  K : PySem.W.Frag
abbrev kx (X : Cx) : Kx := ⟨X.prog, X.w, X.K⟩
/-- the key of a dict that a datum is -/
def nk : PyData → NestedKey
  | .none => .none
  | .bool b => .num (if b then 1 else 0)
  | .int i => .num i
  | .str x => .text x
  | .list _ => .none
  | .dict _ => .none
  | .tuple xs => .tup (nks xs)
where nks : List PyData → List NestedKey
  | [] => []
  | x :: xs => nk x :: nks xs
mutual
def keyIn : PyData → Bool
  | .none => true
  | .bool _ => true
  | .int _ => true
  | .str _ => true
  | .tuple xs => keysIn xs
  | .list _ => false
  | .dict _ => false
def keysIn : List PyData → Bool
  | [] => true
  | x :: xs => keyIn x && keysIn xs
end
def keyOk (d : PyData) : Bool := (match d with | .tuple _ => true | _ => false) && keyIn d && decide ((nk d).depth ≤ 8)
/-- a dict keyed by tuples, its entries as they are laid -/
def DicO (P : Program) (w : World) (a : Addr) (xs : List (NestedKey × Addr × V)) (ep : Nat) : HO :=
  .ext fun h => (a == sysModules) = false ∧ xs.length ≤ sizeLine ∧ (xs.map (·.1)).Nodup ∧ ∃ o es vs, h.get? a = some o ∧ o.ExactDict ∧ o.data = .dict es ep ∧
    Paired (fun (p : NestedKey × Addr × V) (q : NestedKey × Addr × Value) => p.1 = q.1 ∧ p.2.1 = q.2.1 ∧ RelV p.2.2 q.2.2) xs vs ∧ es.toList = vs.map (entryOfKey (nestedKind P w))
abbrev DicAt (κ : Kx) (H : Hp) (a : Addr) (xs : List (NestedKey × Addr × V)) : Prop := ∃ ep, H a = some (DicO κ.P κ.w a xs ep)
/-- a list that is an object of the module -/
def SqK (K : PySem.W.Frag) (a : Addr) (xs : List V) : Prop :=
  ∃ (o : Obj) (its : Array Value) (n : Nat), K.lookup a = some o ∧ o.cls = .type "list" ∧ o.dict = none ∧ o.data = .seq its n ∧ its.size ≤ sizeLine ∧ Vals xs its.toList
/-- the script as a datum of its own kind -/
def scrD (ns : List Int) : PyData := .dict [(.str "<script>", .list (ns.map .int))]

/-- who owns what: none nobody, 0 an outer def, i + 1 the slot i -/
abbrev Ow := Addr → Option Nat
def ins (A : Ow) (p : Addr) (n : Nat) : Ow := fun a => if a = p then some n else A a
theorem ins_same {A : Ow} {p : Addr} {n : Nat} : ins A p n p = some n := if_pos rfl
theorem ins_ne {A : Ow} {p a : Addr} {n : Nat} (h : a ≠ p) : ins A p n a = A a := if_neg h
mutual
/-- v is the datum; nothing of it stands at A (owned elsewhere) -/
inductive Rep (A : Ow) (κ : Kx) (H : Hp) : V → PyData → Prop
  | non : Rep A κ H .non .none
  | bl (b : Bool) : Rep A κ H (.bl b) (.bool b)
  | int (i : Int) : Rep A κ H (.int i) (.int i)
  | str (x : Str) : Rep A κ H (.str x) (.str x)
  | lst {a : Addr} {xs : List V} {ds : List PyData} : H a = some (.lst xs) → A a = none → Reps A κ H xs ds → Rep A κ H (.ref a) (.list ds)
  | tup {a : Addr} {xs : List V} {ds : List PyData} : SqT κ.K H a xs → Reps A κ H xs ds → Rep A κ H (.ref a) (.tuple ds)
  | dic {a : Addr} {xs : List (NestedKey × Addr × V)} {kvs : List (PyData × PyData)} : DicAt κ H a xs → A a = none → Reps A κ H (xs.map fun x => V.ref x.2.1) (kvs.map (·.1)) → Reps A κ H (xs.map (·.2.2)) (kvs.map (·.2)) →
      xs.map (·.1) = kvs.map (fun p => nk p.1) → (∀ p ∈ kvs, keyOk p.1 = true) → Rep A κ H (.ref a) (.dict kvs)
  | scr {a : Addr} {ns : List Int} : ((∃ o, H a = some (.frz o (.lst (ns.map V.int)))) ∨ SqK κ.K a (ns.map V.int)) → Rep A κ H (.ref a) (scrD ns)
inductive Reps (A : Ow) (κ : Kx) (H : Hp) : List V → List PyData → Prop
  | nil : Reps A κ H [] []
  | cons {v : V} {vs : List V} {d : PyData} {ds : List PyData} : Rep A κ H v d → Reps A κ H vs ds → Reps A κ H (v :: vs) (d :: ds)
end

/-- an owned list or dict at p -/
def Own (A : Ow) (κ : Kx) (H : Hp) (p : Addr) : PyData → Prop
  | .list ds => ∃ xs, H p = some (.lst xs) ∧ Reps A κ H xs ds
  | .dict kvs => ∃ xs, DicAt κ H p xs ∧ Reps A κ H (xs.map fun x => V.ref x.2.1) (kvs.map (·.1)) ∧ Reps A κ H (xs.map (·.2.2)) (kvs.map (·.2)) ∧ xs.map (·.1) = kvs.map (fun p => nk p.1) ∧ ∀ p ∈ kvs, keyOk p.1 = true
  | _ => False
/-- a datum that is looked at: of its own, or owned by a name -/
def RepW (A : Ow) (κ : Kx) (H : Hp) (v : V) (d : PyData) : Prop := Rep A κ H v d ∨ ∃ p, v = .ref p ∧ A p ≠ none ∧ Own A κ H p d

section
variable {A A' : Ow} {κ : Kx} {H H' : Hp}
/-- what may change -/
structure Mv (A A' : Ow) (H H' : Hp) : Prop where
  free : ∀ a o, H a = some o → A a = none → H' a = some o ∧ A' a = none
  tups : ∀ a xs, H a = some (.tup xs) → H' a = some (.tup xs)
  frzs : ∀ a o u, H a = some (.frz o u) → H' a = some (.frz o u)
theorem Mv.sqT (m : Mv A A' H H') {K : PySem.W.Frag} {a : Addr} {xs : List V} (h : SqT K H a xs) : SqT K H' a xs := by
  rcases h with (h | ⟨o, h⟩) | h
  · exact .inl (.inl (m.tups _ _ h))
  · exact .inl (.inr ⟨o, m.frzs _ _ _ h⟩)
  · exact .inr h
mutual
theorem Rep.mv (m : Mv A A' H H') : ∀ {v : V} {d : PyData}, Rep A κ H v d → Rep A' κ H' v d
  | _, _, .non => .non
  | _, _, .bl b => .bl b
  | _, _, .int i => .int i
  | _, _, .str x => .str x
  | _, _, .lst h1 h2 h3 => .lst (m.free _ _ h1 h2).1 (m.free _ _ h1 h2).2 (Reps.mv m h3)
  | _, _, .tup h1 h2 => .tup (m.sqT h1) (Reps.mv m h2)
  | _, _, .dic ⟨ep, h1⟩ h2 h3 h4 h5 h6 => .dic ⟨ep, (m.free _ _ h1 h2).1⟩ (m.free _ _ h1 h2).2 (Reps.mv m h3) (Reps.mv m h4) h5 h6
  | _, _, .scr (.inl ⟨o, h1⟩) => .scr (.inl ⟨o, m.frzs _ _ _ h1⟩)
  | _, _, .scr (.inr h1) => .scr (.inr h1)
theorem Reps.mv (m : Mv A A' H H') : ∀ {v : List V} {d : List PyData}, Reps A κ H v d → Reps A' κ H' v d
  | _, _, .nil => .nil
  | _, _, .cons h1 h2 => .cons (Rep.mv m h1) (Reps.mv m h2)
end
theorem Mv.same (s : Same H H') : Mv A A H H' := ⟨fun a o h n => ⟨s a o h, n⟩, fun a xs h => s _ _ h, fun a o u h => s _ _ h⟩
theorem Mv.less (h : ∀ a, A a = none → A' a = none) : Mv A A' H H := ⟨fun a o e n => ⟨e, h a n⟩, fun _ _ e => e, fun _ _ _ e => e⟩
theorem Mv.ins {p : Addr} {k : Nat} {H1 : Hp} (s1 : Same H H1) (n : H1 p = none) (s2 : Same H1 H') : Mv A (Dt.ins A p k) H H' :=
  ⟨fun a o e x => ⟨s2 _ _ (s1 _ _ e), by rw [ins_ne (ne_of_none (s1 _ _ e) n)]; exact x⟩, fun a xs e => s2 _ _ (s1 _ _ e), fun a o u e => s2 _ _ (s1 _ _ e)⟩
theorem Mv.trans {A'' : Ow} {H'' : Hp} (m : Mv A A' H H') (n : Mv A' A'' H' H'') : Mv A A'' H H'' :=
  ⟨fun a o e x => n.free a o (m.free a o e x).1 (m.free a o e x).2, fun a xs e => n.tups _ _ (m.tups _ _ e), fun a o u e => n.frzs _ _ _ (m.frzs _ _ _ e)⟩
theorem Rep.same (s : Same H H') {v : V} {d : PyData} (h : Rep A κ H v d) : Rep A κ H' v d := h.mv (.same s)
theorem Reps.same (s : Same H H') {v : List V} {d : List PyData} (h : Reps A κ H v d) : Reps A κ H' v d := h.mv (.same s)
theorem Own.mv (m : Mv A A' H H') {p : Addr} (hp : ∀ o, H p = some o → H' p = some o) : ∀ {d : PyData}, Own A κ H p d → Own A' κ H' p d
  | .list ds, ⟨xs, h1, h2⟩ => ⟨xs, hp _ h1, h2.mv m⟩
  | .dict kvs, ⟨xs, ⟨ep, h1⟩, h2, h3, h4, h5⟩ => ⟨xs, ⟨ep, hp _ h1⟩, h2.mv m, h3.mv m, h4, h5⟩
theorem Own.same (s : Same H H') {p : Addr} {d : PyData} (h : Own A κ H p d) : Own A κ H' p d := h.mv (.same s) (s p)
theorem RepW.same (s : Same H H') {v : V} {d : PyData} (h : RepW A κ H v d) : RepW A κ H' v d := by
  rcases h with h | ⟨p, e, ha, ho⟩
  · exact .inl (h.same s)
  · exact .inr ⟨p, e, ha, ho.same s⟩
theorem Own.rep {p : Addr} : ∀ {d : PyData}, Own A κ H p d → A p = none → Rep A κ H (.ref p) d
  | .list ds, ⟨xs, h1, h2⟩, n => .lst h1 n h2
  | .dict kvs, ⟨xs, h1, h2, h3, h4, h5⟩, n => .dic h1 n h2 h3 h4 h5
theorem Reps.length : ∀ {vs : List V} {ds : List PyData}, Reps A κ H vs ds → vs.length = ds.length
  | _, _, .nil => rfl
  | _, _, .cons _ t => by rw [List.length_cons, List.length_cons, Reps.length t]
theorem Reps.append : ∀ {vs : List V} {ds : List PyData} {ws : List V} {es : List PyData}, Reps A κ H vs ds → Reps A κ H ws es → Reps A κ H (vs ++ ws) (ds ++ es)
  | _, _, _, _, .nil, k => k
  | _, _, _, _, .cons r t, k => .cons r (Reps.append t k)
theorem Reps.get : ∀ {vs : List V} {ds : List PyData} {i : Nat} {d : PyData}, Reps A κ H vs ds → ds[i]? = some d → ∃ v, vs[i]? = some v ∧ Rep A κ H v d
  | _, _, i, d, .nil, e => by simp at e
  | _, _, 0, d, .cons r t, e => by simp at e; subst e; exact ⟨_, rfl, r⟩
  | _, _, i + 1, d, .cons r t, e => by
    simp at e
    obtain ⟨v, h1, h2⟩ := Reps.get t e
    exact ⟨v, by simpa using h1, h2⟩
theorem Reps.getV : ∀ {vs : List V} {ds : List PyData} {i : Nat} {v : V}, Reps A κ H vs ds → vs[i]? = some v → ∃ d, ds[i]? = some d ∧ Rep A κ H v d
  | _, _, i, d, .nil, e => by simp at e
  | _, _, 0, d, .cons r t, e => by simp at e; subst e; exact ⟨_, rfl, r⟩
  | _, _, i + 1, d, .cons r t, e => by
    simp at e
    obtain ⟨v, h1, h2⟩ := Reps.getV t e
    exact ⟨v, by simpa using h1, h2⟩
theorem Reps.take : ∀ {vs : List V} {ds : List PyData} (n : Nat), Reps A κ H vs ds → Reps A κ H (vs.take n) (ds.take n)
  | _, _, 0, _ => .nil
  | _, _, _ + 1, .nil => .nil
  | _, _, n + 1, .cons r t => .cons r (Reps.take n t)
theorem Reps.drop : ∀ {vs : List V} {ds : List PyData} (n : Nat), Reps A κ H vs ds → Reps A κ H (vs.drop n) (ds.drop n)
  | _, _, 0, r => r
  | _, _, _ + 1, .nil => .nil
  | _, _, n + 1, .cons _ t => Reps.drop n t
theorem Reps.set {v : V} {d : PyData} (r : Rep A κ H v d) : ∀ {vs : List V} {ds : List PyData} (i : Nat), Reps A κ H vs ds → Reps A κ H (vs.set i v) (ds.set i d)
  | _, _, _, .nil => .nil
  | _, _, 0, .cons _ t => .cons r t
  | _, _, i + 1, .cons q t => .cons q (Reps.set r i t)
theorem Reps.rev {vs : List V} {ds : List PyData} (h : Reps A κ H vs ds) : Reps A κ H vs.reverse ds.reverse := by
  induction vs generalizing ds with
  | nil => cases h; exact .nil
  | cons v vs ih =>
    cases h with
    | cons r t =>
      rw [List.reverse_cons, List.reverse_cons]
      exact (ih t).append (.cons r .nil)
theorem Reps.rept {vs : List V} {ds : List PyData} (h : Reps A κ H vs ds) : ∀ k : Nat, Reps A κ H (List.replicate k vs).flatten (List.replicate k ds).flatten
  | 0 => .nil
  | k + 1 => by
    rw [List.replicate_succ, List.replicate_succ, List.flatten_cons, List.flatten_cons]
    exact h.append (Reps.rept h k)
mutual
theorem Rep.dp : ∀ {v : V} {d : PyData}, Rep A κ H v d → d.canLay0 = true → Dp κ.K H v d
  | _, _, .non, _ => .non
  | _, _, .bl b, _ => .bl b
  | _, _, .int i, _ => .int i
  | _, _, .str x, _ => .str x
  | _, _, .lst h1 h2 h3, c => .lst (.of h1) (Reps.dp h3 (by simpa [PyData.canLay0] using c))
  | _, _, .tup h1 h2, c => .tup h1 (Reps.dp h2 (by simpa [PyData.canLay0] using c))
  | _, _, .dic h1 h2 h3 h4 h5 h6, c => by simp [PyData.canLay0] at c
  | _, _, .scr h1, c => by simp [scrD, PyData.canLay0] at c
theorem Reps.dp : ∀ {v : List V} {d : List PyData}, Reps A κ H v d → PyData.canLayAll0 d = true → DpAll κ.K H v d
  | _, _, .nil, _ => .nil
  | _, _, .cons h1 h2, c => .cons (Rep.dp h1 (by rw [PyData.canLayAll0, Bool.and_eq_true] at c; exact c.1)) (Reps.dp h2 (by rw [PyData.canLayAll0, Bool.and_eq_true] at c; exact c.2))
end
theorem RepW.dp {v : V} {d : PyData} (h : RepW A κ H v d) (c : d.canLay0 = true) : Dp κ.K H v d := by
  rcases h with h | ⟨p, rfl, ha, ho⟩
  · exact h.dp c
  · cases d with
    | list ds =>
      obtain ⟨xs, h1, h2⟩ := ho
      exact .lst (.of h1) (h2.dp (by simpa [PyData.canLay0] using c))
    | _ => first | exact ho.elim | simp [PyData.canLay0] at c
theorem RepW.lst {v : V} {ds : List PyData} (h : RepW A κ H v (.list ds)) : ∃ p xs, v = .ref p ∧ H p = some (.lst xs) ∧ Reps A κ H xs ds := by
  rcases h with h | ⟨p, rfl, ha, xs, h1, h2⟩
  · cases h with
    | lst h1 h2 h3 => exact ⟨_, _, rfl, h1, h3⟩
  · exact ⟨_, _, rfl, h1, h2⟩
theorem RepW.tup {v : V} {ds : List PyData} (h : RepW A κ H v (.tuple ds)) : ∃ p xs, v = .ref p ∧ SqT κ.K H p xs ∧ Reps A κ H xs ds := by
  rcases h with h | ⟨p, rfl, ha, ho⟩
  · cases h with
    | tup h1 h2 => exact ⟨_, _, rfl, h1, h2⟩
  · exact ho.elim
theorem RepW.int {v : V} {i : Int} (h : RepW A κ H v (.int i)) : v = .int i := by
  rcases h with h | ⟨p, rfl, ha, ho⟩
  · cases h; rfl
  · exact ho.elim
theorem RepW.bl {v : V} {i : Bool} (h : RepW A κ H v (.bool i)) : v = .bl i := by
  rcases h with h | ⟨p, rfl, ha, ho⟩
  · cases h; rfl
  · exact ho.elim
theorem RepW.str {v : V} {i : Str} (h : RepW A κ H v (.str i)) : v = .str i := by
  rcases h with h | ⟨p, rfl, ha, ho⟩
  · cases h; rfl
  · exact ho.elim
theorem RepW.non {v : V} (h : RepW A κ H v .none) : v = .non := by
  rcases h with h | ⟨p, rfl, ha, ho⟩
  · cases h; rfl
  · exact ho.elim
/-- a new object is laid: what stood is as it was, and is not it -/
theorem same_new {H : Hp} {p : Addr} {o : HO} (n : H p = none) : Same H (upd H p o) := fun b x e => by
  rw [upd_ne (ne_of_none e n)]
  exact e
theorem not_own {p : Addr} (tr : ∀ a, A a ≠ none → ∃ o, H a = some o) (n : H p = none) : A p = none := by
  cases e : A p with
  | none => rfl
  | some k =>
    obtain ⟨o, z⟩ := tr p (by rw [e]; exact fun z => by cases z)
    rw [n] at z
    cases z
theorem Rep.new_lst {xs : List V} {ds : List PyData} {p : Addr} (n : H p = none) (tr : ∀ a, A a ≠ none → ∃ o, H a = some o) (r : Reps A κ H xs ds) : Rep A κ (upd H p (.lst xs)) (.ref p) (.list ds) :=
  .lst upd_same (not_own tr n) (r.same (same_new n))
theorem Rep.new_tup {xs : List V} {ds : List PyData} {p : Addr} (n : H p = none) (r : Reps A κ H xs ds) : Rep A κ (upd H p (.tup xs)) (.ref p) (.tuple ds) :=
  .tup (.of upd_same) (r.same (same_new n))
end

/-! ### the slots -/
inductive Sl where
  | no
  | fz (d : PyData)
  | ow (d : PyData)
  /-- a dict whose values are lists of its own -/
  | od (kvs : List (PyData × List PyData))
  /-- a dict with keys ints and texts that nobody changes -/
  | pd (kvs : List (Key × V))
/-- a dict with lists of its own, all owned by n -/
def OwnD (A : Ow) (n : Nat) (κ : Kx) (H : Hp) (p : Addr) (kvs : List (PyData × List PyData)) : Prop :=
  ∃ (xs : List (NestedKey × Addr × V)) (qs : List Addr), DicAt κ H p xs ∧ Reps A κ H (xs.map fun x => V.ref x.2.1) (kvs.map (·.1)) ∧ xs.map (·.1) = kvs.map (fun p => nk p.1) ∧
    xs.map (·.2.2) = qs.map V.ref ∧ qs.Nodup ∧ Paired (fun (q : Addr) (l : PyData × List PyData) => A q = some n ∧ ∃ vs, H q = some (.lst vs) ∧ Reps A κ H vs l.2) qs kvs ∧ ∀ p ∈ kvs, keyOk p.1 = true
def SlOk (A : Ow) (n : Nat) (κ : Kx) (H : Hp) : Sl → Option (Option V) → Prop
  | .no, _ => True
  | .fz d, o => ∃ v, o = some (some v) ∧ Rep A κ H v d
  | .ow d, o => ∃ p, o = some (some (.ref p)) ∧ A p = some n ∧ Own A κ H p d
  | .od kvs, o => ∃ p, o = some (some (.ref p)) ∧ A p = some n ∧ OwnD A n κ H p kvs
  | .pd kvs, o => ∃ p, o = some (some (.ref p)) ∧ A p = none ∧ H p = some (.dK kvs)
structure EV (A : Ow) (κ : Kx) (ρ : List Sl) (σ : L2.St) (H : Hp) : Prop where
  len : σ.length = ρ.length
  tr : ∀ a, A a ≠ none → ∃ o, H a = some o
  sl : ∀ i, SlOk A (i + 1) κ H (ρ.getD i .no) σ[i]?
theorem OwnD.mv {A A' : Ow} {κ : Kx} {H H' : Hp} {n : Nat} (m : Mv A A' H H') {p : Addr} {kvs : List (PyData × List PyData)} (hp : ∀ a o, A a = some n → H a = some o → H' a = some o ∧ A' a = some n) (hpp : ∀ o, H p = some o → H' p = some o) : OwnD A n κ H p kvs → OwnD A' n κ H' p kvs
  | ⟨xs, qs, ⟨ep, h1⟩, h2, h3, h4, h5, h6, h7⟩ => ⟨xs, qs, ⟨ep, hpp _ h1⟩, h2.mv m, h3, h4, h5, L2.Paired.mapP h6 fun q l ⟨a, vs, b, c⟩ => ⟨(hp q _ a b).2, vs, (hp q _ a b).1, c.mv m⟩, h7⟩
/-- a slot's own things stay, all that is nobody's stays -/
theorem SlOk.mv {A A' : Ow} {κ : Kx} {H H' : Hp} {n : Nat} (m : Mv A A' H H') (hp : ∀ a o, A a = some n → H a = some o → H' a = some o ∧ A' a = some n) (tr : ∀ a, A a ≠ none → ∃ o, H a = some o) : ∀ {x : Sl} {o : Option (Option V)}, SlOk A n κ H x o → SlOk A' n κ H' x o
  | .no, _, _ => trivial
  | .fz d, _, ⟨v, e, r⟩ => ⟨v, e, r.mv m⟩
  | .ow d, _, ⟨p, e, a, r⟩ => by
    obtain ⟨o, ho⟩ := tr p (by rw [a]; exact fun z => by cases z)
    exact ⟨p, e, (hp p o a ho).2, r.mv m fun o' h => (hp p o' a h).1⟩
  | .od kvs, _, ⟨p, e, a, r⟩ => by
    obtain ⟨o, ho⟩ := tr p (by rw [a]; exact fun z => by cases z)
    exact ⟨p, e, (hp p o a ho).2, r.mv m hp fun o' h => (hp p o' a h).1⟩
  | .pd kvs, _, ⟨p, e, a, r⟩ => ⟨p, e, (m.free p _ r a).2, (m.free p _ r a).1⟩
theorem EV.same {A : Ow} {κ : Kx} {ρ : List Sl} {σ : L2.St} {H H' : Hp} (h : EV A κ ρ σ H) (s : Same H H') : EV A κ ρ σ H' :=
  ⟨h.len, fun a x => let ⟨o, e⟩ := h.tr a x; ⟨o, s _ _ e⟩, fun i => (h.sl i).mv (.same s) (fun a o e h => ⟨s _ _ h, e⟩) h.tr⟩

/-! ### what is wanted -/
/-- an exception of the class that the name holds -/
def EQ (X : Cx) (E : XK) (c : Str) (H : Hp) : Prop := ∀ C, X.mg c = some (.ref C) → E (.ref C) none H
def PostR {α : Type} (X : Cx) (E : XK) (H : Hp) (r : Res α) (p : α → Prop) : Prop := match r with
  | .ok a => p a
  | .err c => ∀ H', Same H H' → EQ X E c H'
  | .stuck => False
section
variable {α β : Type} {X : Cx} {E : XK} {H H1 : Hp}
theorem PostR.bind {r : Res α} {k : α → Res β} {p : β → Prop} (h : PostR X E H (r >>= k) p) : PostR X E H r fun a => PostR X E H (k a) p := by
  cases r <;> exact h
theorem PostR.imp {r : Res α} {p q : α → Prop} (h : PostR X E H r p) (s : Same H H1) (k : ∀ a, p a → q a) : PostR X E H1 r q := by
  cases r with
  | ok a => exact k a h
  | err c => exact fun H' z => h H' (s.trans z)
  | stuck => exact h
theorem PostR.mono {r : Res α} {p q : α → Prop} (h : PostR X E H r p) (k : ∀ a, p a → q a) : PostR X E H r q := h.imp (Same.refl _) k
end
abbrev OkE (X : Cx) (A : Ow) (H : Hp) (Q : VK) (d : PyData) : Prop := ∀ v H', Same H H' → Rep A (kx X) H' v d → Q v H'
abbrev OkW (X : Cx) (A : Ow) (H : Hp) (Q : VK) (d : PyData) : Prop := ∀ v H', Same H H' → RepW A (kx X) H' v d → Q v H'
/-- a new list (or dict) that nobody else holds -/
abbrev OkO (X : Cx) (A : Ow) (H : Hp) (Q : VK) (ds : List PyData) : Prop := ∀ p H1 H', Same H H1 → H1 p = none → Same H1 H' → Own (ins A p 0) (kx X) H' p (.list ds) → Q (.ref p) H'
/-- what holds where some reading of it holds -/
def WE (X : Cx) (e : Expr) : TE := fun σ H Q => ∃ t, PE X e t ∧ t σ H Q
theorem we_ok {X : Cx} {e : Expr} : PE X e (WE X e) := ⟨fun pins s σ H Q I ⟨t, h, q⟩ => h.run pins s σ H Q I q⟩
def WT (X : Cx) (e : Expr) : TT := fun σ H Q => ∃ t, PT X e t ∧ t σ H Q
theorem wt_ok {X : Cx} {e : Expr} : PT X e (WT X e) := ⟨fun pins s σ H Q I ⟨t, h, q⟩ => h.run pins s σ H Q I q⟩
def WW (X : Cx) (e : Expr) : TT := fun σ H Q => ∃ t, PW X e t ∧ t σ H Q
theorem ww_ok {X : Cx} {e : Expr} : PW X e (WW X e) := ⟨fun wh pins s σ H Q I ⟨t, h, q⟩ => h.run wh pins s σ H Q I q⟩
def WA (X : Cx) (e : List Expr) : TA := fun σ H Q => ∃ t, PA X e t ∧ t σ H Q
theorem wa_ok {X : Cx} {e : List Expr} : PA X e (WA X e) := ⟨fun pos pins s σ H Q I ⟨t, h, q⟩ => h.run pos pins s σ H Q I q⟩
def GE (X : Cx) (E : XK) (e : Expr) (ρ : List Sl) (r : Res PyData) : Prop :=
  ∀ A σ H Q, EV A (kx X) ρ σ H → PostR X E H r (OkE X A H Q) → WE X e σ H Q
def GW (X : Cx) (E : XK) (e : Expr) (ρ : List Sl) (r : Res PyData) : Prop :=
  ∀ A σ H Q, EV A (kx X) ρ σ H → PostR X E H r (OkW X A H Q) → WE X e σ H Q
def GO (X : Cx) (E : XK) (e : Expr) (ρ : List Sl) (r : Res (List PyData)) : Prop :=
  ∀ A σ H Q, EV A (kx X) ρ σ H → PostR X E H r (OkO X A H Q) → WE X e σ H Q
/-- a test -/
def GT (X : Cx) (E : XK) (e : Expr) (ρ : List Sl) (r : Res Bool) : Prop :=
  ∀ A σ H Q, EV A (kx X) ρ σ H → PostR X E H r (fun b => ∀ H', Same H H' → Q b H') → WT X e σ H Q
def GTW (X : Cx) (E : XK) (e : Expr) (ρ : List Sl) (r : Res Bool) : Prop :=
  ∀ A σ H Q, EV A (kx X) ρ σ H → PostR X E H r (fun b => ∀ H', Same H H' → Q b H') → WW X e σ H Q
/-- arguments -/
def GA (X : Cx) (E : XK) (es : List Expr) (ρ : List Sl) (r : Res (List PyData)) : Prop :=
  ∀ A σ H Q, EV A (kx X) ρ σ H → PostR X E H r (fun ds => ∀ vs H', Same H H' → Reps A (kx X) H' vs ds → Q vs H') → WA X es σ H Q
section
variable {X : Cx} {E : XK} {e : Expr} {es : List Expr} {ρ : List Sl} {r : Res PyData} {rt : Res Bool} {rs : Res (List PyData)}
theorem GE.ex (h : GE X E e ρ r) : ∃ t, PE X e t ∧ ∀ A σ H Q, EV A (kx X) ρ σ H → PostR X E H r (OkE X A H Q) → t σ H Q := ⟨_, we_ok, h⟩
theorem GE.mk (h : ∃ t, PE X e t ∧ ∀ A σ H Q, EV A (kx X) ρ σ H → PostR X E H r (OkE X A H Q) → t σ H Q) : GE X E e ρ r := let ⟨t, p, h⟩ := h; fun A σ H Q ev q => ⟨t, p, h A σ H Q ev q⟩
theorem GW.ex (h : GW X E e ρ r) : ∃ t, PE X e t ∧ ∀ A σ H Q, EV A (kx X) ρ σ H → PostR X E H r (OkW X A H Q) → t σ H Q := ⟨_, we_ok, h⟩
theorem GW.mk (h : ∃ t, PE X e t ∧ ∀ A σ H Q, EV A (kx X) ρ σ H → PostR X E H r (OkW X A H Q) → t σ H Q) : GW X E e ρ r := let ⟨t, p, h⟩ := h; fun A σ H Q ev q => ⟨t, p, h A σ H Q ev q⟩
theorem GO.ex (h : GO X E e ρ rs) : ∃ t, PE X e t ∧ ∀ A σ H Q, EV A (kx X) ρ σ H → PostR X E H rs (OkO X A H Q) → t σ H Q := ⟨_, we_ok, h⟩
theorem GO.mk (h : ∃ t, PE X e t ∧ ∀ A σ H Q, EV A (kx X) ρ σ H → PostR X E H rs (OkO X A H Q) → t σ H Q) : GO X E e ρ rs := let ⟨t, p, h⟩ := h; fun A σ H Q ev q => ⟨t, p, h A σ H Q ev q⟩
theorem GT.ex (h : GT X E e ρ rt) : ∃ t, PT X e t ∧ ∀ A σ H Q, EV A (kx X) ρ σ H → PostR X E H rt (fun b => ∀ H', Same H H' → Q b H') → t σ H Q := ⟨_, wt_ok, h⟩
theorem GT.mk (h : ∃ t, PT X e t ∧ ∀ A σ H Q, EV A (kx X) ρ σ H → PostR X E H rt (fun b => ∀ H', Same H H' → Q b H') → t σ H Q) : GT X E e ρ rt := let ⟨t, p, h⟩ := h; fun A σ H Q ev q => ⟨t, p, h A σ H Q ev q⟩
theorem GTW.ex (h : GTW X E e ρ rt) : ∃ t, PW X e t ∧ ∀ A σ H Q, EV A (kx X) ρ σ H → PostR X E H rt (fun b => ∀ H', Same H H' → Q b H') → t σ H Q := ⟨_, ww_ok, h⟩
theorem GTW.mk (h : ∃ t, PW X e t ∧ ∀ A σ H Q, EV A (kx X) ρ σ H → PostR X E H rt (fun b => ∀ H', Same H H' → Q b H') → t σ H Q) : GTW X E e ρ rt := let ⟨t, p, h⟩ := h; fun A σ H Q ev q => ⟨t, p, h A σ H Q ev q⟩
theorem GA.ex (h : GA X E es ρ rs) : ∃ t, PA X es t ∧ ∀ A σ H Q, EV A (kx X) ρ σ H → PostR X E H rs (fun ds => ∀ vs H', Same H H' → Reps A (kx X) H' vs ds → Q vs H') → t σ H Q := ⟨_, wa_ok, h⟩
theorem GA.mk (h : ∃ t, PA X es t ∧ ∀ A σ H Q, EV A (kx X) ρ σ H → PostR X E H rs (fun ds => ∀ vs H', Same H H' → Reps A (kx X) H' vs ds → Q vs H') → t σ H Q) : GA X E es ρ rs := let ⟨t, p, h⟩ := h; fun A σ H Q ev q => ⟨t, p, h A σ H Q ev q⟩
end
/-- arguments that are looked at -/
inductive RepWs (A : Ow) (κ : Kx) (H : Hp) : List V → List PyData → Prop
  | nil : RepWs A κ H [] []
  | cons {v : V} {vs : List V} {d : PyData} {ds : List PyData} : RepW A κ H v d → RepWs A κ H vs ds → RepWs A κ H (v :: vs) (d :: ds)
theorem RepWs.same {A : Ow} {κ : Kx} {H H' : Hp} (s : Same H H') : ∀ {vs : List V} {ds : List PyData}, RepWs A κ H vs ds → RepWs A κ H' vs ds
  | _, _, .nil => .nil
  | _, _, .cons r t => .cons (r.same s) (RepWs.same s t)
theorem RepWs.length {A : Ow} {κ : Kx} {H : Hp} : ∀ {vs : List V} {ds : List PyData}, RepWs A κ H vs ds → vs.length = ds.length
  | _, _, .nil => rfl
  | _, _, .cons _ t => by rw [List.length_cons, List.length_cons, RepWs.length t]
def GAW (X : Cx) (E : XK) (es : List Expr) (ρ : List Sl) (r : Res (List PyData)) : Prop :=
  ∀ A σ H Q, EV A (kx X) ρ σ H → PostR X E H r (fun ds => ∀ vs H', Same H H' → RepWs A (kx X) H' vs ds → Q vs H') → WA X es σ H Q
section
variable {X : Cx} {E : XK} {es : List Expr} {ρ : List Sl} {rs : Res (List PyData)}
theorem GAW.ex (h : GAW X E es ρ rs) : ∃ t, PA X es t ∧ ∀ A σ H Q, EV A (kx X) ρ σ H → PostR X E H rs (fun ds => ∀ vs H', Same H H' → RepWs A (kx X) H' vs ds → Q vs H') → t σ H Q := ⟨_, wa_ok, h⟩
theorem GAW.mk (h : ∃ t, PA X es t ∧ ∀ A σ H Q, EV A (kx X) ρ σ H → PostR X E H rs (fun ds => ∀ vs H', Same H H' → RepWs A (kx X) H' vs ds → Q vs H') → t σ H Q) : GAW X E es ρ rs := let ⟨t, p, h⟩ := h; fun A σ H Q ev q => ⟨t, p, h A σ H Q ev q⟩
end

section
variable {X : Cx} {E : XK} {ρ : List Sl} {e a b c : Expr} {r ra rb rc : Res PyData} {pos : Pos}
theorem GE.w (h : GE X E e ρ r) : GW X E e ρ r := by
  obtain ⟨t, h1, h2⟩ := h.ex
  exact .mk ⟨t, h1, fun A σ H Q ev q => h2 A σ H Q ev (q.mono fun d k v H' s r => k v H' s (.inl r))⟩
theorem GO.ge {rs : Res (List PyData)} (h : GO X E e ρ rs) : GE X E e ρ (rs >>= fun ds => .ok (.list ds)) := by
  obtain ⟨t, h1, h2⟩ := h.ex
  refine .mk ⟨t, h1, fun A σ H Q ev q => h2 A σ H Q ev (q.bind.mono fun d k p H1 H' s1 n s2 o => k (.ref p) H' (s1.trans s2) ?_)⟩
  have np : A p = none := not_own (ev.same s1).tr n
  refine (o.mv (Mv.less fun a z => ?_) (fun _ e => e)).rep np
  by_cases e : a = p
  · rw [e]; exact np
  · rwa [ins_ne e] at z
theorem GO.w {rs : Res (List PyData)} (h : GO X E e ρ rs) : GW X E e ρ (rs >>= fun ds => .ok (.list ds)) := h.ge.w

/-! ### names, constants -/
theorem ge_var {i : Nat} {d : PyData} {x : Str} {p : Pos} (h : PE X (.Name x p) (tVar i)) (hd : ρ.getD i .no = .fz d := by rfl) : GE X E (.Name x p) ρ (.ok d) := by
  refine .mk ⟨_, h, fun A σ H Q ev q => ?_⟩
  have z := ev.sl i
  rw [hd] at z
  obtain ⟨v, e, r⟩ := z
  exact ⟨v, e, q v H (Same.refl _) r⟩
theorem gw_var {i : Nat} {d : PyData} {x : Str} {p : Pos} (h : PE X (.Name x p) (tVar i)) (hd : ρ.getD i .no = .ow d := by rfl) : GW X E (.Name x p) ρ (.ok d) := by
  refine .mk ⟨_, h, fun A σ H Q ev q => ?_⟩
  have z := ev.sl i
  rw [hd] at z
  obtain ⟨p, e, ha, r⟩ := z
  exact ⟨_, e, q _ H (Same.refl _) (.inr ⟨p, rfl, (by rw [ha]; exact fun z => by cases z), r⟩)⟩
theorem ge_C {v : V} {d : PyData} (h : PE X e (tC v)) (k : ∀ A H, Rep A (kx X) H v d) : GE X E e ρ (.ok d) :=
  .mk ⟨_, h, fun A σ H Q ev q => q v H (Same.refl _) (k A H)⟩
theorem ge_int {i : Int} {j : Nat} : GE X E (.Constant (.int i) j pos) ρ (.ok (.int i)) := ge_C pe_int fun _ _ => .int i
theorem ge_bl {i : Bool} {j : Nat} : GE X E (.Constant (.bool i) j pos) ρ (.ok (.bool i)) := ge_C pe_bl fun _ _ => .bl i
theorem ge_non {j : Nat} : GE X E (.Constant .none j pos) ρ (.ok .none) := ge_C pe_non fun _ _ => .non
theorem ge_str {x : Str} {j : Nat} : GE X E (.Constant (.str x) j pos) ρ (.ok (.str x)) := ge_C pe_str fun _ _ => .str x
end
end Dt

namespace Dt
open PySem PySem.Spec PyProof.Rows L2

abbrev Tr (A : Ow) (H : Hp) : Prop := ∀ a, A a ≠ none → ∃ o, H a = some o
theorem Tr.same {A : Ow} {H H' : Hp} (t : Tr A H) (s : Same H H') : Tr A H' := fun a x => let ⟨o, e⟩ := t a x; ⟨o, s _ _ e⟩
/-- an operation on two values is an operation on data -/
def Op2 (X : Cx) (f : Value → Value → Sem Value) (g : PyData → PyData → Res PyData) : Prop :=
  ∃ r : R2, OpR X f r ∧ ∀ (E : XK) (A : Ow) (H : Hp) (x y : V) (d e : PyData) (Q : VK), Tr A H → RepW A (kx X) H x d → RepW A (kx X) H y e → PostR X E H (g d e) (OkE X A H Q) → r x y H Q
def Op1 (X : Cx) (f : Value → Sem Value) (g : PyData → Res PyData) : Prop :=
  ∃ r, UnR X f r ∧ ∀ (E : XK) (A : Ow) (H : Hp) (x : V) (d : PyData) (Q : VK), Tr A H → RepW A (kx X) H x d → PostR X E H (g d) (OkE X A H Q) → r x H Q
/-- a call of a known value -/
def OpC (X : Cx) (f : Value) (g : List PyData → Res PyData) : Prop :=
  ∃ r, CallR X f r ∧ ∀ (E : XK) (A : Ow) (H : Hp) (xs : List V) (ds : List PyData) (Q : VK), Tr A H → RepWs A (kx X) H xs ds → PostR X E H (g ds) (OkE X A H Q) → r xs H Q
/-- .. that gives a new list -/
def OpCO (X : Cx) (f : Value) (g : List PyData → Res (List PyData)) : Prop :=
  ∃ r, CallR X f r ∧ ∀ (E : XK) (A : Ow) (H : Hp) (xs : List V) (ds : List PyData) (Q : VK), Tr A H → RepWs A (kx X) H xs ds → PostR X E H (g ds) (OkO X A H Q) → r xs H Q
section
variable {X : Cx} {E : XK} {ρ : List Sl} {e a b c : Expr} {es : List Expr} {r ra rb rc : Res PyData} {rs : Res (List PyData)} {pos : Pos} {f : Value → Value → Sem Value} {g : PyData → PyData → Res PyData}

theorem two (ha : GW X E a ρ ra) (hb : GW X E b ρ rb) {r : R2} (hr : ∀ (E : XK) (A : Ow) (H : Hp) (x y : V) (d e : PyData) (Q : VK), Tr A H → RepW A (kx X) H x d → RepW A (kx X) H y e → PostR X E H (g d e) (OkE X A H Q) → r x y H Q) :
    ∃ ta tb, PE X a ta ∧ PE X b tb ∧ ∀ A σ H Q, EV A (kx X) ρ σ H → PostR X E H (ra >>= fun d => rb >>= fun e => g d e) (OkE X A H Q) → tOp r ta tb σ H Q := by
  obtain ⟨ta, pa, ha⟩ := ha.ex
  obtain ⟨tb, pb, hb⟩ := hb.ex
  refine ⟨ta, tb, pa, pb, fun A σ H Q ev q => ?_⟩
  refine ha A σ H _ ev (q.bind.mono fun d qd v H1 s1 rv => ?_)
  refine hb A σ H1 _ (ev.same s1) (qd.bind.imp s1 fun e qe u H2 s2 ru => ?_)
  exact hr E A H2 v u d e Q (ev.same (s1.trans s2)).tr (rv.same s2) ru (qe.imp (s1.trans s2) fun f k w H3 s3 rw => k w H3 (s1.trans (s2.trans s3)) rw)
theorem ge_bin {op : Operator} (o : Op2 X (binaryOp op) g) (ha : GW X E a ρ ra) (hb : GW X E b ρ rb) : GE X E (.BinOp a op b pos) ρ (ra >>= fun d => rb >>= fun e => g d e) := by
  obtain ⟨r, ho, hr⟩ := o
  obtain ⟨ta, tb, pa, pb, h⟩ := two ha hb hr
  exact .mk ⟨_, pe_op ho pa pb, h⟩
theorem ge_cmp {op : CmpOp} (o : Op2 X (compareOp op) g) (ha : GW X E a ρ ra) (hb : GW X E b ρ rb) (hm : behindInMarks op b = false := by first | exact nomark _ | with_unfolding_all rfl) :
    GE X E (.Compare a [op] [b] pos) ρ (ra >>= fun d => rb >>= fun e => g d e) := by
  obtain ⟨r, ho, hr⟩ := o
  obtain ⟨ta, tb, pa, pb, h⟩ := two ha hb hr
  exact .mk ⟨_, pe_cmpR ho pa pb hm, h⟩
theorem ge_un {op : UnaryOp} {g : PyData → Res PyData} (o : Op1 X (unaryOp op) g) (ha : GW X E a ρ ra) : GE X E (.UnaryOp op a pos) ρ (ra >>= g) := by
  obtain ⟨r, ho, hr⟩ := o
  obtain ⟨ta, pa, ha⟩ := ha.ex
  refine .mk ⟨_, pe_un ho pa, fun A σ H Q ev q => ?_⟩
  refine ha A σ H _ ev (q.bind.mono fun d qd v H1 s1 rv => ?_)
  exact hr E A H1 v d Q (ev.same s1).tr rv (qd.imp s1 fun f k w H3 s3 rw => k w H3 (s1.trans s3) rw)

/-! ### arithmetic -/
def addD : PyData → PyData → Res PyData
  | .int i, .int j => .ok (.int (i + j))
  | .str x, .str y => if x.length + y.length ≤ sizeLine then .ok (.str (x ++ y)) else .stuck
  | .tuple xs, .tuple ys => if xs.length + ys.length ≤ sizeLine then .ok (.tuple (xs ++ ys)) else .stuck
  | .list xs, .list ys => if xs.length + ys.length ≤ sizeLine then .ok (.list (xs ++ ys)) else .stuck
  | _, _ => .stuck
def subD : PyData → PyData → Res PyData
  | .int i, .int j => .ok (.int (i - j))
  | _, _ => .stuck
def smallI (i : Int) : Bool := decide (-(2 ^ 64) < i) && decide (i < 2 ^ 64)
def mulD : PyData → PyData → Res PyData
  | .int i, .int j => if (smallI i || smallI j) = true then .ok (.int (i * j)) else .stuck
  | .list xs, .int k => if -1000 ≤ k ∧ k ≤ 1000 ∧ xs.length ≤ 1000 then .ok (.list (List.replicate k.toNat xs).flatten) else .stuck
  | .tuple xs, .int k => if xs ≠ [] ∧ 2 ≤ k ∧ k ≤ 1000 ∧ xs.length ≤ 1000 then .ok (.tuple (List.replicate k.toNat xs).flatten) else .stuck
  | _, _ => .stuck
def modD : PyData → PyData → Res PyData
  | .int i, .int j => if 0 < j then .ok (.int (i % j)) else .stuck
  | _, _ => .stuck
def fdivD : PyData → PyData → Res PyData
  | .int i, .int j => if 0 < j ∧ j < 1073741824 then .ok (.int (i / j)) else .stuck
  | _, _ => .stuck
def negD : PyData → Res PyData
  | .int i => .ok (.int (-i))
  | _ => .stuck
theorem add_ok : Op2 X (binaryOp .Add) addD := by
  refine ⟨_, ((op_add.or op_add_str).or op_catA).or op_cat, fun E A H x y d e Q tr rx ry q => ?_⟩
  unfold addD at q
  split at q
  · obtain rfl := rx.int
    obtain rfl := ry.int
    exact .inl (.inl (.inl ⟨_, _, rfl, rfl, q _ H (Same.refl _) (.int _)⟩))
  · obtain rfl := rx.str
    obtain rfl := ry.str
    split at q
    · exact .inl (.inl (.inr ⟨_, _, rfl, rfl, by assumption, q _ H (Same.refl _) (.str _)⟩))
    · exact q.elim
  · obtain ⟨p, vs, rfl, h1, h2⟩ := rx.tup
    obtain ⟨p', ws, rfl, h3, h4⟩ := ry.tup
    split at q
    · rename_i hz
      refine .inl (.inr ⟨p, p', vs, ws, rfl, rfl, h1, h3, by rw [h2.length, h4.length]; exact hz, fun e => ?_, fun n e => ?_, fun n n' p n => ?_⟩)
      · subst e
        have e2 := h2.length
        cases h2
        exact q _ H (Same.refl _) (.tup h3 h4)
      · subst e
        cases h4
        exact q _ H (Same.refl _) (.tup h1 (by rw [List.append_nil]; exact h2))
      · exact q _ _ (same_new n) (Rep.new_tup n (h2.append h4))
    · exact q.elim
  · obtain ⟨p, vs, rfl, h1, h2⟩ := rx.lst
    obtain ⟨p', ws, rfl, h3, h4⟩ := ry.lst
    split at q
    · rename_i hz
      refine .inr ⟨p, p', vs, ws, rfl, rfl, h1, h3, by rw [h2.length, h4.length]; exact hz, fun p n => ?_⟩
      exact q _ _ (same_new n) (Rep.new_lst n tr (h2.append h4))
    · exact q.elim
  · exact q.elim
theorem sub_ok : Op2 X (binaryOp .Sub) subD := by
  refine ⟨_, op_sub, fun E A H x y d e Q tr rx ry q => ?_⟩
  unfold subD at q
  split at q
  · obtain rfl := rx.int
    obtain rfl := ry.int
    exact ⟨_, _, rfl, rfl, q _ H (Same.refl _) (.int _)⟩
  · exact q.elim
theorem mod_ok : Op2 X (binaryOp .Mod) modD := by
  refine ⟨_, op_mod, fun E A H x y d e Q tr rx ry q => ?_⟩
  unfold modD at q
  split at q
  · obtain rfl := rx.int
    obtain rfl := ry.int
    split at q
    · exact ⟨_, _, rfl, rfl, by assumption, q _ H (Same.refl _) (.int _)⟩
    · exact q.elim
  · exact q.elim
theorem fdiv_ok : Op2 X (binaryOp .FloorDiv) fdivD := by
  refine ⟨_, op_fdiv, fun E A H x y d e Q tr rx ry q => ?_⟩
  unfold fdivD at q
  split at q
  · obtain rfl := rx.int
    obtain rfl := ry.int
    split at q
    · exact ⟨_, _, rfl, rfl, by assumption, q _ H (Same.refl _) (.int _)⟩
    · exact q.elim
  · exact q.elim
theorem neg_ok : Op1 X (unaryOp .USub) negD := by
  refine ⟨_, un_neg, fun E A H x d Q tr rx q => ?_⟩
  unfold negD at q
  split at q
  · obtain rfl := rx.int
    exact ⟨_, rfl, q _ H (Same.refl _) (.int _)⟩
  · exact q.elim
theorem small_cmul {i j : Int} (h : (smallI i || smallI j) = true) : CMul i j := by
  unfold smallI at h
  simp only [Bool.or_eq_true, Bool.and_eq_true, decide_eq_true_eq] at h
  exact h
theorem mul_ok : Op2 X (binaryOp .Mult) mulD := by
  refine ⟨_, (op_mul.or op_rep).or op_repT, fun E A H x y d e Q tr rx ry q => ?_⟩
  unfold mulD at q
  split at q
  · obtain rfl := rx.int
    obtain rfl := ry.int
    split at q
    · exact .inl (.inl ⟨_, _, rfl, rfl, small_cmul (by assumption), q _ H (Same.refl _) (.int _)⟩)
    · exact q.elim
  · obtain ⟨p, vs, rfl, h1, h2⟩ := rx.lst
    obtain rfl := ry.int
    split at q
    · rename_i k hz
      obtain ⟨z1, z2, z3⟩ := hz
      refine .inl (.inr ⟨p, _, vs, rfl, rfl, h1, by omega, by omega, ?_, fun p n => ?_⟩)
      · rw [h2.length, sizeLine_eq]
        exact Nat.le_trans (Nat.mul_le_mul z3 (show Int.toNat _ ≤ 1000 by omega)) (by decide)
      · exact q _ _ (same_new n) (Rep.new_lst n tr (h2.rept _))
    · exact q.elim
  · obtain ⟨p, vs, rfl, h1, h2⟩ := rx.tup
    obtain rfl := ry.int
    split at q
    · rename_i k hz
      obtain ⟨z0, z1, z2, z3⟩ := hz
      refine .inr ⟨p, _, vs, rfl, rfl, h1, fun e => ?_, z1, z2, by rw [h2.length]; exact z3, fun p n => ?_⟩
      · subst e
        cases h2
        exact z0 rfl
      · exact q _ _ (same_new n) (Rep.new_tup n (h2.rept _))
    · exact q.elim
  · exact q.elim

/-! ### comparisons -/
def shp (d : PyData) : Bool := SeqAt.shaped d
theorem shp_lay {d : PyData} (h : shp d = true) : d.canLay0 = true := SeqAt.canLay_of_shaped h
def eqD (d e : PyData) : Res PyData := if (shp d && shp e) = true then .ok (.bool (PyData.eqv d e)) else .stuck
def neD (d e : PyData) : Res PyData := if (shp d && shp e) = true then .ok (.bool (!PyData.eqv d e)) else .stuck
def ordD (p : Int → Int → Bool) (d e : PyData) : Res PyData := match d, e with
  | .int i, .int j => .ok (.bool (p i j))
  | _, _ => .stuck
abbrev leD := ordD fun i j => decide (i ≤ j)
abbrev gtD := ordD fun i j => decide (j < i)
abbrev geD := ordD fun i j => decide (j ≤ i)
/-- ints, the others 0 -/
def intOf : PyData → Option Int
  | .int i => some i
  | _ => none
def intsOf : List PyData → Option (List Int)
  | [] => some []
  | .int i :: r => (intsOf r).map (i :: ·)
  | _ :: _ => none
def ltD (d e : PyData) : Res PyData := match d, e with
  | .int i, .int j => .ok (.bool (decide (i < j)))
  | .tuple xs, .tuple ys => match intsOf xs, intsOf ys with
    | some ns, some ms => .ok (.bool (HT.lexLt ns ms))
    | _, _ => .stuck
  | _, _ => .stuck
def isND (d e : PyData) : Res PyData := match d, e with
  | .none, .none => .ok (.bool true)
  | _, .none => .ok (.bool false)
  | _, _ => .stuck
def notND (d e : PyData) : Res PyData := match d, e with
  | .none, .none => .ok (.bool false)
  | _, .none => .ok (.bool true)
  | _, _ => .stuck
theorem eq_ok (hu : X.A.units + 64 < cLine) : Op2 X (compareOp .Eq) eqD := by
  refine ⟨_, op_eqD hu, fun E A H x y d e Q tr rx ry q => ?_⟩
  unfold eqD at q
  split at q
  · rename_i h
    rw [Bool.and_eq_true] at h
    exact ⟨d, e, rx.dp (shp_lay h.1), ry.dp (shp_lay h.2), h.1, h.2, q _ H (Same.refl _) (.bl _)⟩
  · exact q.elim
theorem ne_ok (hu : X.A.units + 64 < cLine) : Op2 X (compareOp .NotEq) neD := by
  refine ⟨_, op_neD hu, fun E A H x y d e Q tr rx ry q => ?_⟩
  unfold neD at q
  split at q
  · rename_i h
    rw [Bool.and_eq_true] at h
    exact ⟨d, e, rx.dp (shp_lay h.1), ry.dp (shp_lay h.2), h.1, h.2, q _ H (Same.refl _) (.bl _)⟩
  · exact q.elim
theorem ord_ok {op : CmpOp} {p : Int → Int → Bool} (h : OpR X (compareOp op) (rI0 fun i j => .bl (p i j))) : Op2 X (compareOp op) (ordD p) := by
  refine ⟨_, h, fun E A H x y d e Q tr rx ry q => ?_⟩
  unfold ordD at q
  split at q
  · obtain rfl := rx.int
    obtain rfl := ry.int
    exact ⟨_, _, rfl, rfl, q _ H (Same.refl _) (.bl _)⟩
  · exact q.elim
theorem le_ok : Op2 X (compareOp .LtE) leD := ord_ok op_le
theorem gt_ok : Op2 X (compareOp .Gt) gtD := ord_ok op_gt
theorem ge_ok : Op2 X (compareOp .GtE) geD := ord_ok op_ge
theorem ints_of {A : Ow} {κ : Kx} {H : Hp} : ∀ {vs : List V} {ds : List PyData} {ns : List Int}, Reps A κ H vs ds → intsOf ds = some ns → vs = ns.map V.int
  | _, _, _, .nil, e => by cases e; rfl
  | _, _, ns, .cons (d := d) r t, e => by
    cases r with
    | int i =>
      unfold intsOf at e
      cases h : intsOf _ with
      | none => rw [h] at e; cases e
      | some ms =>
        rw [h] at e
        cases e
        rw [ints_of t h]
        rfl
    | _ => cases e
theorem lt_ok (hu : X.A.units < cLine) : Op2 X (compareOp .Lt) ltD := by
  refine ⟨_, op_lt.or (op_ltT hu), fun E A H x y d e Q tr rx ry q => ?_⟩
  unfold ltD at q
  split at q
  · obtain rfl := rx.int
    obtain rfl := ry.int
    exact .inl ⟨_, _, rfl, rfl, q _ H (Same.refl _) (.bl _)⟩
  · obtain ⟨p, vs, rfl, h1, h2⟩ := rx.tup
    obtain ⟨p', ws, rfl, h3, h4⟩ := ry.tup
    split at q
    · rename_i h5 h6
      have e1 := ints_of h2 h5
      have e2 := ints_of h4 h6
      subst e1 e2
      exact .inr ⟨p, p', _, _, rfl, rfl, h1, h3, q _ H (Same.refl _) (.bl _)⟩
    · exact q.elim
  · exact q.elim
theorem RepW.non_iff {A : Ow} {κ : Kx} {H : Hp} {v : V} {d : PyData} (h : RepW A κ H v d) : decide (v = .non) = (match d with | .none => true | _ => false) := by
  rcases h with h | ⟨p, rfl, ha, ho⟩
  · cases h <;> rfl
  · cases d <;> first | exact ho.elim | rfl
theorem isN_ok : Op2 X (compareOp .Is) isND := by
  refine ⟨_, op_isN, fun E A H x y d e Q tr rx ry q => ?_⟩
  cases e with
  | none =>
    refine ⟨ry.non, ?_⟩
    rw [rx.non_iff]
    cases d <;> exact q _ H (Same.refl _) (.bl _)
  | _ => cases d <;> exact q.elim
theorem notN_ok : Op2 X (compareOp .IsNot) notND := by
  refine ⟨_, op_notN, fun E A H x y d e Q tr rx ry q => ?_⟩
  cases e with
  | none =>
    refine ⟨ry.non, ?_⟩
    rw [rx.non_iff]
    cases d <;> exact q _ H (Same.refl _) (.bl _)
  | _ => cases d <;> exact q.elim

/-! ### in -/
theorem op_inT (hu : X.A.units + 65 < cLine) : OpR X (compareOp .In) (fun x y H Q => ∃ d ds, Dp X.K H x d ∧ Dp X.K H y (.tuple ds) ∧ SeqAt.shaped d = true ∧ SeqAt.shaped (.tuple ds) = true ∧ Q (.bl (ds.any fun z => PyData.eqv z d)) H) := by
  intro pins s σ H x y v u Q I rx ry h
  obtain ⟨d, ds, hd, he, sd, se, q⟩ := h
  obtain ⟨as, r1⟩ := Dp.reads I d x v hd rx
  obtain ⟨bs, r2⟩ := Dp.reads I (.tuple ds) y u he ry
  exact SeqAt.in_tuple_reads r2 r1 (SeqAt.canLay_of_shaped se) (SeqAt.canLay_of_shaped sd) (room_in_shaped sd hu) ⟨.bl _, H, I, rfl, q⟩
theorem op_notInT (hu : X.A.units + 65 < cLine) : OpR X (compareOp .NotIn) (fun x y H Q => ∃ d ds, Dp X.K H x d ∧ Dp X.K H y (.tuple ds) ∧ SeqAt.shaped d = true ∧ SeqAt.shaped (.tuple ds) = true ∧ Q (.bl (!ds.any fun z => PyData.eqv z d)) H) := by
  intro pins s σ H x y v u Q I rx ry h
  obtain ⟨d, ds, hd, he, sd, se, q⟩ := h
  obtain ⟨as, r1⟩ := Dp.reads I d x v hd rx
  obtain ⟨bs, r2⟩ := Dp.reads I (.tuple ds) y u he ry
  exact SeqAt.notIn_tuple_reads r2 r1 (SeqAt.canLay_of_shaped se) (SeqAt.canLay_of_shaped sd) (room_in_shaped sd hu) ⟨.bl _, H, I, rfl, q⟩
def inD (d e : PyData) : Res PyData := match e with
  | .list ds => if (shp d && shp (.list ds)) = true then .ok (.bool (ds.any fun z => PyData.eqv z d)) else .stuck
  | .tuple ds => if (shp d && shp (.tuple ds)) = true then .ok (.bool (ds.any fun z => PyData.eqv z d)) else .stuck
  | .str y => match d with
    | .str x => .ok (.bool (!(Builtin.Str.occurrences y x 0 y.length 1).isEmpty))
    | _ => .stuck
  | _ => .stuck
def notInD (d e : PyData) : Res PyData := match e with
  | .list ds => if (shp d && shp (.list ds)) = true then .ok (.bool (!ds.any fun z => PyData.eqv z d)) else .stuck
  | .tuple ds => if (shp d && shp (.tuple ds)) = true then .ok (.bool (!ds.any fun z => PyData.eqv z d)) else .stuck
  | .str y => match d with
    | .str x => .ok (.bool (!(!(Builtin.Str.occurrences y x 0 y.length 1).isEmpty)))
    | _ => .stuck
  | _ => .stuck
theorem in_ok (hu : X.A.units + 65 < cLine) : Op2 X (compareOp .In) inD := by
  refine ⟨_, ((op_inD hu).or (op_inT hu)).or op_in_str, fun E A H x y d e Q tr rx ry q => ?_⟩
  unfold inD at q
  split at q
  · split at q
    · rename_i h
      rw [Bool.and_eq_true] at h
      exact .inl (.inl ⟨d, _, rx.dp (shp_lay h.1), ry.dp (shp_lay h.2), h.1, h.2, q _ H (Same.refl _) (.bl _)⟩)
    · exact q.elim
  · split at q
    · rename_i h
      rw [Bool.and_eq_true] at h
      exact .inl (.inr ⟨d, _, rx.dp (shp_lay h.1), ry.dp (shp_lay h.2), h.1, h.2, q _ H (Same.refl _) (.bl _)⟩)
    · exact q.elim
  · obtain rfl := ry.str
    split at q
    · obtain rfl := rx.str
      exact .inr ⟨_, _, rfl, rfl, q _ H (Same.refl _) (.bl _)⟩
    · exact q.elim
  · exact q.elim
theorem notIn_ok (hu : X.A.units + 65 < cLine) : Op2 X (compareOp .NotIn) notInD := by
  refine ⟨_, ((op_notInD hu).or (op_notInT hu)).or op_notin_str, fun E A H x y d e Q tr rx ry q => ?_⟩
  unfold notInD at q
  split at q
  · split at q
    · rename_i h
      rw [Bool.and_eq_true] at h
      exact .inl (.inl ⟨d, _, rx.dp (shp_lay h.1), ry.dp (shp_lay h.2), h.1, h.2, q _ H (Same.refl _) (.bl _)⟩)
    · exact q.elim
  · split at q
    · rename_i h
      rw [Bool.and_eq_true] at h
      exact .inl (.inr ⟨d, _, rx.dp (shp_lay h.1), ry.dp (shp_lay h.2), h.1, h.2, q _ H (Same.refl _) (.bl _)⟩)
    · exact q.elim
  · obtain rfl := ry.str
    split at q
    · obtain rfl := rx.str
      exact .inr ⟨_, _, rfl, rfl, q _ H (Same.refl _) (.bl _)⟩
    · exact q.elim
  · exact q.elim
end
end Dt

namespace Dt
open PySem PySem.Spec PyProof.Rows L2
section
variable {X : Cx} {E : XK} {ρ : List Sl} {e a b c : Expr} {es : List Expr} {r ra rb rc : Res PyData} {rt ru : Res Bool} {rs : Res (List PyData)} {pos : Pos}

/-! ### tests, and, or, not -/
theorem _root_.Dt.Reps.isEmpty {A : Ow} {κ : Kx} {H : Hp} {vs : List V} {ds : List PyData} (h : Reps A κ H vs ds) : vs.isEmpty = ds.isEmpty := by
  cases h <;> rfl
def boolD : PyData → Res Bool
  | .bool b => .ok b
  | _ => .stuck
/-- truth -/
def truD : PyData → Res Bool
  | .bool b => .ok b
  | .none => .ok false
  | .int i => .ok (i != 0)
  | .list xs => .ok (!xs.isEmpty)
  | .tuple xs => .ok (!xs.isEmpty)
  | _ => .stuck
theorem gt_val (h : GW X E e ρ r) (he : ∀ whole, isTrue e X.env whole = (do let v ← whole; standAt e.pos; holding [v] (truthy v)) := by intro _; rfl) : GT X E e ρ (r >>= truD) := by
  obtain ⟨t, pa, ha⟩ := h.ex
  refine .mk ⟨_, pt_truth pa he, fun A σ H Q ev q => ?_⟩
  refine ha A σ H _ ev (q.bind.mono fun d qd v H1 s1 rv => ?_)
  unfold truD at qd
  split at qd
  · obtain rfl := rv.bl
    exact ⟨_, rfl, qd H1 s1⟩
  · obtain rfl := rv.non
    exact ⟨_, rfl, qd H1 s1⟩
  · obtain rfl := rv.int
    exact ⟨_, rfl, qd H1 s1⟩
  · obtain ⟨p, vs, rfl, h1, h2⟩ := rv.lst
    refine ⟨_, .inl ⟨vs, .of h1, rfl⟩, ?_⟩
    rw [h2.isEmpty]
    exact qd H1 s1
  · obtain ⟨p, vs, rfl, h1, h2⟩ := rv.tup
    refine ⟨_, .inr (.inl ⟨vs, h1, rfl⟩), ?_⟩
    rw [h2.isEmpty]
    exact qd H1 s1
  · exact qd.elim
theorem gt_cmp {op : CmpOp} {g : PyData → PyData → Res PyData} (o : Op2 X (compareOp op) g) (ha : GW X E a ρ ra) (hb : GW X E b ρ rb) (hm : behindInMarks op b = false := by first | exact nomark _ | with_unfolding_all rfl) :
    GT X E (.Compare a [op] [b] pos) ρ ((ra >>= fun d => rb >>= fun e => g d e) >>= boolD) := by
  obtain ⟨r, ho, hr⟩ := o
  obtain ⟨ta, pa, ha⟩ := ha.ex
  obtain ⟨tb, pb, hb⟩ := hb.ex
  refine .mk ⟨_, pt_cmpR ho pa pb hm, fun A σ H Q ev q => ?_⟩
  have q' := q.bind
  refine ha A σ H _ ev (q'.bind.mono fun d qd v H1 s1 rv => ?_)
  refine hb A σ H1 _ (ev.same s1) (qd.bind.imp s1 fun e qe u H2 s2 ru => ?_)
  refine hr E A H2 v u d e _ (ev.same (s1.trans s2)).tr (rv.same s2) ru (qe.imp (s1.trans s2) fun f k w H3 s3 rw => ?_)
  unfold boolD at k
  split at k
  · cases rw
    exact ⟨_, rfl, k H3 (s1.trans (s2.trans s3))⟩
  · exact k.elim
theorem gt_not (h : GT X E e ρ rt) : GT X E (.UnaryOp .Not e pos) ρ (rt >>= fun b => .ok (!b)) := by
  obtain ⟨t, pa, ha⟩ := h.ex
  refine .mk ⟨_, pt_not pa, fun A σ H Q ev q => ?_⟩
  exact ha A σ H _ ev (q.bind.mono fun d qd H1 s1 => qd H1 s1)
theorem gt_w (h : GTW X E e ρ rt) : GT X E e ρ rt := by
  obtain ⟨t, pa, ha⟩ := h.ex
  exact .mk ⟨_, pa.pt, ha⟩
theorem gtw_and1 (h : GT X E a ρ rt) : GTW X E (.BoolOp .And [a] pos) ρ rt := by
  obtain ⟨t, pa, ha⟩ := h.ex
  exact .mk ⟨_, pw_and1 pa, ha⟩
theorem gtw_or1 (h : GT X E a ρ rt) : GTW X E (.BoolOp .Or [a] pos) ρ rt := by
  obtain ⟨t, pa, ha⟩ := h.ex
  exact .mk ⟨_, pw_or1 pa, ha⟩
/-- the second is not looked at where the first decides -/
def andR (r u : Res Bool) : Res Bool := r >>= fun c => if c = true then u else .ok false
def orR (r u : Res Bool) : Res Bool := r >>= fun c => if c = true then .ok true else u
theorem gtw_and {rest : List Expr} (h : GT X E a ρ rt) (k : GTW X E (.BoolOp .And (b :: rest) pos) ρ ru) : GTW X E (.BoolOp .And (a :: b :: rest) pos) ρ (andR rt ru) := by
  obtain ⟨t, pa, ha⟩ := h.ex
  obtain ⟨u, pb, hb⟩ := k.ex
  refine .mk ⟨_, pw_and pa pb, fun A σ H Q ev q => ?_⟩
  refine ha A σ H _ ev (q.bind.mono fun d qd H1 s1 => ?_)
  cases d with
  | true => exact iteT (hb A σ H1 Q (ev.same s1) (PostR.imp qd s1 fun b k H2 s2 => k H2 (s1.trans s2)))
  | false => exact iteF (qd H1 s1)
theorem gtw_or {rest : List Expr} (h : GT X E a ρ rt) (k : GTW X E (.BoolOp .Or (b :: rest) pos) ρ ru) : GTW X E (.BoolOp .Or (a :: b :: rest) pos) ρ (orR rt ru) := by
  obtain ⟨t, pa, ha⟩ := h.ex
  obtain ⟨u, pb, hb⟩ := k.ex
  refine .mk ⟨_, pw_or pa pb, fun A σ H Q ev q => ?_⟩
  refine ha A σ H _ ev (q.bind.mono fun d qd H1 s1 => ?_)
  cases d with
  | true => exact iteT (qd H1 s1)
  | false => exact iteF (hb A σ H1 Q (ev.same s1) (PostR.imp qd s1 fun b k H2 s2 => k H2 (s1.trans s2)))
/-! as values (of bools) -/
def andV (r u : Res PyData) : Res PyData := r >>= fun d => boolD d >>= fun c => if c = true then u else .ok (.bool false)
def orV (r u : Res PyData) : Res PyData := r >>= fun d => boolD d >>= fun c => if c = true then .ok (.bool true) else u
def notV (r : Res PyData) : Res PyData := r >>= fun d => boolD d >>= fun c => .ok (.bool (!c))
theorem bool_of {A : Ow} {H : Hp} {d : PyData} {c : Bool} {v : V} (h : Rep A (kx X) H v d) (e : boolD d = .ok c) : v = .bl c := by
  unfold boolD at e
  split at e
  · cases e; cases h; rfl
  · cases e
theorem ge_one {op} (h : GE X E a ρ r) : GE X E (.BoolOp op [a] pos) ρ r := by
  obtain ⟨t, pa, ha⟩ := h.ex
  exact .mk ⟨_, pe_one pa, ha⟩
theorem ge_and {rest : List Expr} (h : GE X E a ρ ra) (k : GE X E (.BoolOp .And (b :: rest) pos) ρ rb) : GE X E (.BoolOp .And (a :: b :: rest) pos) ρ (andV ra rb) := by
  obtain ⟨t, pa, ha⟩ := h.ex
  obtain ⟨u, pb, hb⟩ := k.ex
  refine .mk ⟨_, pe_and pa pb, fun A σ H Q ev q => ?_⟩
  refine ha A σ H _ ev (q.bind.mono fun d qd v H1 s1 rv => ?_)
  cases e : boolD d with
  | ok c =>
    rw [e] at qd
    refine ⟨c, bool_of rv e, ?_⟩
    cases c with
    | true => exact iteT (hb A σ H1 Q (ev.same s1) (PostR.imp qd s1 fun b k v H2 s2 r => k v H2 (s1.trans s2) r))
    | false => exact iteF (qd _ H1 s1 (.bl _))
  | err c => unfold boolD at e; split at e <;> cases e
  | stuck => rw [e] at qd; exact qd.elim
theorem ge_or {rest : List Expr} (h : GE X E a ρ ra) (k : GE X E (.BoolOp .Or (b :: rest) pos) ρ rb) : GE X E (.BoolOp .Or (a :: b :: rest) pos) ρ (orV ra rb) := by
  obtain ⟨t, pa, ha⟩ := h.ex
  obtain ⟨u, pb, hb⟩ := k.ex
  refine .mk ⟨_, pe_or pa pb, fun A σ H Q ev q => ?_⟩
  refine ha A σ H _ ev (q.bind.mono fun d qd v H1 s1 rv => ?_)
  cases e : boolD d with
  | ok c =>
    rw [e] at qd
    refine ⟨c, bool_of rv e, ?_⟩
    cases c with
    | true => exact iteT (qd _ H1 s1 (.bl _))
    | false => exact iteF (hb A σ H1 Q (ev.same s1) (PostR.imp qd s1 fun b k v H2 s2 r => k v H2 (s1.trans s2) r))
  | err c => unfold boolD at e; split at e <;> cases e
  | stuck => rw [e] at qd; exact qd.elim
theorem ge_not (h : GE X E a ρ ra) : GE X E (.UnaryOp .Not a pos) ρ (notV ra) := by
  obtain ⟨t, pa, ha⟩ := h.ex
  refine .mk ⟨_, pe_not pa, fun A σ H Q ev q => ?_⟩
  refine ha A σ H _ ev (q.bind.mono fun d qd v H1 s1 rv => ?_)
  cases e : boolD d with
  | ok c =>
    rw [e] at qd
    exact ⟨c, bool_of rv e, qd _ H1 s1 (.bl _)⟩
  | err c => unfold boolD at e; split at e <;> cases e
  | stuck => rw [e] at qd; exact qd.elim
theorem ge_if (hc : GT X E c ρ rt) (ha : GE X E a ρ ra) (hb : GE X E b ρ rb) : GE X E (.IfExp c a b pos) ρ (rt >>= fun c => if c = true then ra else rb) := by
  obtain ⟨t, pt, ht⟩ := hc.ex
  obtain ⟨ta, pa, ha⟩ := ha.ex
  obtain ⟨tb, pb, hb⟩ := hb.ex
  refine .mk ⟨_, pe_ifExp pt pa pb, fun A σ H Q ev q => ?_⟩
  refine ht A σ H _ ev (q.bind.mono fun d qd H1 s1 => ?_)
  cases d with
  | true => exact iteT (ha A σ H1 Q (ev.same s1) (PostR.imp qd s1 fun b k v H2 s2 r => k v H2 (s1.trans s2) r))
  | false => exact iteF (hb A σ H1 Q (ev.same s1) (PostR.imp qd s1 fun b k v H2 s2 r => k v H2 (s1.trans s2) r))
/-! a chain of two comparisons -/
def chainV (ra rb rc : Res PyData) (g g' : PyData → PyData → Res PyData) : Res PyData := ra >>= fun d => rb >>= fun e => g d e >>= fun z => boolD z >>= fun k => if k = true then rc >>= fun f => g' e f else .ok (.bool false)
theorem ge_chain {op op' : CmpOp} {g g' : PyData → PyData → Res PyData} (o : Op2 X (compareOp op) g) (o' : Op2 X (compareOp op') g') (ha : GW X E a ρ ra) (hb : GW X E b ρ rb) (hc : GW X E c ρ rc)
    (hm : lastMarks [op, op'] [b, c] = false := by with_unfolding_all rfl) : GE X E (.Compare a [op, op'] [b, c] pos) ρ (chainV ra rb rc g g') := by
  obtain ⟨r, ho, hr⟩ := o
  obtain ⟨r', ho', hr'⟩ := o'
  obtain ⟨ta, pa, ha⟩ := ha.ex
  obtain ⟨tb, pb, hb⟩ := hb.ex
  obtain ⟨tc, pc, hc⟩ := hc.ex
  refine .mk ⟨_, pe_chain ho ho' pa pb pc hm, fun A σ H Q ev q => ?_⟩
  refine ha A σ H _ ev (q.bind.mono fun d qd v H1 s1 rv => ?_)
  refine hb A σ H1 _ (ev.same s1) (qd.bind.imp s1 fun e qe u H2 s2 ru => ?_)
  refine hr E A H2 v u d e _ (ev.same (s1.trans s2)).tr (rv.same s2) ru (qe.bind.imp (s1.trans s2) fun f qf w H3 s3 rw => ?_)
  cases z : boolD f with
  | ok k =>
    rw [z] at qf
    refine ⟨k, bool_of rw z, ?_⟩
    have s123 := s1.trans (s2.trans s3)
    cases k with
    | true =>
      refine iteT (hc A σ H3 _ (ev.same s123) ((PostR.bind (k := fun f => g' e f) qf).imp s123 fun f qf w' H4 s4 rw' => ?_))
      exact hr' E A H4 u w' e f Q (ev.same (s123.trans s4)).tr (ru.same (s3.trans s4)) rw' (qf.imp (s123.trans s4) fun f k w H5 s5 rw => k w H5 (s123.trans (s4.trans s5)) rw)
    | false => exact iteF (qf _ H3 s123 (.bl _))
  | err c => unfold boolD at z; split at z <;> cases z
  | stuck => rw [z] at qf; exact qf.elim
theorem gt_chain {op op' : CmpOp} {g g' : PyData → PyData → Res PyData} (o : Op2 X (compareOp op) g) (o' : Op2 X (compareOp op') g') (ha : GW X E a ρ ra) (hb : GW X E b ρ rb) (hc : GW X E c ρ rc)
    (hm : lastMarks [op, op'] [b, c] = false := by with_unfolding_all rfl) : GT X E (.Compare a [op, op'] [b, c] pos) ρ (chainV ra rb rc g g' >>= boolD) := by
  obtain ⟨r, ho, hr⟩ := o
  obtain ⟨r', ho', hr'⟩ := o'
  obtain ⟨ta, pa, ha⟩ := ha.ex
  obtain ⟨tb, pb, hb⟩ := hb.ex
  obtain ⟨tc, pc, hc⟩ := hc.ex
  refine .mk ⟨_, pt_chain ho ho' pa pb pc hm, fun A σ H Q ev q => ?_⟩
  replace q := q.bind
  unfold chainV at q
  refine ha A σ H _ ev (q.bind.mono fun d qd v H1 s1 rv => ?_)
  refine hb A σ H1 _ (ev.same s1) (qd.bind.imp s1 fun e qe u H2 s2 ru => ?_)
  refine hr E A H2 v u d e _ (ev.same (s1.trans s2)).tr (rv.same s2) ru (qe.bind.imp (s1.trans s2) fun f qf w H3 s3 rw => ?_)
  cases z : boolD f with
  | ok k =>
    rw [z] at qf
    refine ⟨k, bool_of rw z, ?_⟩
    have s123 := s1.trans (s2.trans s3)
    cases k with
    | true =>
      refine iteT (hc A σ H3 _ (ev.same s123) ((PostR.bind (k := fun f => g' e f) qf).imp s123 fun f qf w' H4 s4 rw' => ?_))
      refine hr' E A H4 u w' e f _ (ev.same (s123.trans s4)).tr (ru.same (s3.trans s4)) rw' (PostR.imp qf (s123.trans s4) fun f k w H5 s5 rw => ?_)
      cases z : boolD f with
      | ok k' =>
        rw [z] at k
        exact ⟨k', bool_of rw z, k H5 (s123.trans (s4.trans s5))⟩
      | err c => unfold boolD at z; split at z <;> cases z
      | stuck => rw [z] at k; exact k.elim
    | false => exact iteF ⟨_, rfl, (show ∀ H', Same H H' → Q false H' from qf) H3 s123⟩
  | err c => unfold boolD at z; split at z <;> cases z
  | stuck => rw [z] at qf; exact qf.elim

/-! ### places, slices -/
def idxD : PyData → PyData → Res PyData
  | .list xs, .int i => match atI xs i with
    | some d => .ok d
    | none => .stuck
  | .tuple xs, .int i => match atI xs i with
    | some d => .ok d
    | none => .stuck
  | .str z, .int i => if z.length ≤ sizeLine then match atI z.cps.toList i with
      | some c => .ok (.str ⟨#[c]⟩)
      | none => .stuck
    else .stuck
  | _, _ => .stuck
theorem Reps.atI {A : Ow} {κ : Kx} {H : Hp} {vs : List V} {ds : List PyData} {i : Int} {d : PyData} (h : Reps A κ H vs ds) (e : L2.atI ds i = some d) : ∃ v, L2.atI vs i = some v ∧ Rep A κ H v d := by
  unfold L2.atI at e ⊢
  rw [h.length]
  cases z : ixN ds.length i with
  | none => rw [z] at e; cases e
  | some j =>
    rw [z] at e
    exact h.get e
theorem ge_idx (ha : GW X E a ρ ra) (hb : GW X E b ρ rb) (hs : PlainIx b := by intro _ _; rfl) : GE X E (.Subscript a b pos) ρ (ra >>= fun d => rb >>= fun e => idxD d e) := by
  have hr : ∀ (E : XK) (A : Ow) (H : Hp) (x y : V) (d e : PyData) (Q : VK), Tr A H → RepW A (kx X) H x d → RepW A (kx X) H y e → PostR X E H (idxD d e) (OkE X A H Q) → rIx X.K x y H Q := fun E A H x y d e Q tr rx ry q => by
    unfold idxD at q
    split at q
    · obtain ⟨p, vs, rfl, h1, h2⟩ := rx.lst
      obtain rfl := ry.int
      split at q
      · obtain ⟨v, h3, h4⟩ := Reps.atI h2 (by assumption)
        exact .inl ⟨p, vs, _, v, rfl, rfl, .of h1, h3, q _ H (Same.refl _) h4⟩
      · exact q.elim
    · obtain ⟨p, vs, rfl, h1, h2⟩ := rx.tup
      obtain rfl := ry.int
      split at q
      · obtain ⟨v, h3, h4⟩ := Reps.atI h2 (by assumption)
        exact .inr (.inl ⟨p, vs, _, v, rfl, rfl, h1, h3, q _ H (Same.refl _) h4⟩)
      · exact q.elim
    · obtain rfl := rx.str
      obtain rfl := ry.int
      split at q
      · split at q
        · exact .inr (.inr ⟨_, _, _, rfl, rfl, by assumption, by assumption, q _ H (Same.refl _) (.str _)⟩)
        · exact q.elim
      · exact q.elim
    · exact q.elim
  obtain ⟨ta, tb, pa, pb, h⟩ := two ha hb hr
  exact .mk ⟨_, pe_ix ix_seq pa pb hs, h⟩
/-- a slice's part -/
def WP (X : Cx) (e : Option Expr) : TO := fun σ H Q => ∃ t, PO X e t ∧ t σ H Q
theorem wp_ok {X : Cx} {e : Option Expr} : PO X e (WP X e) := ⟨fun pins s σ H Q I ⟨t, h, q⟩ => h.run pins s σ H Q I q⟩
def GP (X : Cx) (E : XK) (e : Option Expr) (ρ : List Sl) (r : Res (Option Int)) : Prop :=
  ∀ A σ H Q, EV A (kx X) ρ σ H → PostR X E H r (fun o => ∀ H', Same H H' → Q o H') → WP X e σ H Q
theorem GP.ex {e : Option Expr} {r : Res (Option Int)} (h : GP X E e ρ r) : ∃ t, PO X e t ∧ ∀ A σ H Q, EV A (kx X) ρ σ H → PostR X E H r (fun o => ∀ H', Same H H' → Q o H') → t σ H Q := ⟨_, wp_ok, h⟩
theorem GP.mk {e : Option Expr} {r : Res (Option Int)} (h : ∃ t, PO X e t ∧ ∀ A σ H Q, EV A (kx X) ρ σ H → PostR X E H r (fun o => ∀ H', Same H H' → Q o H') → t σ H Q) : GP X E e ρ r := let ⟨t, p, h⟩ := h; fun A σ H Q ev q => ⟨t, p, h A σ H Q ev q⟩
theorem gp_none : GP X E none ρ (.ok none) := .mk ⟨_, po_none, fun A σ H Q ev q => q H (Same.refl _)⟩
def partD : PyData → Res (Option Int)
  | .int i => .ok (some i)
  | _ => .stuck
theorem gp_some (h : GW X E e ρ r) : GP X E (some e) ρ (r >>= partD) := by
  obtain ⟨t, pa, ha⟩ := h.ex
  refine .mk ⟨_, po_some pa, fun A σ H Q ev q => ?_⟩
  refine ha A σ H _ ev (q.bind.mono fun d qd v H1 s1 rv => ?_)
  unfold partD at qd
  split at qd
  · obtain rfl := rv.int
    exact ⟨_, rfl, qd H1 s1⟩
  · exact qd.elim
def cutD (xs : List PyData) (lo hi : Option Int) : List PyData := (xs.drop (HT.sIx xs.length 0 lo)).take (HT.sIx xs.length xs.length hi - HT.sIx xs.length 0 lo)
theorem Reps.cut {A : Ow} {κ : Kx} {H : Hp} {vs : List V} {ds : List PyData} (h : Reps A κ H vs ds) (lo hi : Option Int) : Reps A κ H (cutV vs lo hi) (cutD ds lo hi) := by
  unfold cutV cutD
  rw [h.length]
  exact (h.drop _).take _
theorem cut_whole {xs : List PyData} {lo hi : Option Int} (h : HT.sIx xs.length 0 lo = 0 ∧ HT.sIx xs.length xs.length hi = xs.length) : cutD xs lo hi = xs := by
  unfold cutD
  rw [h.1, h.2]
  simp
def sliceD (d : PyData) (lo hi : Option Int) : Res PyData := match d with
  | .list xs => .ok (.list (cutD xs lo hi))
  | .tuple xs => .ok (.tuple (cutD xs lo hi))
  | _ => .stuck
theorem ge_slice {lo hi : Option Expr} {rl rh : Res (Option Int)} {p2 : Pos} (ha : GW X E a ρ ra) (hl : GP X E lo ρ rl) (hh : GP X E hi ρ rh) :
    GE X E (.Subscript a (.Slice lo hi none p2) pos) ρ (ra >>= fun d => rl >>= fun l => rh >>= fun u => sliceD d l u) := by
  obtain ⟨ta, pa, ha⟩ := ha.ex
  obtain ⟨tl, pl, hl⟩ := hl.ex
  obtain ⟨th, ph, hh⟩ := hh.ex
  refine .mk ⟨_, pe_slice (sl_list.or sl_tupA) pa pl ph, fun A σ H Q ev q => ?_⟩
  refine ha A σ H _ ev (q.bind.mono fun d qd v H1 s1 rv => ?_)
  refine hl A σ H1 _ (ev.same s1) (qd.bind.imp s1 fun l ql H2 s2 => ?_)
  refine hh A σ H2 _ (ev.same (s1.trans s2)) (ql.bind.imp (s1.trans s2) fun u qu H3 s3 => ?_)
  have s123 := s1.trans (s2.trans s3)
  have rv3 := rv.same (s2.trans s3)
  unfold sliceD at qu
  split at qu
  · obtain ⟨p, vs, rfl, h1, h2⟩ := rv3.lst
    refine .inl ⟨p, vs, rfl, .of h1, fun p n => ?_⟩
    exact qu _ _ (s123.trans (same_new n)) (Rep.new_lst n (ev.same s123).tr (h2.cut _ _))
  · obtain ⟨p, vs, rfl, h1, h2⟩ := rv3.tup
    refine .inr ⟨p, vs, rfl, h1, fun hw => ?_, fun hw p n => ?_⟩
    · rw [h2.length] at hw
      rw [cut_whole hw] at qu
      exact qu _ _ s123 (.tup h1 h2)
    · exact qu _ _ (s123.trans (same_new n)) (Rep.new_tup n (h2.cut _ _))
  · exact qu.elim

/-! ### arguments and displays -/
/-- from the left -/
def allR : List (Res PyData) → Res (List PyData)
  | [] => .ok []
  | r :: rs => r >>= fun d => allR rs >>= fun ds => .ok (d :: ds)
theorem ga_nil : GA X E [] ρ (allR []) := .mk ⟨_, pa_nil, fun A σ H Q ev q => q [] H (Same.refl _) .nil⟩
theorem ga_cons {ls : List (Res PyData)} (ha : GE X E a ρ ra) (hs : GA X E es ρ (allR ls)) (hst : starEach (a :: es) X.env = (false, eval a X.env) :: starEach es X.env := by rfl) : GA X E (a :: es) ρ (allR (ra :: ls)) := by
  obtain ⟨ta, pa, ha⟩ := ha.ex
  obtain ⟨tb, pb, hb⟩ := hs.ex
  refine .mk ⟨_, pa_cons pa pb hst, fun A σ H Q ev q => ?_⟩
  refine ha A σ H _ ev (q.bind.mono fun d qd v H1 s1 rv => ?_)
  refine hb A σ H1 _ (ev.same s1) (qd.bind.imp s1 fun ds qe vs H2 s2 rs => ?_)
  exact qe _ H2 (s1.trans s2) (.cons (rv.same s2) rs)
theorem gaw_nil : GAW X E [] ρ (allR []) := .mk ⟨_, pa_nil, fun A σ H Q ev q => q [] H (Same.refl _) .nil⟩
theorem gaw_cons {ls : List (Res PyData)} (ha : GW X E a ρ ra) (hs : GAW X E es ρ (allR ls)) (hst : starEach (a :: es) X.env = (false, eval a X.env) :: starEach es X.env := by rfl) : GAW X E (a :: es) ρ (allR (ra :: ls)) := by
  obtain ⟨ta, pa, ha⟩ := ha.ex
  obtain ⟨tb, pb, hb⟩ := hs.ex
  refine .mk ⟨_, pa_cons pa pb hst, fun A σ H Q ev q => ?_⟩
  refine ha A σ H _ ev (q.bind.mono fun d qd v H1 s1 rv => ?_)
  refine hb A σ H1 _ (ev.same s1) (qd.bind.imp s1 fun ds qe vs H2 s2 rs => ?_)
  exact qe _ H2 (s1.trans s2) (.cons (rv.same s2) rs)
def tupD (ds : List PyData) : Res PyData := if ds.length ≤ sizeLine then .ok (.tuple ds) else .stuck
def lstD (ds : List PyData) : Res (List PyData) := if ds.length ≤ sizeLine then .ok ds else .stuck
theorem ge_tup {x1} (h : GA X E es ρ rs) : GE X E (.Tuple es x1 pos) ρ (rs >>= tupD) := by
  obtain ⟨t, pa, ha⟩ := h.ex
  refine .mk ⟨_, pe_tup pa, fun A σ H Q ev q => ?_⟩
  refine ha A σ H _ ev (q.bind.mono fun ds qd vs H1 s1 rv => ?_)
  unfold tupD at qd
  split at qd
  · exact ⟨by rw [rv.length]; assumption, fun p n => qd _ _ (s1.trans (same_new n)) (Rep.new_tup n rv)⟩
  · exact qd.elim
theorem Reps.newA {A : Ow} {κ : Kx} {H : Hp} {vs : List V} {ds : List PyData} {p : Addr} {k : Nat} (h : Reps A κ H vs ds) (n : H p = none) : Reps (ins A p k) κ H vs ds := h.mv (.ins (Same.refl _) n (Same.refl _))
theorem Rep.newA {A : Ow} {κ : Kx} {H : Hp} {vs : V} {ds : PyData} {p : Addr} {k : Nat} (h : Rep A κ H vs ds) (n : H p = none) : Rep (ins A p k) κ H vs ds := h.mv (.ins (Same.refl _) n (Same.refl _))
theorem go_lst (h : GA X E es ρ rs) : GO X E (.List es pos) ρ (rs >>= lstD) := by
  obtain ⟨t, pa, ha⟩ := h.ex
  refine .mk ⟨_, pe_lst pa, fun A σ H Q ev q => ?_⟩
  refine ha A σ H _ ev (q.bind.mono fun ds qd vs H1 s1 rv => ?_)
  unfold lstD at qd
  split at qd
  · exact ⟨by rw [rv.length]; assumption, fun p n => qd p H1 _ s1 n (same_new n) ⟨_, upd_same, (rv.newA n).same (same_new n)⟩⟩
  · exact qd.elim

/-! ### calls of what is built in -/
theorem ge_callB {x : Str} {id : String} {p : Pos} {g : List PyData → Res PyData} (o : OpC X (.builtin id) g) (hg : Gl X x) (hm : X.mg x = none) (hv : bootBuiltins x = some (.builtin id)) (h : GAW X E (e :: es) ρ rs) (hn : x ≠ "__name__" := by decide) (hdb : (x == ("__debug__" : Str)) = false := by decide)
    (he : starEach (e :: es) X.env = (false, eval e X.env) :: starEach es X.env := by rfl) (hpl : (backTo pos (starEach es X.env)).any (·.1) = false := by rfl) : GE X E (.Call (.Name x p) (e :: es) [] pos) ρ (rs >>= g) := by
  obtain ⟨r, ho, hr⟩ := o
  obtain ⟨t, pa, ha⟩ := h.ex
  refine .mk ⟨_, pe_callB ho hg hm hv pa hn hdb he hpl, fun A σ H Q ev q => ?_⟩
  refine ha A σ H _ ev (q.bind.mono fun ds qd vs H1 s1 rv => ?_)
  exact hr E A H1 vs ds Q (ev.same s1).tr rv (qd.imp s1 fun f k w H3 s3 rw => k w H3 (s1.trans s3) rw)
theorem ge_callT {x : Str} {T : String} {p : Pos} {g : List PyData → Res PyData} (o : OpC X (.type T) g) (hg : Gl X x) (hm : X.mg x = none) (hv : bootBuiltins x = some (.type T)) (h : GAW X E (e :: es) ρ rs) (hn : x ≠ "__name__" := by decide) (hdb : (x == ("__debug__" : Str)) = false := by decide)
    (he : starEach (e :: es) X.env = (false, eval e X.env) :: starEach es X.env := by rfl) (hpl : (backTo pos (starEach es X.env)).any (·.1) = false := by rfl) : GE X E (.Call (.Name x p) (e :: es) [] pos) ρ (rs >>= g) := by
  obtain ⟨r, ho, hr⟩ := o
  obtain ⟨t, pa, ha⟩ := h.ex
  refine .mk ⟨_, pe_callTy ho hg hm hv pa hn hdb he hpl, fun A σ H Q ev q => ?_⟩
  refine ha A σ H _ ev (q.bind.mono fun ds qd vs H1 s1 rv => ?_)
  exact hr E A H1 vs ds Q (ev.same s1).tr rv (qd.imp s1 fun f k w H3 s3 rw => k w H3 (s1.trans s3) rw)
theorem go_callT {x : Str} {T : String} {p : Pos} {g : List PyData → Res (List PyData)} (o : OpCO X (.type T) g) (hg : Gl X x) (hm : X.mg x = none) (hv : bootBuiltins x = some (.type T)) (h : GAW X E (e :: es) ρ rs) (hn : x ≠ "__name__" := by decide) (hdb : (x == ("__debug__" : Str)) = false := by decide)
    (he : starEach (e :: es) X.env = (false, eval e X.env) :: starEach es X.env := by rfl) (hpl : (backTo pos (starEach es X.env)).any (·.1) = false := by rfl) : GO X E (.Call (.Name x p) (e :: es) [] pos) ρ (rs >>= g) := by
  obtain ⟨r, ho, hr⟩ := o
  obtain ⟨t, pa, ha⟩ := h.ex
  refine .mk ⟨_, pe_callTy ho hg hm hv pa hn hdb he hpl, fun A σ H Q ev q => ?_⟩
  refine ha A σ H _ ev (q.bind.mono fun ds qd vs H1 s1 rv => ?_)
  exact hr E A H1 vs ds Q (ev.same s1).tr rv (qd.imp s1 fun f k w H3 H4 s3 n s4 rw => k w H3 H4 (s1.trans s3) n s4 rw)
theorem go_callB {x : Str} {id : String} {p : Pos} {g : List PyData → Res (List PyData)} (o : OpCO X (.builtin id) g) (hg : Gl X x) (hm : X.mg x = none) (hv : bootBuiltins x = some (.builtin id)) (h : GAW X E (e :: es) ρ rs) (hn : x ≠ "__name__" := by decide) (hdb : (x == ("__debug__" : Str)) = false := by decide)
    (he : starEach (e :: es) X.env = (false, eval e X.env) :: starEach es X.env := by rfl) (hpl : (backTo pos (starEach es X.env)).any (·.1) = false := by rfl) : GO X E (.Call (.Name x p) (e :: es) [] pos) ρ (rs >>= g) := by
  obtain ⟨r, ho, hr⟩ := o
  obtain ⟨t, pa, ha⟩ := h.ex
  refine .mk ⟨_, pe_callB ho hg hm hv pa hn hdb he hpl, fun A σ H Q ev q => ?_⟩
  refine ha A σ H _ ev (q.bind.mono fun ds qd vs H1 s1 rv => ?_)
  exact hr E A H1 vs ds Q (ev.same s1).tr rv (qd.imp s1 fun f k w H3 H4 s3 n s4 rw => k w H3 H4 (s1.trans s3) n s4 rw)
end
end Dt

namespace Dt
open PySem PySem.Spec PyProof.Rows L2

/-! ### slots that change -/
theorem getD_set_same {ρ : List Sl} {i : Nat} {x : Sl} (h : i < ρ.length) : (ρ.set i x).getD i .no = x := by simp [List.getD, h]
theorem getD_set_ne {ρ : List Sl} {i j : Nat} {x : Sl} (h : i ≠ j) : (ρ.set i x).getD j .no = ρ.getD j .no := by simp [List.getD, List.getElem?_set_ne h]
section
variable {A : Ow} {κ : Kx} {ρ : List Sl} {σ : L2.St} {H : Hp}
theorem getD_lt {ρ : List Sl} {i : Nat} {x : Sl} (h : ρ.getD i .no = x) (n : x ≠ .no) : i < ρ.length := by
  by_cases e : i < ρ.length
  · exact e
  · rw [List.getD, List.getElem?_eq_none (by omega)] at h
    exact absurd h.symm n
theorem EV.set_fz {i : Nat} {v : V} {d : PyData} (ev : EV A κ ρ σ H) (r : Rep A κ H v d) : EV A κ (ρ.set i (.fz d)) (σ.set i (some v)) H := by
  refine ⟨by rw [List.length_set, List.length_set, ev.len], ev.tr, fun j => ?_⟩
  by_cases e : i = j
  · subst e
    by_cases h : i < ρ.length
    · rw [getD_set_same h, List.getElem?_set_self (by rw [ev.len]; exact h)]
      exact ⟨v, rfl, r⟩
    · rw [show (ρ.set i (.fz d)).getD i .no = .no by simp [List.getD, h]]
      trivial
  · rw [getD_set_ne e, List.getElem?_set_ne e]
    exact ev.sl j
/-- a new list at p, held by slot i alone -/
theorem EV.set_ow {i : Nat} {p : Addr} {d : PyData} {H1 H' : Hp} (ev : EV A κ ρ σ H) (s1 : Same H H1) (n : H1 p = none) (s2 : Same H1 H') (t : ∃ o, H' p = some o) (o : Own (ins A p (i + 1)) κ H' p d) :
    EV (ins A p (i + 1)) κ (ρ.set i (.ow d)) (σ.set i (some (V.ref p))) H' := by
  have np : A p = none := not_own (ev.same s1).tr n
  refine ⟨by rw [List.length_set, List.length_set, ev.len], fun a h => ?_, fun j => ?_⟩
  · by_cases e : a = p
    · rw [e]; exact t
    · rw [ins_ne e] at h
      obtain ⟨o, z⟩ := ev.tr a h
      exact ⟨o, s2 _ _ (s1 _ _ z)⟩
  · by_cases e : i = j
    · subst e
      by_cases h : i < ρ.length
      · rw [getD_set_same h, List.getElem?_set_self (by rw [ev.len]; exact h)]
        exact ⟨p, rfl, ins_same, o⟩
      · rw [show (ρ.set i (.ow d)).getD i .no = .no by simp [List.getD, h]]
        trivial
    · rw [getD_set_ne e, List.getElem?_set_ne e]
      refine (ev.sl j).mv (.ins s1 n s2) (fun a o ha ho => ⟨s2 _ _ (s1 _ _ ho), ?_⟩) ev.tr
      rw [ins_ne (fun z => by rw [z, np] at ha; cases ha)]
      exact ha
/-- the object of slot i is written -/
theorem Mv.write {p : Addr} {o : HO} (ha : A p ≠ none) (mu : Mut (H p)) : Mv A A H (upd H p o) :=
  ⟨fun a o' e x => ⟨by rw [upd_ne (fun z => ha (by rw [← z]; exact x))]; exact e, x⟩, fun a xs e => by rw [upd_ne (fun z => by rw [← z, e] at mu; exact mu)]; exact e, fun a o' u e => by rw [upd_ne (fun z => by rw [← z, e] at mu; exact mu)]; exact e⟩
theorem EV.write' {i : Nat} {p : Addr} {x : Sl} {o : HO} (ev : EV A κ ρ σ H) (hi : i < ρ.length) (ha : A p = some (i + 1)) (mu : Mut (H p)) (new : SlOk A (i + 1) κ (upd H p o) x σ[i]?) :
    EV A κ (ρ.set i x) σ (upd H p o) := by
  have ha' : A p ≠ none := by rw [ha]; exact fun z => by cases z
  refine ⟨by rw [List.length_set, ev.len], fun a h => ?_, fun j => ?_⟩
  · by_cases e : a = p
    · rw [e]; exact ⟨_, upd_same⟩
    · rw [upd_ne e]; exact ev.tr a h
  · by_cases e : i = j
    · subst e
      rw [getD_set_same hi]
      exact new
    · rw [getD_set_ne e]
      refine (ev.sl j).mv (Mv.write ha' mu) (fun a o' h1 h2 => ⟨?_, h1⟩) ev.tr
      rw [upd_ne (fun z => by rw [z, ha] at h1; cases h1; exact e rfl)]
      exact h2
end

/-! ### less is known of the slots; what was owned is handed on -/
inductive SlLe : Sl → Sl → Prop
  | no (s : Sl) : SlLe .no s
  | eq (s : Sl) : SlLe s s
  | fr (d : PyData) : SlLe (.fz d) (.ow d)
  | fd (kvs : List (PyData × List PyData)) : SlLe (.fz (.dict (kvs.map fun p => (p.1, .list p.2)))) (.od kvs)
theorem SlLe.inv {a b : Sl} (h : SlLe a b) : a = .no ∨ a = b ∨ (∃ d, a = .fz d ∧ b = .ow d) ∨ ∃ kvs : List (PyData × List PyData), a = .fz (.dict (kvs.map fun p => (p.1, .list p.2))) ∧ b = .od kvs := by
  cases h with
  | no => exact .inl rfl
  | eq => exact .inr (.inl rfl)
  | fr d => exact .inr (.inr (.inl ⟨d, rfl, rfl⟩))
  | fd k => exact .inr (.inr (.inr ⟨k, rfl, rfl⟩))
inductive Le : List Sl → List Sl → Prop
  | nil : Le [] []
  | cons {a b : Sl} {l m : List Sl} : SlLe a b → Le l m → Le (a :: l) (b :: m)
theorem Le.refl : ∀ l : List Sl, Le l l
  | [] => .nil
  | s :: l => .cons (.eq s) (Le.refl l)
theorem Le.len : ∀ {l m : List Sl}, Le l m → l.length = m.length
  | _, _, .nil => rfl
  | _, _, .cons _ t => by rw [List.length_cons, List.length_cons, Le.len t]
theorem Le.at : ∀ {l m : List Sl} (i : Nat), Le l m → SlLe (l.getD i .no) (m.getD i .no)
  | _, _, i, .nil => by simp [List.getD]; exact .no _
  | _, _, 0, .cons r _ => r
  | _, _, i + 1, .cons _ t => by simpa [List.getD] using Le.at i t
theorem Le.n {l m : List Sl} {s : Sl} (h : Le l m) : Le (.no :: l) (s :: m) := .cons (.no s) h
theorem Le.e {l m : List Sl} {s : Sl} (h : Le l m) : Le (s :: l) (s :: m) := .cons (.eq s) h
theorem Le.d {l m : List Sl} {kvs : List (PyData × List PyData)} (h : Le l m) : Le (.fz (.dict (kvs.map fun p => (p.1, .list p.2))) :: l) (.od kvs :: m) := .cons (.fd kvs) h
theorem Le.f {l m : List Sl} {d : PyData} (h : Le l m) : Le (.fz d :: l) (.ow d :: m) := .cons (.fr d) h
/-- what stands frozen beside the slots -/
inductive GItem where
  | rep (v : V) (d : PyData)
  | pin (a : Addr) (o : HO)
abbrev Gs := List GItem
def GOk (A : Ow) (κ : Kx) (H : Hp) : GItem → Prop
  | .rep v d => Rep A κ H v d
  | .pin a o => H a = some o ∧ A a = none
def GsOk (A : Ow) (κ : Kx) (H : Hp) (γ : Gs) : Prop := ∀ g ∈ γ, GOk A κ H g
theorem GOk.mv {A A' : Ow} {κ : Kx} {H H' : Hp} (m : Mv A A' H H') : ∀ {g : GItem}, GOk A κ H g → GOk A' κ H' g
  | .rep v d, h => Rep.mv m h
  | .pin a o, h => m.free a o h.1 h.2
theorem GsOk.mv {A A' : Ow} {κ : Kx} {H H' : Hp} {γ : Gs} (h : GsOk A κ H γ) (m : Mv A A' H H') : GsOk A' κ H' γ := fun g hg => (h g hg).mv m
theorem GsOk.app {A : Ow} {κ : Kx} {H : Hp} {γ δ : Gs} (h : GsOk A κ H γ) (k : GsOk A κ H δ) : GsOk A κ H (γ ++ δ) := fun g hg => (List.mem_append.mp hg).elim (h g) (k g)
/-- the state of a def's body: A0 and H0 as at the entry -/
structure ERA (A A0 : Ow) (H0 : Hp) (κ : Kx) (γ : Gs) (ρ : List Sl) (σ : L2.St) (H : Hp) : Prop where
  ev : EV A κ ρ σ H
  gs : GsOk A κ H γ
  sub : ∀ a, A a = none → A0 a = none
  same : Same H0 H
  new : ∀ a n, A a = some (n + 1) → H0 a = none
  t0 : ∀ a, A0 a ≠ none → ∃ o, H0 a = some o
def ER (A0 : Ow) (H0 : Hp) (κ : Kx) (γ : Gs) (ρ : List Sl) (σ : L2.St) (H : Hp) : Prop := ∃ A, ERA A A0 H0 κ γ ρ σ H
section
variable {A A0 : Ow} {H0 : Hp} {κ : Kx} {γ : Gs} {ρ ρ' : List Sl} {σ : L2.St} {H H' : Hp}
theorem ERA.same' (h : ERA A A0 H0 κ γ ρ σ H) (s : Same H H') : ERA A A0 H0 κ γ ρ σ H' :=
  ⟨h.ev.same s, h.gs.mv (.same s), h.sub, h.same.trans s, h.new, h.t0⟩
theorem ownD_rep {n : Nat} {p : Addr} {kvs : List (PyData × List PyData)} {A' : Ow} (m : Mv A A' H H) (hn : ∀ a, A a = some n → A' a = none) (hp : A p = some n) : OwnD A n κ H p kvs → Rep A' κ H (.ref p) (.dict (kvs.map fun p => (p.1, .list p.2)))
  | ⟨xs, qs, h1, h2, h3, h4, h5, h6, h7⟩ => by
    refine .dic h1 (hn p hp) ?_ ?_ ?_ fun q hq => ?_
    · rw [List.map_map]
      exact h2.mv m
    · rw [h4, List.map_map]
      clear h2 h3 h4 h5 h7
      induction h6 with
      | nil => exact .nil
      | cons a t ih =>
        obtain ⟨a, vs, b, c⟩ := a
        exact .cons (.lst b (hn _ a) (c.mv m)) ih
    · rw [h3, List.map_map]
      rfl
    · obtain ⟨z, hz, rfl⟩ := List.mem_map.mp hq
      exact h7 z hz
theorem ERA.le (h : ERA A A0 H0 κ γ ρ σ H) (l : Le ρ' ρ) : ER A0 H0 κ γ ρ' σ H := by
  -- the slots whose things are handed on
  let fr : Nat → Prop := fun n => ∃ i d, n = i + 1 ∧ ρ'.getD i .no = .fz d
  open Classical in
  let A' : Ow := fun a => match A a with
    | none => none
    | some n => if fr n then none else some n
  have hn : ∀ a, A a = none → A' a = none := fun a e => by
    show (match A a with | none => none | some n => if fr n then none else some n) = none
    rw [e]
  have hf : ∀ a n, A a = some n → fr n → A' a = none := fun a n e f => by
    show (match A a with | none => none | some n => if fr n then none else some n) = none
    rw [e]
    exact if_pos f
  have hk : ∀ a n, A a = some n → ¬ fr n → A' a = some n := fun a n e f => by
    show (match A a with | none => none | some n => if fr n then none else some n) = some n
    rw [e]
    exact if_neg f
  have back : ∀ a n, A' a = some n → A a = some n := fun a n e => by
    cases e2 : A a with
    | none => rw [hn a e2] at e; cases e
    | some k =>
      by_cases f : fr k
      · rw [hf a k e2 f] at e; cases e
      · rw [hk a k e2 f] at e; exact e
  have m : Mv A A' H H := Mv.less hn
  refine ⟨A', ⟨⟨by rw [l.len]; exact h.ev.len, fun a x => h.ev.tr a fun z => x (hn a z), fun i => ?_⟩, h.gs.mv m, fun a e => ?_, h.same, fun a n e => h.new a n (back a _ e), h.t0⟩⟩
  · have z := h.ev.sl i
    have w := l.at i
    have nf : ∀ {s : Sl}, ρ'.getD i .no = s → (∀ d, s ≠ .fz d) → ¬ fr (i + 1) := fun e ns ⟨j, d, e1, e2⟩ => by
      cases e1
      exact ns d (e.symm.trans e2)
    generalize e2 : ρ.getD i .no = s2 at z w
    generalize e1 : ρ'.getD i .no = s1 at w nf ⊢
    rcases w.inv with rfl | rfl | ⟨d, rfl, rfl⟩ | ⟨kvs, rfl, rfl⟩
    · trivial
    · cases s1 with
      | no => trivial
      | fz d => obtain ⟨v, e, r⟩ := z; exact ⟨v, e, r.mv m⟩
      | ow d => exact z.mv m (fun a o ha ho => ⟨ho, hk a _ ha (nf rfl fun d e => by cases e)⟩) h.ev.tr
      | od d => exact z.mv m (fun a o ha ho => ⟨ho, hk a _ ha (nf rfl fun d e => by cases e)⟩) h.ev.tr
      | pd d => exact z.mv m (fun a o ha ho => ⟨ho, hk a _ ha (nf rfl fun d e => by cases e)⟩) h.ev.tr
    · obtain ⟨p, e, ha, o⟩ := z
      exact ⟨.ref p, e, (o.mv m fun _ z => z).rep (hf p _ ha ⟨i, d, rfl, e1⟩)⟩
    · obtain ⟨p, e, ha, o⟩ := z
      exact ⟨.ref p, e, ownD_rep m (fun a ha => hf a _ ha ⟨i, _, rfl, e1⟩) ha o⟩
  · cases e2 : A a with
    | none => exact h.sub a e2
    | some k =>
      by_cases f : fr k
      · obtain ⟨i, d, rfl, _⟩ := f
        have := h.new a i e2
        cases e3 : A0 a with
        | none => rfl
        | some j =>
          obtain ⟨o, e4⟩ := h.t0 a (by rw [e3]; exact fun z => by cases z)
          rw [this] at e4
          cases e4
      · rw [hk a k e2 f] at e; cases e
theorem ERA.set_fz {i : Nat} {v : V} {d : PyData} (h : ERA A A0 H0 κ γ ρ σ H) (r : Rep A κ H v d) : ERA A A0 H0 κ γ (ρ.set i (.fz d)) (σ.set i (some v)) H :=
  ⟨h.ev.set_fz r, h.gs, h.sub, h.same, h.new, h.t0⟩
theorem own_there {p : Addr} {d : PyData} {H : Hp} (h : Own A κ H p d) : ∃ o, H p = some o := by
  cases d with
  | list ds => obtain ⟨xs, e, _⟩ := h; exact ⟨_, e⟩
  | dict ds => obtain ⟨xs, ⟨ep, e⟩, _⟩ := h; exact ⟨_, e⟩
  | _ => exact h.elim
theorem Own.relab {p : Addr} {d : PyData} {k j : Nat} {q : Addr} {H : Hp} (h : Own (ins A q k) κ H p d) : Own (ins A q j) κ H p d := by
  refine h.mv (.less fun a e => ?_) fun _ e => e
  by_cases z : a = q
  · rw [z, ins_same] at e; cases e
  · rw [ins_ne z] at e ⊢; exact e
theorem ERA.ins {i : Nat} {p : Addr} {H1 H' : Hp} {ρ' : List Sl} {σ' : L2.St} (h : ERA A A0 H0 κ γ ρ σ H) (s1 : Same H H1) (n : H1 p = none) (s2 : Same H1 H') (ev : EV (ins A p (i + 1)) κ ρ' σ' H') : ERA (ins A p (i + 1)) A0 H0 κ γ ρ' σ' H' := by
  have np : H0 p = none := (h.same.trans s1).free n
  refine ⟨ev, h.gs.mv (.ins s1 n s2), fun a e => ?_, h.same.trans (s1.trans s2), fun a m e => ?_, h.t0⟩
  · by_cases z : a = p
    · rw [z, ins_same] at e; cases e
    · rw [ins_ne z] at e; exact h.sub a e
  · by_cases z : a = p
    · rw [z]; exact np
    · rw [ins_ne z] at e; exact h.new a m e
theorem ERA.set_ow {i : Nat} {p : Addr} {d : PyData} {H1 H' : Hp} (h : ERA A A0 H0 κ γ ρ σ H) (s1 : Same H H1) (n : H1 p = none) (s2 : Same H1 H') (o : Own (Dt.ins A p 0) κ H' p d) :
    ER A0 H0 κ γ (ρ.set i (.ow d)) (σ.set i (some (V.ref p))) H' :=
  ⟨_, h.ins s1 n s2 (h.ev.set_ow s1 n s2 (own_there o) o.relab)⟩
theorem ERA.write' {i : Nat} {p : Addr} {x : Sl} {o : HO} (h : ERA A A0 H0 κ γ ρ σ H) (hi : i < ρ.length) (ha : A p = some (i + 1)) (mu : Mut (H p)) (new : SlOk A (i + 1) κ (upd H p o) x σ[i]?) :
    ERA A A0 H0 κ γ (ρ.set i x) σ (upd H p o) := by
  have ha' : A p ≠ none := by rw [ha]; exact fun z => by cases z
  refine ⟨h.ev.write' hi ha mu new, h.gs.mv (Mv.write ha' mu), h.sub, fun b x e => ?_, h.new, h.t0⟩
  rw [upd_ne (ne_of_none e (h.new p i ha))]
  exact h.same _ _ e
theorem ERA.write {i : Nat} {p : Addr} {d d' : PyData} {o : HO} (h : ERA A A0 H0 κ γ ρ σ H) (hd : ρ.getD i .no = .ow d) (hp : σ[i]? = some (some (V.ref p))) (ha : A p = some (i + 1)) (mu : Mut (H p)) (new : Own A κ (upd H p o) p d') :
    ER A0 H0 κ γ (ρ.set i (.ow d')) σ (upd H p o) :=
  ⟨_, h.write' (getD_lt hd (fun z => by cases z)) ha mu ⟨p, hp, ha, new⟩⟩
theorem ER.le (h : ER A0 H0 κ γ ρ σ H) (l : Le ρ' ρ) : ER A0 H0 κ γ ρ' σ H := let ⟨_, h⟩ := h; h.le l
end

/-! ### statements -/
inductive Out (α : Type) where
  | nx (a : α)
  | rt (d : PyData)
def OkS {α : Type} (X : Cx) (A0 : Ow) (H0 : Hp) (γ : Gs) (sh : α → List Sl) (D : Ends) : Out α → Prop
  | .nx a => ∀ σ' H', ER A0 H0 (kx X) γ (sh a) σ' H' → D.nx σ' H'
  | .rt d => ∀ v H', Same H0 H' → Rep A0 (kx X) H' v d → D.rt v H'
def WS (X : Cx) (s : Stmt) : TS := fun D σ H => ∃ t, PS X s t ∧ t D σ H
theorem ws_ok {X : Cx} {s : Stmt} : PS X s (WS X s) := ⟨fun pins s σ H D I ⟨t, h, q⟩ => h.run pins s σ H D I q⟩
def WSs (X : Cx) (s : List Stmt) : TS := fun D σ H => ∃ t, PSs X s t ∧ t D σ H
theorem wss_ok {X : Cx} {s : List Stmt} : PSs X s (WSs X s) := ⟨fun pins s σ H D I ⟨t, h, q⟩ => h.run pins s σ H D I q⟩
def WG (X : Cx) (tg : Expr) : TG := fun v σ H Q => ∃ g, PG X tg g ∧ g v σ H Q
theorem wg_ok {X : Cx} {tg : Expr} : PG X tg (WG X tg) := ⟨fun pins s σ H v u Q I r ⟨t, h, q⟩ => h.run pins s σ H v u Q I r q⟩
def WI (X : Cx) (tg iter : Expr) : TI := fun σ H R => ∃ wi, PI X tg iter wi ∧ wi σ H R
theorem wi_ok {X : Cx} {tg iter : Expr} : PI X tg iter (WI X tg iter) := ⟨fun pins s σ H R I ⟨t, h, q⟩ => h.run pins s σ H R I q⟩
theorem wss_cons {X : Cx} {st : Stmt} {rest : List Stmt} {t : TS} {D : Ends} {σ : L2.St} {H : Hp} (h : PS X st t) (q : t { D with nx := WSs X rest D } σ H) : WSs X (st :: rest) D σ H :=
  ⟨_, pss_cons h wss_ok, q⟩
def GSs {α : Type} (X : Cx) (E : XK) (ss : List Stmt) (ρ : List Sl) (sh : α → List Sl) (r : Res (Out α)) : Prop :=
  ∀ A0 H0 γ σ H D, ER A0 H0 (kx X) γ ρ σ H → PostR X E H0 r (OkS X A0 H0 γ sh D) → WSs X ss D σ H
/-- what follows -/
def seqR {α β : Type} (r : Res (Out α)) (k : α → Res (Out β)) : Res (Out β) := r >>= fun o => match o with
  | .nx a => k a
  | .rt d => .ok (.rt d)
@[simp] theorem seqR_nx {α β : Type} (a : α) (k : α → Res (Out β)) : seqR (.ok (.nx a)) k = k a := rfl
@[simp] theorem seqR_rt {α β : Type} (d : PyData) (k : α → Res (Out β)) : seqR (.ok (.rt d)) k = .ok (.rt d) := rfl
@[simp] theorem seqR_err {α β : Type} (c : Str) (k : α → Res (Out β)) : seqR (.err c) k = .err c := rfl
@[simp] theorem seqR_stuck {α β : Type} (k : α → Res (Out β)) : seqR .stuck k = .stuck := rfl
def forD {α : Type} : List PyData → α → (PyData → α → Res (Out α)) → Res (Out α)
  | [], a, _ => .ok (.nx a)
  | d :: ds, a, f => seqR (f d a) fun a' => forD ds a' f
section
variable {α β : Type} {X : Cx} {E : XK} {ρ ρ' : List Sl} {e a b c iter tg : Expr} {es : List Expr} {r ra rb rc : Res PyData} {rt : Res Bool} {ri : Res (List PyData)} {pos p' : Pos} {sh : α → List Sl} {sb : β → List Sl} {x : Str} {rest body : List Stmt}

theorem gss_nil (v : α) (l : Le (sh v) ρ) : GSs X E [] ρ sh (.ok (.nx v)) := fun A0 H0 γ σ H D er q => ⟨_, pss_nil, q σ H (er.le l)⟩
theorem gss_le {r : Res (Out α)} (l : Le ρ' ρ) (h : GSs X E rest ρ' sh r) : GSs X E rest ρ sh r := fun A0 H0 γ σ H D er q => h A0 H0 γ σ H D (er.le l) q
theorem gss_ret (h : GE X E e ρ r) : GSs X E (.Return (some e) pos :: rest) ρ sh (r >>= fun d => .ok (.rt d)) := fun A0 H0 γ σ H D er q => by
  obtain ⟨A, er⟩ := er
  refine wss_cons (ps_ret we_ok) ?_
  exact h A σ H _ er.ev (q.bind.imp er.same fun d qd v H1 s1 rv => qd v H1 (er.same.trans s1) (rv.mv (.less er.sub)))
/-- x = e -/
theorem gss_set {i : Nat} {k : PyData → Res (Out α)} (hN : X.N.Nodup) (h : GE X E e ρ r) (k' : ∀ d, GSs X E rest (ρ.set i (.fz d)) sh (k d)) (hi : X.N[i]? = some x := by rfl) (hx : Loc X.env.scope x := by first | exact .inl rfl | exact .inr rfl)
    (hs : swapsWith e (some (.Name x p')) pos.line X.env = pure false := by rfl) (hf : X.fn x = true ∨ X.env.scope.names.lookup x = some .local := by first | exact .inl rfl | exact .inr rfl) :
    GSs X E (.Assign [.Name x p'] e pos :: rest) ρ sh (r >>= k) := fun A0 H0 γ σ H D er q => by
  obtain ⟨A, er⟩ := er
  refine wss_cons (ps_set hN hi hx we_ok hs hf) ?_
  refine h A σ H _ er.ev (q.bind.imp er.same fun d qd v H1 s1 rv => ?_)
  exact k' d A0 H0 γ _ H1 D ⟨A, (er.same' s1).set_fz rv⟩ qd
/-- x = a new list -/
theorem gss_own {i : Nat} {k : List PyData → Res (Out α)} (hN : X.N.Nodup) (h : GO X E e ρ ri) (k' : ∀ d, GSs X E rest (ρ.set i (.ow (.list d))) sh (k d)) (hi : X.N[i]? = some x := by rfl) (hx : Loc X.env.scope x := by first | exact .inl rfl | exact .inr rfl)
    (hs : swapsWith e (some (.Name x p')) pos.line X.env = pure false := by rfl) (hf : X.fn x = true ∨ X.env.scope.names.lookup x = some .local := by first | exact .inl rfl | exact .inr rfl) :
    GSs X E (.Assign [.Name x p'] e pos :: rest) ρ sh (ri >>= k) := fun A0 H0 γ σ H D er q => by
  obtain ⟨A, er⟩ := er
  refine wss_cons (ps_set hN hi hx we_ok hs hf) ?_
  refine h A σ H _ er.ev (q.bind.imp er.same fun d qd p H1 H' s1 n s2 o => ?_)
  exact k' d A0 H0 γ _ H' D (er.set_ow s1 n s2 o) qd
/-- if t: a else: b -/
theorem gss_if {ra rb : Res (Out β)} {k : β → Res (Out α)} {ba bb : List Stmt} (ht : GT X E c ρ rt) (ha : GSs X E ba ρ sb ra) (hb : GSs X E bb ρ sb rb) (hk : ∀ j, GSs X E rest (sb j) sh (k j)) :
    GSs X E (.If c ba bb pos :: rest) ρ sh (rt >>= fun z => seqR (if z = true then ra else rb) k) := fun A0 H0 γ σ H D er q => by
  obtain ⟨A, er⟩ := er
  refine wss_cons (ps_if wt_ok wss_ok wss_ok) ?_
  refine ht A σ H _ er.ev (q.bind.imp er.same fun z qz H1 s1 => ?_)
  have er1 := er.same' s1
  have go : ∀ {r : Res (Out β)}, PostR X E H0 (seqR r k) (OkS X A0 H0 γ sh D) → PostR X E H0 r (OkS X A0 H0 γ sb { D with nx := WSs X rest D }) := fun {r} h => by
    refine (PostR.bind h).mono fun o qo => ?_
    cases o with
    | nx j => exact fun σ' H' er' => hk j A0 H0 γ σ' H' D er' qo
    | rt d => exact qo
  cases z with
  | true => exact iteT (ha A0 H0 γ σ H1 _ ⟨A, er1⟩ (go qz))
  | false => exact iteF (hb A0 H0 γ σ H1 _ ⟨A, er1⟩ (go qz))
/-- if t: a, which hands back -/
def retO {α : Type} : Out Empty → Out α
  | .rt d => .rt d
  | .nx a => nomatch a
def onlyR {α : Type} (r : Res (Out Empty)) : Res (Out α) := r >>= fun o => .ok (retO o)
@[simp] theorem onlyR_rt {α : Type} (d : PyData) : onlyR (α := α) (.ok (.rt d)) = .ok (.rt d) := rfl
@[simp] theorem onlyR_err {α : Type} (c : Str) : onlyR (α := α) (.err c) = .err c := rfl
@[simp] theorem onlyR_stuck {α : Type} : onlyR (α := α) .stuck = .stuck := rfl
theorem gss_if1 {ra : Res (Out Empty)} {rb : Res (Out α)} {se : Empty → List Sl} {ba : List Stmt} (ht : GT X E c ρ rt) (ha : GSs X E ba ρ se ra) (hb : GSs X E rest ρ sh rb) :
    GSs X E (.If c ba [] pos :: rest) ρ sh (rt >>= fun z => if z = true then onlyR ra else rb) := fun A0 H0 γ σ H D er q => by
  obtain ⟨A, er⟩ := er
  refine wss_cons (ps_if wt_ok wss_ok wss_ok) ?_
  refine ht A σ H _ er.ev (q.bind.imp er.same fun z qz H1 s1 => ?_)
  have er1 := er.same' s1
  cases z with
  | true =>
    refine iteT (ha A0 H0 γ σ H1 _ ⟨A, er1⟩ ((PostR.bind (show PostR X E H0 (onlyR ra) _ from qz)).mono fun o qo => ?_))
    cases o with
    | nx a => exact nomatch a
    | rt d => exact qo
  | false => exact iteF ⟨_, pss_nil, hb A0 H0 γ σ H1 D ⟨A, er1⟩ qz⟩
/-- the same at the end of a block -/
theorem gss_ifE {ra rb : Res (Out α)} {ba bb : List Stmt} (ht : GT X E c ρ rt) (ha : GSs X E ba ρ sh ra) (hb : GSs X E bb ρ sh rb) :
    GSs X E [.If c ba bb pos] ρ sh (rt >>= fun z => if z = true then ra else rb) := fun A0 H0 γ σ H D er q => by
  obtain ⟨A, er⟩ := er
  refine ⟨_, pss_one (ps_if wt_ok wss_ok wss_ok), ?_⟩
  refine ht A σ H _ er.ev (q.bind.imp er.same fun z qz H1 s1 => ?_)
  have er1 := er.same' s1
  cases z with
  | true => exact iteT (ha A0 H0 γ σ H1 _ ⟨A, er1⟩ qz)
  | false => exact iteF (hb A0 H0 γ σ H1 _ ⟨A, er1⟩ qz)
/-- an expression whose value is dropped -/
theorem gss_drop {k : Res (Out α)} (h : GW X E e ρ r) (hk : GSs X E rest ρ sh k) (hs : swapsWith e none pos.line X.env = pure false := by rfl) : GSs X E (.Expr e pos :: rest) ρ sh (r >>= fun _ => k) := fun A0 H0 γ σ H D er q => by
  obtain ⟨A, er⟩ := er
  refine wss_cons (ps_expr we_ok hs) ?_
  exact h A σ H _ er.ev (q.bind.imp er.same fun d qd v H1 s1 rv => hk A0 H0 γ σ H1 D ⟨A, er.same' s1⟩ qd)
/-! ### lists that a def changes -/
def appR (ds : List PyData) (d : PyData) : Res (List PyData) := if ds.length < sizeLine then .ok (ds ++ [d]) else .stuck
def extR (ds : List PyData) : PyData → Res (List PyData)
  | .list es => if ds.length + es.length ≤ sizeLine then .ok (ds ++ es) else .stuck
  | _ => .stuck
theorem mut_lst {H : Hp} {p : Addr} {xs : List V} (h : H p = some (.lst xs)) : Mut (H p) := by rw [h]; exact trivial
theorem gss_append {i : Nat} {l : List PyData} {k : List PyData → Res (Out α)} {apos : Pos} {p : Pos} (hv : PE X (.Name x p) (tVar i)) (h : GE X E e ρ r) (k' : ∀ d, GSs X E rest (ρ.set i (.ow (.list d))) sh (k d)) (hd : ρ.getD i .no = .ow (.list l) := by rfl)
    (hbase : attributeBase (.Name x p) "append" X.env (eval (.Name x p) X.env) = eval (.Name x p) X.env := by rfl)
    (hfew : ((backTo pos (starEach (e :: []) X.env)).all (fun x => !x.1) && (backToKw pos (keywordEach [] X.env)).all (fun x => x.1.isSome)
      && decide ((e :: []).length + ([] : List Keyword).length + (if ([] : List Keyword).isEmpty then 0 else 1) < 30)) = true := by rfl)
    (hline : (apos.endLine == pos.line) = true := by rfl) (hs : starEach (e :: []) X.env = (false, eval e X.env) :: starEach [] X.env := by rfl) (hplain : (backTo pos (starEach [] X.env)).any (·.1) = false := by rfl)
    (hsw : swapsWith (.Call (.Attribute (.Name x p) "append" apos) [e] [] pos) none p'.line X.env = pure false := by rfl) :
    GSs X E (.Expr (.Call (.Attribute (.Name x p) "append" apos) [e] [] pos) p' :: rest) ρ sh (r >>= fun d => appR l d >>= k) := fun A0 H0 γ σ H D er q => by
  obtain ⟨A, er⟩ := er
  refine wss_cons (ps_expr (pe_bm PySem.F.plainAttrs_list PySem.F.slot_list_append PySem.F.type_list_append mt_append hv (pa_cons we_ok pa_nil hs) hbase hfew hline hs hplain) hsw) ?_
  have z := er.ev.sl i
  rw [hd] at z
  obtain ⟨a, e1, ha, xs, h1, h2⟩ := z
  refine ⟨.ref a, e1, .inl ⟨rfl, xs, .of h1⟩, ?_⟩
  refine h A σ H _ er.ev (q.bind.imp er.same fun d qd v H1 s1 rv => ?_)
  have h1' := s1 _ _ h1
  unfold appR at qd
  split at qd
  · rename_i hz
    refine ⟨a, xs, v, rfl, rfl, h1', by rw [h2.length]; exact hz, ?_⟩
    have m : Mv A A H1 (upd H1 a (.lst (xs ++ [v]))) := Mv.write (by rw [ha]; exact fun z => by cases z) (mut_lst h1')
    exact k' _ A0 H0 γ σ _ D ((er.same' s1).write hd e1 ha (mut_lst h1') ⟨_, upd_same, ((h2.same s1).append (.cons rv .nil)).mv m⟩) qd
  · exact qd.elim
theorem gss_extend {i : Nat} {l : List PyData} {k : List PyData → Res (Out α)} {apos : Pos} {p : Pos} (hv : PE X (.Name x p) (tVar i)) (h : GE X E e ρ r) (k' : ∀ d, GSs X E rest (ρ.set i (.ow (.list d))) sh (k d)) (hd : ρ.getD i .no = .ow (.list l) := by rfl)
    (hbase : attributeBase (.Name x p) "extend" X.env (eval (.Name x p) X.env) = eval (.Name x p) X.env := by rfl)
    (hfew : ((backTo pos (starEach (e :: []) X.env)).all (fun x => !x.1) && (backToKw pos (keywordEach [] X.env)).all (fun x => x.1.isSome)
      && decide ((e :: []).length + ([] : List Keyword).length + (if ([] : List Keyword).isEmpty then 0 else 1) < 30)) = true := by rfl)
    (hline : (apos.endLine == pos.line) = true := by rfl) (hs : starEach (e :: []) X.env = (false, eval e X.env) :: starEach [] X.env := by rfl) (hplain : (backTo pos (starEach [] X.env)).any (·.1) = false := by rfl)
    (hsw : swapsWith (.Call (.Attribute (.Name x p) "extend" apos) [e] [] pos) none p'.line X.env = pure false := by rfl) :
    GSs X E (.Expr (.Call (.Attribute (.Name x p) "extend" apos) [e] [] pos) p' :: rest) ρ sh (r >>= fun d => extR l d >>= k) := fun A0 H0 γ σ H D er q => by
  obtain ⟨A, er⟩ := er
  refine wss_cons (ps_expr (pe_bm PySem.F.plainAttrs_list PySem.F.slot_list_extend PySem.F.type_list_extend mt_extend hv (pa_cons we_ok pa_nil hs) hbase hfew hline hs hplain) hsw) ?_
  have z := er.ev.sl i
  rw [hd] at z
  obtain ⟨a, e1, ha, xs, h1, h2⟩ := z
  refine ⟨.ref a, e1, .inl ⟨rfl, xs, .of h1⟩, ?_⟩
  refine h A σ H _ er.ev (q.bind.imp er.same fun d qd v H1 s1 rv => ?_)
  have h1' := s1 _ _ h1
  unfold extR at qd
  split at qd
  · split at qd
    · rename_i hz
      cases rv with
      | @lst _ ws _ h3 h4 h5 =>
        refine ⟨a, _, xs, ws, rfl, rfl, h1', h3, by rw [h2.length, h5.length]; exact hz, ?_⟩
        have m : Mv A A H1 (upd H1 a (.lst (xs ++ ws))) := Mv.write (by rw [ha]; exact fun z => by cases z) (mut_lst h1')
        exact k' _ A0 H0 γ σ _ D ((er.same' s1).write hd e1 ha (mut_lst h1') ⟨_, upd_same, ((h2.same s1).append h5).mv m⟩) qd
    · exact qd.elim
  · exact qd.elim
/-- x[i] = e -/
def setR (ds : List PyData) (i d : PyData) : Res (List PyData) := match i with
  | .int k => match ixN ds.length k with
    | some j => .ok (ds.set j d)
    | none => .stuck
  | _ => .stuck

/-! ### what is walked -/
structure Wk (κ : Kx) (J : It) (δ : Gs) (ds : List PyData) : Prop where
  go : ∀ A i d H, Tr A H → GsOk A κ H δ → ds[i]? = some d → J.go i H ∧ ∀ x H', J.yld i H x H' → Same H H' ∧ Rep A κ H' x d
  stop : ∀ A i H, Tr A H → GsOk A κ H δ → ds.length ≤ i → J.stop i H
abbrev OkI (X : Cx) (A : Ow) (H : Hp) (R : It → Hp → Prop) (ds : List PyData) : Prop := ∀ J δ H', Same H H' → GsOk A (kx X) H' δ → Wk (kx X) J δ ds → R J H'
def GI (X : Cx) (E : XK) (tg iter : Expr) (ρ : List Sl) (r : Res (List PyData)) : Prop :=
  ∀ A σ H R, EV A (kx X) ρ σ H → PostR X E H r (OkI X A H R) → WI X tg iter σ H R
/-- the target, then the body -/
def GB {α : Type} (X : Cx) (E : XK) (tg : Expr) (body : List Stmt) (ρ : List Sl) (d : PyData) (sh : α → List Sl) (r : Res (Out α)) : Prop :=
  ∀ A A0 H0 γ σ H D v, ERA A A0 H0 (kx X) γ ρ σ H → Rep A (kx X) H v d → PostR X E H0 r (OkS X A0 H0 γ sh D) → WG X tg v σ H fun σ2 H2 => WSs X body D σ2 H2
theorem gb_name {i : Nat} {d : PyData} {r : Res (Out α)} (hN : X.N.Nodup) (h : GSs X E body (ρ.set i (.fz d)) sh r) (hi : X.N[i]? = some x := by rfl) (hx : Loc X.env.scope x := by first | exact .inl rfl | exact .inr rfl)
    (hf : X.fn x = true ∨ X.env.scope.names.lookup x = some .local := by first | exact .inl rfl | exact .inr rfl) : GB X E (.Name x pos) body ρ d sh r :=
  fun A A0 H0 γ σ H D v er rv q => ⟨_, pg_name hN hi hx hf, h A0 H0 γ _ H D ⟨A, er.set_fz rv⟩ q⟩
theorem gss_for {f : PyData → β → Res (Out β)} {k : β → Res (Out α)} (a0 : β) (hp : PassesOwn (model X.prog X.w) X.A X.env X.xe) (hc : X.calm = true) (hi : GI X E tg iter ρ ri) (hl : Le (sb a0) ρ)
    (hb : ∀ d a, GB X E tg body (sb a) d sb (f d a)) (hk : ∀ a, GSs X E rest (sb a) sh (k a)) (hs : ∀ x, foldedSetIterable iter X.env x = pure x := by intro _; rfl) :
    GSs X E (.For tg iter body [] pos :: rest) ρ sh (ri >>= fun ds => seqR (forD ds a0 f) k) := fun A0 H0 γ σ H D er q => by
  obtain ⟨A, er⟩ := er
  refine wss_cons (ps_for hp hc wi_ok wg_ok wss_ok hs) ?_
  refine hi A σ H _ er.ev (q.bind.imp er.same fun ds qd J δ H1 s1 gd wk => ?_)
  have er1 : ER A0 H0 (kx X) (γ ++ δ) (sb a0) σ H1 := by
    have e := er.same' s1
    exact ER.le ⟨A, e.ev, e.gs.app gd, e.sub, e.same, e.new, e.t0⟩ hl
  refine ⟨fun i m σ H => ∃ a, i + m = ds.length ∧ ER A0 H0 (kx X) (γ ++ δ) (sb a) σ H ∧ PostR X E H0 (seqR (forD (ds.drop i) a f) k) (OkS X A0 H0 γ sh D), ⟨ds.length, a0, Nat.zero_add _, er1, qd⟩, fun i m σ H2 ⟨a, em, er2, q2⟩ => ?_⟩
  obtain ⟨A2, er2⟩ := er2
  have gd2 : GsOk A2 (kx X) H2 δ := fun g hg => er2.gs g (List.mem_append_right _ hg)
  by_cases hi : i < ds.length
  · obtain ⟨go, yl⟩ := wk.go A2 i ds[i] H2 er2.ev.tr gd2 (List.getElem?_eq_getElem hi)
    refine .inr ⟨go, fun σ' H' => ∃ a', ER A0 H0 (kx X) (γ ++ δ) (sb a') σ' H' ∧ PostR X E H0 (seqR (forD (ds.drop (i + 1)) a' f) k) (OkS X A0 H0 γ sh D), fun σ' H' ⟨a', h1, h2⟩ => ⟨m - 1, by omega, a', by omega, h1, h2⟩, fun v H' hy => ?_⟩
    obtain ⟨s2, rv⟩ := yl v H' hy
    rw [List.drop_eq_getElem_cons hi] at q2
    have er3 := er2.same' s2
    have hb' := hb ds[i] a A2 A0 H0 (γ ++ δ) σ H' { D with nx := fun σ' H' => ∃ a', ER A0 H0 (kx X) (γ ++ δ) (sb a') σ' H' ∧ PostR X E H0 (seqR (forD (ds.drop (i + 1)) a' f) k) (OkS X A0 H0 γ sh D), ct := fun σ' H' => ∃ a', ER A0 H0 (kx X) (γ ++ δ) (sb a') σ' H' ∧ PostR X E H0 (seqR (forD (ds.drop (i + 1)) a' f) k) (OkS X A0 H0 γ sh D), bk := WSs X rest D } v er3 rv
    refine hb' ?_
    have q3 : PostR X E H0 (f ds[i] a) fun o => PostR X E H0 (seqR (match o with | .nx a' => forD (ds.drop (i + 1)) a' f | .rt d => .ok (.rt d)) k) (OkS X A0 H0 γ sh D) := by
      have z : seqR (forD (ds[i] :: ds.drop (i + 1)) a f) k = (f ds[i] a >>= fun o => seqR (match o with | .nx a' => forD (ds.drop (i + 1)) a' f | .rt d => .ok (.rt d)) k) := by
        show seqR (seqR (f ds[i] a) _) k = _
        cases f ds[i] a with
        | ok o => cases o <;> rfl
        | err c => rfl
        | stuck => rfl
      rw [z] at q2
      exact q2.bind
    refine q3.mono fun o qo => ?_
    cases o with
    | nx a' => exact fun σ' H' er' => ⟨a', er', qo⟩
    | rt d => exact qo
  · refine .inl ⟨wk.stop A2 i H2 er2.ev.tr gd2 (by omega), ?_⟩
    rw [List.drop_eq_nil_of_le (by omega)] at q2
    exact hk a A0 H0 γ σ H2 D ⟨A2, er2.ev, fun g hg => er2.gs g (List.mem_append_left _ hg), er2.sub, er2.same, er2.new, er2.t0⟩ q2
end
end Dt

namespace Dt
open PySem PySem.Spec PyProof.Rows L2
section
variable {α β : Type} {X : Cx} {E : XK} {ρ ρ' : List Sl} {e a b c iter tg : Expr} {es : List Expr} {r ra rb rc : Res PyData} {rt : Res Bool} {ri rs : Res (List PyData)} {pos p' : Pos} {sh : α → List Sl} {sb : β → List Sl} {x : Str} {rest body : List Stmt}

/-! ### what is walked -/
theorem gs_one {A : Ow} {κ : Kx} {H : Hp} {v : V} {d : PyData} (h : Rep A κ H v d) : GsOk A κ H [.rep v d] := fun g hg => by
  cases List.mem_singleton.mp hg
  exact h
theorem wk_list {κ : Kx} {p : Addr} {ds : List PyData} : Wk κ (Itl κ.K p) [.rep (.ref p) (.list ds)] ds where
  go := fun A i d H tr g e => by
    have h : Rep A κ H (.ref p) (.list ds) := g _ List.mem_cons_self
    cases h with
    | lst h1 h2 h3 =>
      obtain ⟨v, h4, h5⟩ := h3.get e
      refine ⟨⟨_, v, .of h1, h4⟩, fun x H' y => ?_⟩
      obtain ⟨rfl, y⟩ := y
      have z := y _ (.of h1)
      rw [h4] at z
      cases z
      exact ⟨Same.refl _, h5⟩
  stop := fun A i H tr g e => by
    have h : Rep A κ H (.ref p) (.list ds) := g _ List.mem_cons_self
    cases h with
    | lst h1 h2 h3 => exact ⟨_, .of h1, by rw [h3.length]; exact e⟩
theorem wk_tup {κ : Kx} {p : Addr} {ds : List PyData} : Wk κ (Itt κ.K p) [.rep (.ref p) (.tuple ds)] ds where
  go := fun A i d H tr g e => by
    have h : Rep A κ H (.ref p) (.tuple ds) := g _ List.mem_cons_self
    cases h with
    | tup h1 h3 =>
      obtain ⟨v, h4, h5⟩ := h3.get e
      refine ⟨⟨_, v, h1, h4⟩, fun x H' y => ?_⟩
      obtain ⟨rfl, y⟩ := y
      have z := y _ h1
      rw [h4] at z
      cases z
      exact ⟨Same.refl _, h5⟩
  stop := fun A i H tr g e => by
    have h : Rep A κ H (.ref p) (.tuple ds) := g _ List.mem_cons_self
    cases h with
    | tup h1 h3 => exact ⟨_, h1, by rw [h3.length]; exact e⟩
def rangeL (lo : Int) (n : Nat) : List PyData := (List.range n).map fun i => .int (lo + (i : Nat))
theorem wk_rng {κ : Kx} {lo : Int} {n : Nat} : Wk κ (Itr lo n) [] (rangeL lo n) where
  go := fun A i d H tr g e => by
    have h : i < n := by
      have := (List.getElem?_eq_some_iff.mp e).1
      simpa [rangeL] using this
    have e' : d = .int (lo + (i : Nat)) := by
      rw [rangeL, List.getElem?_map, List.getElem?_range h] at e
      exact (Option.some.inj e).symm
    subst e'
    refine ⟨h, fun x H' y => ?_⟩
    obtain ⟨rfl, rfl⟩ := y
    exact ⟨Same.refl _, .int _⟩
  stop := fun A i H tr g e => by
    rw [rangeL, List.length_map, List.length_range] at e
    exact e
def seqOf : PyData → Res (List PyData)
  | .list xs => .ok xs
  | .tuple xs => .ok xs
  | _ => .stuck
theorem pi_or {wi wi' : TI} (h : PI X tg iter wi) (h' : PI X tg iter wi') : PI X tg iter (fun σ H R => wi σ H R ∨ wi' σ H R) :=
  ⟨fun pins s σ H R I q => q.elim (h.run pins s σ H R I) (h'.run pins s σ H R I)⟩
theorem gi_seq (h : GE X E iter ρ r) : GI X E tg iter ρ (r >>= seqOf) := fun A σ H R ev q => by
  cases r with
  | ok d =>
    cases d with
    | list ds =>
      refine ⟨_, pi_list we_ok, ?_⟩
      refine h A σ H _ ev fun v H1 s1 rv => ?_
      cases rv with
      | lst h1 h2 h3 => exact ⟨_, rfl, ⟨_, .of h1⟩, q _ _ H1 s1 (gs_one (.lst h1 h2 h3)) wk_list⟩
    | tuple ds =>
      refine ⟨_, pi_tup we_ok, ?_⟩
      refine h A σ H _ ev fun v H1 s1 rv => ?_
      cases rv with
      | tup h1 h2 => exact ⟨_, rfl, ⟨_, h1⟩, q _ _ H1 s1 (gs_one (.tup h1 h2)) wk_tup⟩
    | _ => exact q.elim
  | err c => exact ⟨_, pi_list we_ok, h A σ H _ ev q⟩
  | stuck => exact q.elim
def rng1 : List PyData → Res (List PyData)
  | [.int j] => if -(2 ^ 62) ≤ j ∧ j < 2 ^ 62 then .ok (rangeL 0 j.toNat) else .stuck
  | _ => .stuck
def rng2 : List PyData → Res (List PyData)
  | [.int i, .int j] => if (-(2 ^ 62) ≤ i ∧ i < 2 ^ 62) ∧ -(2 ^ 62) ≤ j ∧ j < 2 ^ 62 then .ok (rangeL i (j - i).toNat) else .stuck
  | _ => .stuck
theorem gi_rng1 {p : Pos} (hg : Gl X "range") (hm : X.mg "range" = none) (h : GA X E [a] ρ rs) (hs : starEach [a] X.env = [(false, eval a X.env)] := by rfl) : GI X E tg (.Call (.Name "range" p) [a] [] pos) ρ (rs >>= rng1) := fun A σ H R ev q => by
  refine ⟨_, pi_range1 hg hm wa_ok hs, ?_⟩
  refine h A σ H _ ev (q.bind.mono fun ds qd vs H1 s1 rv => ?_)
  unfold rng1 at qd
  split at qd
  · cases rv with
    | cons r1 t =>
      cases t
      cases r1
      split at qd
      · rename_i hz
        exact ⟨_, rfl, hz.1, hz.2, qd _ _ H1 s1 (fun g hg => by cases hg) wk_rng⟩
      · exact qd.elim
  · exact qd.elim
theorem gi_rng2 {p : Pos} (hg : Gl X "range") (hm : X.mg "range" = none) (h : GA X E [a, b] ρ rs) (hs : starEach [a, b] X.env = [(false, eval a X.env), (false, eval b X.env)] := by rfl) (hs2 : starEach [b] X.env = [(false, eval b X.env)] := by rfl) : GI X E tg (.Call (.Name "range" p) [a, b] [] pos) ρ (rs >>= rng2) := fun A σ H R ev q => by
  refine ⟨_, pi_range2 hg hm wa_ok hs hs2, ?_⟩
  refine h A σ H _ ev (q.bind.mono fun ds qd vs H1 s1 rv => ?_)
  unfold rng2 at qd
  split at qd
  · cases rv with
    | cons r1 t =>
      cases t with
      | cons r2 t =>
        cases t
        cases r1
        cases r2
        split at qd
        · rename_i hz
          exact ⟨_, _, rfl, ⟨hz.1.1, hz.1.2, hz.2.1, hz.2.2⟩, qd _ _ H1 s1 (fun g hg => by cases hg) wk_rng⟩
        · exact qd.elim
  · exact qd.elim
/-! zip of two lists, of two tuples -/
def zipL (xs ys : List PyData) : List PyData := List.zipWith (fun x y => .tuple [x, y]) xs ys
def zip2 : List PyData → Res (List PyData)
  | [.list xs, .list ys] => .ok (zipL xs ys)
  | [.tuple xs, .tuple ys] => .ok (zipL xs ys)
  | _ => .stuck
theorem zipL_at {xs ys : List PyData} {i : Nat} {d : PyData} (h : (zipL xs ys)[i]? = some d) : ∃ x y, xs[i]? = some x ∧ ys[i]? = some y ∧ d = .tuple [x, y] := by
  rw [zipL, List.getElem?_zipWith] at h
  cases e1 : xs[i]? with
  | none => rw [e1] at h; cases h
  | some x =>
    cases e2 : ys[i]? with
    | none => rw [e1, e2] at h; cases h
    | some y =>
      rw [e1, e2] at h
      exact ⟨x, y, rfl, rfl, (Option.some.inj h).symm⟩
theorem zipL_len (xs ys : List PyData) : (zipL xs ys).length = min xs.length ys.length := by rw [zipL, List.length_zipWith]
theorem gs_two {A : Ow} {κ : Kx} {H : Hp} {v w : V} {d e : PyData} (h : Rep A κ H v d) (k : Rep A κ H w e) : GsOk A κ H [.rep v d, .rep w e] := fun g hg => by
  rcases List.mem_cons.mp hg with z | z
  · cases z; exact h
  · cases List.mem_singleton.mp z; exact k
theorem wk_zip {κ : Kx} {p q : Addr} {xs ys : List PyData} : Wk κ (Itz κ.K p q) [.rep (.ref p) (.list xs), .rep (.ref q) (.list ys)] (zipL xs ys) where
  go := fun A i d H tr g e => by
    obtain ⟨x, y, e1, e2, rfl⟩ := zipL_at e
    have h : Rep A κ H (.ref p) (.list xs) := g _ List.mem_cons_self
    have k : Rep A κ H (.ref q) (.list ys) := g _ (List.mem_cons_of_mem _ List.mem_cons_self)
    cases h with
    | lst h1 h2 h3 =>
      cases k with
      | lst k1 k2 k3 =>
        obtain ⟨v, h4, h5⟩ := h3.get e1
        obtain ⟨w, k4, k5⟩ := k3.get e2
        refine ⟨⟨_, _, v, w, .of h1, .of k1, h4, k4⟩, fun z H' y => ?_⟩
        obtain ⟨T, x', y', rfl, n, rfl, z1, z2⟩ := y
        have w1 := z1 _ (.of h1)
        have w2 := z2 _ (.of k1)
        rw [h4] at w1
        rw [k4] at w2
        cases w1
        cases w2
        exact ⟨same_new n, Rep.new_tup n (.cons h5 (.cons k5 .nil))⟩
  stop := fun A i H tr g e => by
    have h : Rep A κ H (.ref p) (.list xs) := g _ List.mem_cons_self
    have k : Rep A κ H (.ref q) (.list ys) := g _ (List.mem_cons_of_mem _ List.mem_cons_self)
    cases h with
    | lst h1 h2 h3 =>
      cases k with
      | lst k1 k2 k3 =>
        refine ⟨_, _, .of h1, .of k1, ?_⟩
        rw [h3.length, k3.length]
        rw [zipL_len] at e
        omega
theorem wk_zipT {κ : Kx} {p q : Addr} {xs ys : List PyData} : Wk κ (RZ.ItzT κ.K p q) [.rep (.ref p) (.tuple xs), .rep (.ref q) (.tuple ys)] (zipL xs ys) where
  go := fun A i d H tr g e => by
    obtain ⟨x, y, e1, e2, rfl⟩ := zipL_at e
    have h : Rep A κ H (.ref p) (.tuple xs) := g _ List.mem_cons_self
    have k : Rep A κ H (.ref q) (.tuple ys) := g _ (List.mem_cons_of_mem _ List.mem_cons_self)
    cases h with
    | tup h1 h3 =>
      cases k with
      | tup k1 k3 =>
        obtain ⟨v, h4, h5⟩ := h3.get e1
        obtain ⟨w, k4, k5⟩ := k3.get e2
        refine ⟨⟨_, _, v, w, h1, k1, h4, k4⟩, fun z H' y => ?_⟩
        obtain ⟨T, x', y', rfl, n, rfl, z1, z2⟩ := y
        have w1 := z1 _ h1
        have w2 := z2 _ k1
        rw [h4] at w1
        rw [k4] at w2
        cases w1
        cases w2
        exact ⟨same_new n, Rep.new_tup n (.cons h5 (.cons k5 .nil))⟩
  stop := fun A i H tr g e => by
    have h : Rep A κ H (.ref p) (.tuple xs) := g _ List.mem_cons_self
    have k : Rep A κ H (.ref q) (.tuple ys) := g _ (List.mem_cons_of_mem _ List.mem_cons_self)
    cases h with
    | tup h1 h3 =>
      cases k with
      | tup k1 k3 =>
        refine ⟨_, _, h1, k1, ?_⟩
        rw [h3.length, k3.length]
        rw [zipL_len] at e
        omega
theorem gi_zip {p tpos : Pos} {elts : List Expr} {kk : Nat} (hg : Gl X "zip") (hm : X.mg "zip" = none) (h : GA X E [a, b] ρ rs)
    (hs : starEach [a, b] X.env = (false, eval a X.env) :: starEach [b] X.env := by rfl) (hpl : (backTo pos (starEach [b] X.env)).any (·.1) = false := by rfl) :
    GI X E (.Tuple elts kk tpos) (.Call (.Name "zip" p) [a, b] [] pos) ρ (rs >>= zip2) := fun A σ H R ev q => by
  refine ⟨_, RZ.pi_zipA hg hm wa_ok hs hpl, ?_⟩
  refine h A σ H _ ev (q.bind.mono fun ds qd vs H1 s1 rv => ?_)
  unfold zip2 at qd
  split at qd
  · cases rv with
    | cons r1 t =>
      cases t with
      | cons r2 t =>
        cases t
        cases r1 with
        | lst h1 h2 h3 =>
          cases r2 with
          | lst k1 k2 k3 => exact ⟨_, _, _, _, rfl, .inl ⟨.of h1, .of k1, qd _ _ H1 s1 (gs_two (.lst h1 h2 h3) (.lst k1 k2 k3)) wk_zip⟩⟩
  · cases rv with
    | cons r1 t =>
      cases t with
      | cons r2 t =>
        cases t
        cases r1 with
        | tup h1 h3 =>
          cases r2 with
          | tup k1 k3 => exact ⟨_, _, _, _, rfl, .inr ⟨h1, k1, qd _ _ H1 s1 (gs_two (.tup h1 h3) (.tup k1 k3)) wk_zipT⟩⟩
  · exact qd.elim
/-! enumerate of a list -/
def enumL (xs : List PyData) : List PyData := xs.mapIdx fun i x => .tuple [.int (i : Nat), x]
def enum1 : List PyData → Res (List PyData)
  | [.list xs] => .ok (enumL xs)
  | _ => .stuck
theorem enumL_at {xs : List PyData} {i : Nat} {d : PyData} (h : (enumL xs)[i]? = some d) : ∃ x, xs[i]? = some x ∧ d = .tuple [.int (i : Nat), x] := by
  rw [enumL, List.getElem?_mapIdx] at h
  cases e1 : xs[i]? with
  | none => rw [e1] at h; cases h
  | some x =>
    rw [e1] at h
    exact ⟨x, rfl, (Option.some.inj h).symm⟩
theorem wk_enum {κ : Kx} {p : Addr} {xs : List PyData} : Wk κ (Ite κ.K p) [.rep (.ref p) (.list xs)] (enumL xs) where
  go := fun A i d H tr g e => by
    obtain ⟨x, e1, rfl⟩ := enumL_at e
    have h : Rep A κ H (.ref p) (.list xs) := g _ List.mem_cons_self
    cases h with
    | lst h1 h2 h3 =>
      obtain ⟨v, h4, h5⟩ := h3.get e1
      refine ⟨⟨_, v, .of h1, h4⟩, fun z H' y => ?_⟩
      obtain ⟨T, x', rfl, n, rfl, z1⟩ := y
      have w1 := z1 _ (.of h1)
      rw [h4] at w1
      cases w1
      exact ⟨same_new n, Rep.new_tup n (.cons (.int _) (.cons h5 .nil))⟩
  stop := fun A i H tr g e => by
    have h : Rep A κ H (.ref p) (.list xs) := g _ List.mem_cons_self
    cases h with
    | lst h1 h2 h3 => exact ⟨_, .of h1, by rw [h3.length]; simpa [enumL] using e⟩
theorem gi_enum {p tpos : Pos} {elts : List Expr} {kk : Nat} (hg : Gl X "enumerate") (hm : X.mg "enumerate" = none) (h : GA X E [a] ρ rs) (hs : starEach [a] X.env = [(false, eval a X.env)] := by rfl) :
    GI X E (.Tuple elts kk tpos) (.Call (.Name "enumerate" p) [a] [] pos) ρ (rs >>= enum1) := fun A σ H R ev q => by
  refine ⟨_, pi_enum hg hm wa_ok hs, ?_⟩
  refine h A σ H _ ev (q.bind.mono fun ds qd vs H1 s1 rv => ?_)
  unfold enum1 at qd
  split at qd
  · cases rv with
    | cons r1 t =>
      cases t
      cases r1 with
      | lst h1 h2 h3 => exact ⟨_, _, rfl, .of h1, qd _ _ H1 s1 (gs_one (.lst h1 h2 h3)) wk_enum⟩
  · exact qd.elim

/-! ### targets of several names -/
def unp2 {γ : Type} (d : PyData) (k : PyData → PyData → Res γ) : Res γ := match d with
  | .tuple [a, b] => k a b
  | _ => .stuck
def unp3 {γ : Type} (d : PyData) (k : PyData → PyData → PyData → Res γ) : Res γ := match d with
  | .tuple [a, b, c] => k a b c
  | _ => .stuck
def unp4 {γ : Type} (d : PyData) (k : PyData → PyData → PyData → PyData → Res γ) : Res γ := match d with
  | .tuple [a, b, c, e] => k a b c e
  | _ => .stuck
def unp5 {γ : Type} (d : PyData) (k : PyData → PyData → PyData → PyData → PyData → Res γ) : Res γ := match d with
  | .tuple [a, b, c, e, f] => k a b c e f
  | _ => .stuck
@[simp] theorem unp2_mk {γ : Type} (a b : PyData) (k : PyData → PyData → Res γ) : unp2 (.tuple [a, b]) k = k a b := rfl
@[simp] theorem unp3_mk {γ : Type} (a b c : PyData) (k : PyData → PyData → PyData → Res γ) : unp3 (.tuple [a, b, c]) k = k a b c := rfl
@[simp] theorem unp4_mk {γ : Type} (a b c e : PyData) (k : PyData → PyData → PyData → PyData → Res γ) : unp4 (.tuple [a, b, c, e]) k = k a b c e := rfl
@[simp] theorem unp5_mk {γ : Type} (a b c e f : PyData) (k : PyData → PyData → PyData → PyData → PyData → Res γ) : unp5 (.tuple [a, b, c, e, f]) k = k a b c e f := rfl
/-- a target: what the slots are behind it -/
def GG (X : Cx) (tg : Expr) (ds : List PyData) (ρ ρ' : List Sl) : Prop :=
  ∀ A A0 H0 γ σ H Q v, ERA A A0 H0 (kx X) γ ρ σ H → Rep A (kx X) H v (.tuple ds) → (∀ σ', ERA A A0 H0 (kx X) γ ρ' σ' H → Q σ' H) → WG X tg v σ H Q
/-- the target in a comprehension's block -/
inductive Bs (X : Cx) : List Expr → List PyData → List Sl → List Sl → Prop
  | nil {ρ : List Sl} : Bs X [] [] ρ ρ
  | cons {i : Nat} {x : Str} {p : Pos} {es : List Expr} {d : PyData} {ds : List PyData} {ρ ρ' : List Sl} (hi : X.N[i]? = some x) (hx : Loc X.env.scope x) (hf : X.fn x = true ∨ X.env.scope.names.lookup x = some .local) :
      Bs X es ds (ρ.set i (.fz d)) ρ' → Bs X (.Name x p :: es) (d :: ds) ρ ρ'
def WGs (X : Cx) (es : List Expr) : TGs := fun vs σ H Q => ∃ t, PGs X es t ∧ t vs σ H Q
theorem wgs_ok {X : Cx} {es : List Expr} : PGs X es (WGs X es) := ⟨fun pins s σ H vs us Q I r ⟨t, h, q⟩ => h.run pins s σ H vs us Q I r q⟩
theorem bs_run {A A0 : Ow} {H0 : Hp} {γ : Gs} {H : Hp} {Q : L2.St → Hp → Prop} (hN : X.N.Nodup) : ∀ {es : List Expr} {ds : List PyData} {ρ ρ' : List Sl} {σ : L2.St} {vs : List V}, Bs X es ds ρ ρ' → ERA A A0 H0 (kx X) γ ρ σ H → Reps A (kx X) H vs ds →
    (∀ σ', ERA A A0 H0 (kx X) γ ρ' σ' H → Q σ' H) → WGs X es vs σ H Q
  | _, _, _, _, σ, _, .nil, er, .nil, q => ⟨_, pgs_nil, rfl, q σ er⟩
  | _, _, _, _, σ, _, .cons hi hx hf t, er, .cons r rs, q => ⟨_, pgs_cons (pg_name hN hi hx hf) wgs_ok, _, _, rfl, bs_run hN t (er.set_fz r) rs q⟩
theorem bs_ev {A : Ow} {H : Hp} {Q : L2.St → Hp → Prop} (hN : X.N.Nodup) : ∀ {es : List Expr} {ds : List PyData} {ρ ρ' : List Sl} {σ : L2.St} {vs : List V}, Bs X es ds ρ ρ' → EV A (kx X) ρ σ H → Reps A (kx X) H vs ds →
    (∀ σ', EV A (kx X) ρ' σ' H → Q σ' H) → WGs X es vs σ H Q
  | _, _, _, _, σ, _, .nil, er, .nil, q => ⟨_, pgs_nil, rfl, q σ er⟩
  | _, _, _, _, σ, _, .cons hi hx hf t, er, .cons r rs, q => ⟨_, pgs_cons (pg_name hN hi hx hf) wgs_ok, _, _, rfl, bs_ev hN t (er.set_fz r) rs q⟩
theorem tup_go {ds : List PyData} {r : Res (Out α)} {kt : Nat} (hN : X.N.Nodup) (hc : X.calm = true) (hn : (assignEach es X.env).length = ds.length) (hst : (assignEach es X.env).findIdx? (·.1) = none) (b : Bs X es ds ρ ρ') (h : GSs X E body ρ' sh r) :
    GB X E (.Tuple es kt pos) body ρ (.tuple ds) sh r := fun A A0 H0 γ σ H D v er rv q => by
  cases rv with
  | tup h1 h2 => exact ⟨_, pg_tup hc wgs_ok hn hst, _, _, rfl, h1, by rw [h2.length], bs_run hN b er h2 fun σ' er' => h A0 H0 γ σ' H D ⟨A, er'⟩ q⟩
theorem gb_tup2 {d : PyData} {i j : Nat} {x y : Str} {px py : Pos} {kt : Nat} {k : PyData → PyData → Res (Out α)} (hN : X.N.Nodup) (hc : X.calm = true) (h : ∀ a b, GSs X E body ((ρ.set i (.fz a)).set j (.fz b)) sh (k a b))
    (hi : X.N[i]? = some x := by rfl) (hj : X.N[j]? = some y := by rfl) (hx : Loc X.env.scope x := by first | exact .inl rfl | exact .inr rfl) (hy : Loc X.env.scope y := by first | exact .inl rfl | exact .inr rfl)
    (hf : X.fn x = true ∨ X.env.scope.names.lookup x = some .local := by first | exact .inl rfl | exact .inr rfl) (hg : X.fn y = true ∨ X.env.scope.names.lookup y = some .local := by first | exact .inl rfl | exact .inr rfl)
    (hn : (assignEach [.Name x px, .Name y py] X.env).length = 2 := by rfl) (hst : (assignEach [.Name x px, .Name y py] X.env).findIdx? (·.1) = none := by rfl) :
    GB X E (.Tuple [.Name x px, .Name y py] kt pos) body ρ d sh (unp2 d k) := fun A A0 H0 γ σ H D v er rv q => by
  unfold unp2 at q
  split at q
  · exact tup_go hN hc hn hst (.cons hi hx hf (.cons hj hy hg .nil)) (h _ _) A A0 H0 γ σ H D v er rv q
  · exact q.elim
theorem gb_tup3 {d : PyData} {i j l : Nat} {x y z : Str} {px py pz : Pos} {kt : Nat} {k : PyData → PyData → PyData → Res (Out α)} (hN : X.N.Nodup) (hc : X.calm = true) (h : ∀ a b c, GSs X E body (((ρ.set i (.fz a)).set j (.fz b)).set l (.fz c)) sh (k a b c))
    (hi : X.N[i]? = some x := by rfl) (hj : X.N[j]? = some y := by rfl) (hl : X.N[l]? = some z := by rfl) (hx : Loc X.env.scope x := by first | exact .inl rfl | exact .inr rfl) (hy : Loc X.env.scope y := by first | exact .inl rfl | exact .inr rfl) (hz : Loc X.env.scope z := by first | exact .inl rfl | exact .inr rfl)
    (hf : X.fn x = true ∨ X.env.scope.names.lookup x = some .local := by first | exact .inl rfl | exact .inr rfl) (hg : X.fn y = true ∨ X.env.scope.names.lookup y = some .local := by first | exact .inl rfl | exact .inr rfl) (hh : X.fn z = true ∨ X.env.scope.names.lookup z = some .local := by first | exact .inl rfl | exact .inr rfl)
    (hn : (assignEach [.Name x px, .Name y py, .Name z pz] X.env).length = 3 := by rfl) (hst : (assignEach [.Name x px, .Name y py, .Name z pz] X.env).findIdx? (·.1) = none := by rfl) :
    GB X E (.Tuple [.Name x px, .Name y py, .Name z pz] kt pos) body ρ d sh (unp3 d k) := fun A A0 H0 γ σ H D v er rv q => by
  unfold unp3 at q
  split at q
  · exact tup_go hN hc hn hst (.cons hi hx hf (.cons hj hy hg (.cons hl hz hh .nil))) (h _ _ _) A A0 H0 γ σ H D v er rv q
  · exact q.elim
theorem gb_tup4 {d : PyData} {i j l m : Nat} {x y z w : Str} {px py pz pw : Pos} {kt : Nat} {k : PyData → PyData → PyData → PyData → Res (Out α)} (hN : X.N.Nodup) (hc : X.calm = true) (h : ∀ a b c e, GSs X E body ((((ρ.set i (.fz a)).set j (.fz b)).set l (.fz c)).set m (.fz e)) sh (k a b c e))
    (hi : X.N[i]? = some x := by rfl) (hj : X.N[j]? = some y := by rfl) (hl : X.N[l]? = some z := by rfl) (hm : X.N[m]? = some w := by rfl) (hx : Loc X.env.scope x := by first | exact .inl rfl | exact .inr rfl) (hy : Loc X.env.scope y := by first | exact .inl rfl | exact .inr rfl) (hz : Loc X.env.scope z := by first | exact .inl rfl | exact .inr rfl) (hw : Loc X.env.scope w := by first | exact .inl rfl | exact .inr rfl)
    (hf : X.fn x = true ∨ X.env.scope.names.lookup x = some .local := by first | exact .inl rfl | exact .inr rfl) (hg : X.fn y = true ∨ X.env.scope.names.lookup y = some .local := by first | exact .inl rfl | exact .inr rfl) (hh : X.fn z = true ∨ X.env.scope.names.lookup z = some .local := by first | exact .inl rfl | exact .inr rfl) (hk : X.fn w = true ∨ X.env.scope.names.lookup w = some .local := by first | exact .inl rfl | exact .inr rfl)
    (hn : (assignEach [.Name x px, .Name y py, .Name z pz, .Name w pw] X.env).length = 4 := by rfl) (hst : (assignEach [.Name x px, .Name y py, .Name z pz, .Name w pw] X.env).findIdx? (·.1) = none := by rfl) :
    GB X E (.Tuple [.Name x px, .Name y py, .Name z pz, .Name w pw] kt pos) body ρ d sh (unp4 d k) := fun A A0 H0 γ σ H D v er rv q => by
  unfold unp4 at q
  split at q
  · exact tup_go hN hc hn hst (.cons hi hx hf (.cons hj hy hg (.cons hl hz hh (.cons hm hw hk .nil)))) (h _ _ _ _) A A0 H0 γ σ H D v er rv q
  · exact q.elim
theorem gb_tup5 {d : PyData} {i j l m n : Nat} {x y z w u : Str} {px py pz pw pu : Pos} {kt : Nat} {k : PyData → PyData → PyData → PyData → PyData → Res (Out α)} (hN : X.N.Nodup) (hc : X.calm = true) (h : ∀ a b c e f, GSs X E body (((((ρ.set i (.fz a)).set j (.fz b)).set l (.fz c)).set m (.fz e)).set n (.fz f)) sh (k a b c e f))
    (hi : X.N[i]? = some x := by rfl) (hj : X.N[j]? = some y := by rfl) (hl : X.N[l]? = some z := by rfl) (hm : X.N[m]? = some w := by rfl) (hn' : X.N[n]? = some u := by rfl) (hx : Loc X.env.scope x := by first | exact .inl rfl | exact .inr rfl) (hy : Loc X.env.scope y := by first | exact .inl rfl | exact .inr rfl) (hz : Loc X.env.scope z := by first | exact .inl rfl | exact .inr rfl) (hw : Loc X.env.scope w := by first | exact .inl rfl | exact .inr rfl) (hu : Loc X.env.scope u := by first | exact .inl rfl | exact .inr rfl)
    (hf : X.fn x = true ∨ X.env.scope.names.lookup x = some .local := by first | exact .inl rfl | exact .inr rfl) (hg : X.fn y = true ∨ X.env.scope.names.lookup y = some .local := by first | exact .inl rfl | exact .inr rfl) (hh : X.fn z = true ∨ X.env.scope.names.lookup z = some .local := by first | exact .inl rfl | exact .inr rfl) (hk : X.fn w = true ∨ X.env.scope.names.lookup w = some .local := by first | exact .inl rfl | exact .inr rfl) (hku : X.fn u = true ∨ X.env.scope.names.lookup u = some .local := by first | exact .inl rfl | exact .inr rfl)
    (hn : (assignEach [.Name x px, .Name y py, .Name z pz, .Name w pw, .Name u pu] X.env).length = 5 := by rfl) (hst : (assignEach [.Name x px, .Name y py, .Name z pz, .Name w pw, .Name u pu] X.env).findIdx? (·.1) = none := by rfl) :
    GB X E (.Tuple [.Name x px, .Name y py, .Name z pz, .Name w pw, .Name u pu] kt pos) body ρ d sh (unp5 d k) := fun A A0 H0 γ σ H D v er rv q => by
  unfold unp5 at q
  split at q
  · exact tup_go hN hc hn hst (.cons hi hx hf (.cons hj hy hg (.cons hl hz hh (.cons hm hw hk (.cons hn' hu hku .nil))))) (h _ _ _ _ _) A A0 H0 γ σ H D v er rv q
  · exact q.elim
/-- a, b = e -/
theorem gss_unp {r' : PyData → Res (Out α)} {kt : Nat} {es : List Expr} (h : GE X E e ρ r) (k : ∀ d, GB X E (.Tuple es kt p') rest ρ d sh (r' d)) (hs : swapsWithSole [.Tuple es kt p'] e pos.line X.env = pure false := by rfl) (hw : swappedStores [.Tuple es kt p'] e X.env = pure none := by rfl)
    (h1 : (assignEach [.Tuple es kt p'] X.env).map (·.2) = [assign (.Tuple es kt p') X.env] := by rfl) : GSs X E (.Assign [.Tuple es kt p'] e pos :: rest) ρ sh (r >>= r') := fun A0 H0 γ σ H D er q => by
  obtain ⟨A, er⟩ := er
  refine wss_cons (ps_asg we_ok wg_ok hs hw h1) ?_
  refine h A σ H _ er.ev (q.bind.imp er.same fun d qd v H1 s1 rv => ?_)
  exact k d A A0 H0 γ σ H1 D v (er.same' s1) rv qd

/-! ### comprehensions -/
abbrev Blk (X : Cx) (scope : Scope) (s : Shared) (H : Hp) (C : Addr) (cl : List (Str × Addr)) (fp : List Addr) : Cx := X.blk s H scope (compEnvC scope cl C X.env) fp
/-- slots forgotten -/
def wipeR (ρ : List Sl) : List Nat → List Sl
  | [] => ρ
  | v :: vs => (wipeR ρ vs).set v .no
theorem wipeR_len (ρ : List Sl) : ∀ vs : List Nat, (wipeR ρ vs).length = ρ.length
  | [] => rfl
  | v :: vs => by unfold wipeR; rw [List.length_set, wipeR_len ρ vs]
theorem wipeR_at {ρ : List Sl} {i : Nat} : ∀ vs : List Nat, (wipeR ρ vs).getD i .no = .no ∨ ((wipeR ρ vs).getD i .no = ρ.getD i .no ∧ i ∉ vs)
  | [] => .inr ⟨rfl, by simp⟩
  | v :: vs => by
    unfold wipeR
    by_cases e : v = i
    · subst e
      by_cases h : v < (wipeR ρ vs).length
      · exact .inl (getD_set_same h)
      · exact .inl (by simp [List.getD, h])
    · rw [getD_set_ne e]
      rcases wipeR_at (i := i) vs with h | ⟨h, n⟩
      · exact .inl h
      · exact .inr ⟨h, by simp; exact ⟨fun z => e z.symm, n⟩⟩
theorem EV.wipe {A : Ow} {κ : Kx} {σ : L2.St} {H : Hp} (ev : EV A κ ρ σ H) (vs : List Nat) : EV A κ (wipeR ρ vs) (L2.wipe σ vs) H := by
  refine ⟨by rw [wipe_length, wipeR_len, ev.len], ev.tr, fun i => ?_⟩
  rcases wipeR_at (ρ := ρ) (i := i) vs with h | ⟨h, n⟩
  · rw [h]; trivial
  · rw [h, wipe_out n]; exact ev.sl i
/-- nothing is raised within -/
def hard {γ : Type} : Res γ → Res γ
  | .ok a => .ok a
  | _ => .stuck
@[simp] theorem hard_ok {γ : Type} (a : γ) : hard (.ok a) = .ok a := rfl
@[simp] theorem hard_stuck {γ : Type} : hard (.stuck : Res γ) = .stuck := rfl
@[simp] theorem hard_err {γ : Type} (c : Str) : hard (.err c : Res γ) = .stuck := rfl
theorem hard_of {γ : Type} {r : Res γ} {p : γ → Prop} {H : Hp} (h : PostR X E H (hard r) p) : ∃ a, r = .ok a ∧ p a := by
  cases r with
  | ok a => exact ⟨a, rfl, h⟩
  | err c => exact h.elim
  | stuck => exact h.elim
/-- a comprehension: of each item an element, or none -/
def compF : List PyData → (PyData → Res (Option PyData)) → Res (List PyData)
  | [], _ => .ok []
  | d :: ds, g => hard (g d) >>= fun o => compF ds g >>= fun ys => .ok (match o with | some y => y :: ys | none => ys)
def compD (ds : List PyData) (g : PyData → Res (Option PyData)) : Res (List PyData) := if ds.length ≤ sizeLine then compF ds g else .stuck
def GTs (X : Cx) (E : XK) (ifs : List Expr) (ρ : List Sl) (r : Res Bool) : Prop :=
  ∀ A σ H Q, EV A (kx X) ρ σ H → PostR X E H r (fun b => ∀ H', Same H H' → Q b H') → ∃ t, PTs X ifs t ∧ t σ H Q
theorem gts_nil : GTs X E [] ρ (.ok true) := fun A σ H Q ev q => ⟨_, pts_nil, q H (Same.refl _)⟩
theorem gts_one (h : GT X E c ρ rt) : GTs X E [c] ρ rt := fun A σ H Q ev q => ⟨_, pts_one wt_ok, h A σ H Q ev q⟩
def OkC (X : Cx) (A : Ow) (H : Hp) (Q : Option V → Hp → Prop) : Option PyData → Prop
  | some y => ∀ w H', Same H H' → Rep A (kx X) H' w y → Q (some w) H'
  | none => ∀ H', Same H H' → Q none H'
/-- one turn: target, test, element -/
def GC (X : Cx) (scope : Scope) (vs : List Nat) (tg : Expr) (ifs : List Expr) (elt : Expr) (ρ : List Sl) (d : PyData) (r : Res (Option PyData)) : Prop :=
  ∀ A σ H v Q, EV A (kx X) (wipeR ρ vs) (L2.wipe σ vs) H → Rep A (kx X) H v d → PostR X L2.E0 H r (OkC X A H Q) →
    ∀ s H0 C cl fp, WG (Blk X scope s H0 C cl fp) tg v (L2.wipe σ vs) H fun σ2 H2 => L2.wipe σ2 vs = L2.wipe σ vs ∧
      ∀ s H0 C cl fp, ∃ t, PTs (Blk X scope s H0 C cl fp) ifs t ∧ t σ2 H2 fun b H3 => if b = true then ∀ s H0 C cl fp, WE (Blk X scope s H0 C cl fp) elt σ2 H3 (fun w H4 => Q (some w) H4) else Q none H3
theorem wipe_set {σ : L2.St} {i : Nat} {x : Option V} : ∀ {vs : List Nat}, i ∈ vs → L2.wipe (σ.set i x) vs = L2.wipe σ vs
  | v :: vs, h => by
    unfold L2.wipe
    by_cases e : v = i
    · subst e
      by_cases h2 : v ∈ vs
      · rw [wipe_set h2]
      · have g : ∀ {vs : List Nat}, v ∉ vs → L2.wipe (σ.set v x) vs = (L2.wipe σ vs).set v x := fun {vs} => by
          induction vs with
          | nil => exact fun _ => rfl
          | cons u us ih =>
            intro hn
            have h3 : v ≠ u := fun e => hn (e ▸ List.mem_cons_self)
            unfold L2.wipe
            rw [ih (fun z => hn (List.mem_cons_of_mem _ z)), List.set_comm _ _ h3]
        rw [g h2, List.set_set]
    · rw [wipe_set ((List.mem_cons.mp h).resolve_left (Ne.symm e))]
theorem wipe_wipe (σ : L2.St) : ∀ vs : List Nat, L2.wipe (L2.wipe σ vs) vs = L2.wipe σ vs
  | [] => rfl
  | v :: vs => by
    show (L2.wipe ((L2.wipe σ vs).set v none) vs).set v none = (L2.wipe σ vs).set v none
    by_cases h : v ∈ vs
    · rw [wipe_set h, wipe_wipe σ vs]
    · have g : ∀ {τ : L2.St} {vs : List Nat}, v ∉ vs → L2.wipe (τ.set v none) vs = (L2.wipe τ vs).set v none := fun {τ vs} => by
        induction vs with
        | nil => exact fun _ => rfl
        | cons u us ih =>
          intro hn
          have h3 : v ≠ u := fun e => hn (e ▸ List.mem_cons_self)
          unfold L2.wipe
          rw [ih (fun z => hn (List.mem_cons_of_mem _ z)), List.set_comm _ _ h3]
      rw [g h, wipe_wipe σ vs, List.set_set]
/-- behind the target -/
theorem gc_tail {scope : Scope} {ifs : List Expr} {elt : Expr} {r : Res PyData} {A : Ow} {σ : L2.St} {H : Hp} {Q : Option V → Hp → Prop} (ev : EV A (kx X) ρ' σ H)
    (ht : ∀ s H0 C cl fp, GTs (Blk X scope s H0 C cl fp) L2.E0 ifs ρ' rt) (he : ∀ s H0 C cl fp, GE (Blk X scope s H0 C cl fp) L2.E0 elt ρ' r)
    (q : PostR X L2.E0 H (rt >>= fun b => if b = true then r >>= fun y => .ok (some y) else .ok none) (OkC X A H Q)) :
    ∀ s H0 C cl fp, ∃ t, PTs (Blk X scope s H0 C cl fp) ifs t ∧ t σ H fun b H3 => if b = true then ∀ s H0 C cl fp, WE (Blk X scope s H0 C cl fp) elt σ H3 (fun w H4 => Q (some w) H4) else Q none H3 := fun s H0 C cl fp => by
  refine ht s H0 C cl fp A σ H _ ev ((PostR.bind q).mono fun b qb H3 s3 => ?_)
  cases b with
  | true => exact iteT fun s H0 C cl fp => he s H0 C cl fp A σ H3 _ (ev.same s3) ((PostR.bind (show PostR X L2.E0 H (r >>= fun y => .ok (some y)) _ from qb)).imp s3 fun y qy w H4 s4 rw => qy w H4 (s3.trans s4) rw)
  | false => exact iteF (qb H3 s3)
theorem gc_name {scope : Scope} {vs : List Nat} {i : Nat} {ifs : List Expr} {elt : Expr} {d : PyData} {r : Res PyData} {p : Pos} (hg : ∀ s H0 C cl fp, PG (Blk X scope s H0 C cl fp) (.Name x p) (gName i)) (hi : i ∈ vs)
    (ht : ∀ s H0 C cl fp, GTs (Blk X scope s H0 C cl fp) L2.E0 ifs ((wipeR ρ vs).set i (.fz d)) rt) (he : ∀ s H0 C cl fp, GE (Blk X scope s H0 C cl fp) L2.E0 elt ((wipeR ρ vs).set i (.fz d)) r) :
    GC X scope vs (.Name x p) ifs elt ρ d (rt >>= fun b => if b = true then r >>= fun y => .ok (some y) else .ok none) := fun A σ H v Q ev rv q s H0 C cl fp => by
  refine ⟨_, hg s H0 C cl fp, ?_⟩
  exact ⟨by rw [wipe_set hi, wipe_wipe], gc_tail (ev.set_fz rv) ht he q⟩
theorem gc_tup2 {scope : Scope} {vs : List Nat} {i j : Nat} {ifs : List Expr} {es : List Expr} {elt : Expr} {d : PyData} {tt : PyData → PyData → Res Bool} {f : PyData → PyData → Res PyData} {p : Pos} {kt : Nat}
    (hg : ∀ s H0 C cl fp, PG (Blk X scope s H0 C cl fp) (.Tuple es kt p) (gTup X.K 2 (gCons (gName i) (gCons (gName j) gNil)))) (hi : i ∈ vs) (hj : j ∈ vs)
    (ht : ∀ a b s H0 C cl fp, GTs (Blk X scope s H0 C cl fp) L2.E0 ifs (((wipeR ρ vs).set i (.fz a)).set j (.fz b)) (tt a b)) (he : ∀ a b s H0 C cl fp, GE (Blk X scope s H0 C cl fp) L2.E0 elt (((wipeR ρ vs).set i (.fz a)).set j (.fz b)) (f a b)) :
    GC X scope vs (.Tuple es kt p) ifs elt ρ d (unp2 d fun a b => tt a b >>= fun z => if z = true then f a b >>= fun y => .ok (some y) else .ok none) := fun A σ H v Q ev rv q s H0 C cl fp => by
  unfold unp2 at q
  split at q
  · rename_i a b
    cases rv with
    | @tup p xs _ h1 h2 =>
      refine ⟨_, hg s H0 C cl fp, p, xs, rfl, h1, by rw [h2.length]; rfl, ?_⟩
      cases h2 with
      | cons r1 t =>
        cases t with
        | cons r2 t =>
          cases t
          exact ⟨_, _, rfl, _, _, rfl, rfl, by rw [wipe_set hj, wipe_set hi, wipe_wipe], gc_tail ((ev.set_fz r1).set_fz r2) (ht _ _) (he _ _) q⟩
  · exact q.elim
theorem gc_tup5 {scope : Scope} {vs : List Nat} {i j k l m : Nat} {ifs : List Expr} {es : List Expr} {elt : Expr} {d : PyData} {tt : PyData → PyData → PyData → PyData → PyData → Res Bool} {f : PyData → PyData → PyData → PyData → PyData → Res PyData} {p : Pos} {kt : Nat}
    (hg : ∀ s H0 C cl fp, PG (Blk X scope s H0 C cl fp) (.Tuple es kt p) (gTup X.K 5 (gCons (gName i) (gCons (gName j) (gCons (gName k) (gCons (gName l) (gCons (gName m) gNil))))))) (hi : i ∈ vs) (hj : j ∈ vs) (hk : k ∈ vs) (hl : l ∈ vs) (hm : m ∈ vs)
    (ht : ∀ a b c e g s H0 C cl fp, GTs (Blk X scope s H0 C cl fp) L2.E0 ifs ((((((wipeR ρ vs).set i (.fz a)).set j (.fz b)).set k (.fz c)).set l (.fz e)).set m (.fz g)) (tt a b c e g)) (he : ∀ a b c e g s H0 C cl fp, GE (Blk X scope s H0 C cl fp) L2.E0 elt ((((((wipeR ρ vs).set i (.fz a)).set j (.fz b)).set k (.fz c)).set l (.fz e)).set m (.fz g)) (f a b c e g)) :
    GC X scope vs (.Tuple es kt p) ifs elt ρ d (unp5 d fun a b c e g => tt a b c e g >>= fun z => if z = true then f a b c e g >>= fun y => .ok (some y) else .ok none) := fun A σ H v Q ev rv q s H0 C cl fp => by
  unfold unp5 at q
  split at q
  · cases rv with
    | @tup p xs _ h1 h2 =>
      refine ⟨_, hg s H0 C cl fp, p, xs, rfl, h1, by rw [h2.length]; rfl, ?_⟩
      cases h2 with
      | cons r1 t =>
        cases t with
        | cons r2 t =>
          cases t with
          | cons r3 t =>
            cases t with
            | cons r4 t =>
              cases t with
              | cons r5 t =>
                cases t
                exact ⟨_, _, rfl, _, _, rfl, _, _, rfl, _, _, rfl, _, _, rfl, rfl, by rw [wipe_set hm, wipe_set hl, wipe_set hk, wipe_set hj, wipe_set hi, wipe_wipe], gc_tail (((((ev.set_fz r1).set_fz r2).set_fz r3).set_fz r4).set_fz r5) (ht _ _ _ _ _) (he _ _ _ _ _) q⟩
  · exact q.elim
theorem EV.grow {A : Ow} {κ : Kx} {σ : L2.St} {H1 H2 : Hp} {D : Addr} {o : HO} {k : Nat} (ev : EV A κ ρ σ H1) (n : H1 D = none) (s : Same H1 H2) (t : H2 D = some o) : EV (ins A D k) κ ρ σ H2 := by
  have np : A D = none := not_own ev.tr n
  refine ⟨ev.len, fun a h => ?_, fun i => ?_⟩
  · by_cases e : a = D
    · rw [e]; exact ⟨o, t⟩
    · rw [ins_ne e] at h
      obtain ⟨o, z⟩ := ev.tr a h
      exact ⟨o, s _ _ z⟩
  · refine (ev.sl i).mv (.ins (Same.refl _) n s) (fun a o ha ho => ⟨s _ _ ho, ?_⟩) ev.tr
    rw [ins_ne (fun z => by rw [z, np] at ha; cases ha)]
    exact ha
def bG (X : Cx) (scope : Scope) (tg : Expr) : TG := fun v σ H Q => ∀ s H0 C cl fp, WG (Blk X scope s H0 C cl fp) tg v σ H Q
def bT (X : Cx) (scope : Scope) (ifs : List Expr) : TT := fun σ H Q => ∀ s H0 C cl fp, ∃ t, PTs (Blk X scope s H0 C cl fp) ifs t ∧ t σ H Q
def bE (X : Cx) (scope : Scope) (elt : Expr) : TE := fun σ H Q => ∀ s H0 C cl fp, WE (Blk X scope s H0 C cl fp) elt σ H Q
theorem bG_ok {scope : Scope} (s : Shared) (H0 : Hp) (C : Addr) (cl : List (Str × Addr)) (fp : List Addr) : PG (Blk X scope s H0 C cl fp) tg (bG X scope tg) := ⟨fun pins s' σ H v u Q I r h => wg_ok.run pins s' σ H v u Q I r (h s H0 C cl fp)⟩
theorem bT_ok {scope : Scope} {ifs : List Expr} (s : Shared) (H0 : Hp) (C : Addr) (cl : List (Str × Addr)) (fp : List Addr) : PTs (Blk X scope s H0 C cl fp) ifs (bT X scope ifs) := ⟨fun pins s' σ H Q I h => let ⟨t, h1, h2⟩ := h s H0 C cl fp; h1.run pins s' σ H Q I h2⟩
theorem bE_ok {scope : Scope} {elt : Expr} (s : Shared) (H0 : Hp) (C : Addr) (cl : List (Str × Addr)) (fp : List Addr) : PE (Blk X scope s H0 C cl fp) elt (bE X scope elt) := ⟨fun pins s' σ H Q I h => we_ok.run pins s' σ H Q I (h s H0 C cl fp)⟩
theorem comp_run {elt : Expr} {ifs : List Expr} {scope : Scope} {own : List (Str × Nat)} {wi : TI} {g : PyData → Res (Option PyData)} (hi : GI X E tg iter ρ ri) (hb : ∀ d, GC X scope (own.map (·.2)) tg ifs elt ρ d (g d)) {A : Ow} {σ : L2.St} {H : Hp} {Q : VK} (ev : EV A (kx X) ρ σ H)
    (q : PostR X E H (ri >>= fun ds => compD ds g) (OkO X A H Q)) :
    tLc (WI X tg iter) (bG X scope tg) (bT X scope ifs) (bE X scope elt) (own.map (·.2)) σ H Q := by
  refine hi A σ H _ ev (q.bind.mono fun ds qd J δ H1 s1 gd wk D nD => ?_)
  unfold compD at qd
  split at qd
  · rename_i hz
    cases e : compF ds g with
    | err c =>
      exfalso
      have no : ∀ (ds : List PyData) (c : Str), compF ds g ≠ .err c := fun ds => by
        induction ds with
        | nil => exact fun c h => by cases h
        | cons d ds ih =>
          intro c h
          unfold compF at h
          cases e1 : g d with
          | ok o =>
            rw [e1] at h
            cases e2 : compF ds g with
            | ok ys => rw [e2] at h; cases h
            | err c => exact ih c e2
            | stuck => rw [e2] at h; cases h
          | err c => rw [e1] at h; cases h
          | stuck => rw [e1] at h; cases h
      exact no ds c e
    | stuck => rw [e] at qd; exact qd.elim
    | ok total =>
      rw [e] at qd
      refine ⟨fun i m H2 => ∃ acc ys zs, i + m = ds.length ∧ Same H1 H2 ∧ H2 D = some (.lst acc) ∧ Reps (ins A D 0) (kx X) H2 acc ys ∧ compF (ds.drop i) g = .ok zs ∧ ys ++ zs = total ∧ ys.length ≤ i, ⟨ds.length, [], [], total, Nat.zero_add _, same_new nD, upd_same, .nil, e, rfl, Nat.le_refl _⟩, fun i m H2 ⟨acc, ys, zs, em, s2, eD, rs, ez, et, hl⟩ => ?_⟩
      have ev2 : EV (ins A D 0) (kx X) ρ σ H2 := (ev.same s1).grow nD s2 eD
      have gd2 : GsOk (ins A D 0) (kx X) H2 δ := gd.mv (.ins (Same.refl _) nD s2)
      by_cases hi : i < ds.length
      · obtain ⟨go, yl⟩ := wk.go _ i ds[i] H2 ev2.tr gd2 (List.getElem?_eq_getElem hi)
        rw [List.drop_eq_getElem_cons hi] at ez
        unfold compF at ez
        cases e1 : g ds[i] with
        | err c => rw [e1] at ez; cases ez
        | stuck => rw [e1] at ez; cases ez
        | ok o =>
          rw [e1] at ez
          cases e2 : compF (ds.drop (i + 1)) g with
          | err c => rw [e2] at ez; cases ez
          | stuck => rw [e2] at ez; cases ez
          | ok us =>
            rw [e2] at ez
            have ez' : (match (generalizing := false) o with | some y => y :: us | none => us) = zs := by cases o <;> (cases ez; rfl)
            refine .inr ⟨go, fun H' => ∃ acc ys, Same H1 H' ∧ H' D = some (.lst acc) ∧ Reps (ins A D 0) (kx X) H' acc ys ∧ ys ++ us = total ∧ ys.length ≤ i + 1, fun H' ⟨acc, ys, h1, h2, h3, h4, h5⟩ => ⟨m - 1, by omega, acc, ys, us, by omega, h1, h2, h3, e2, h4, h5⟩, fun v H' hy => ?_⟩
            obtain ⟨s3, rv⟩ := yl v H' hy
            intro s H0 C cl fp
            refine hb ds[i] _ σ H' v (fun o H4 => match o with
              | some w => ∃ acc, H4 D = some (.lst acc) ∧ acc.length < sizeLine ∧ ∃ acc' ys, Same H1 (upd H4 D (.lst (acc ++ [w]))) ∧ (upd H4 D (.lst (acc ++ [w]))) D = some (.lst acc') ∧ Reps (ins A D 0) (kx X) (upd H4 D (.lst (acc ++ [w]))) acc' ys ∧ ys ++ us = total ∧ ys.length ≤ i + 1
              | none => ∃ acc ys, Same H1 H4 ∧ H4 D = some (.lst acc) ∧ Reps (ins A D 0) (kx X) H4 acc ys ∧ ys ++ us = total ∧ ys.length ≤ i + 1) ((ev2.same s3).wipe _) rv ?_ s H0 C cl fp
            rw [e1]
            cases o with
            | some y =>
              intro w H4 s4 rw'
              have s14 : Same H1 H4 := s2.trans (s3.trans s4)
              have eD4 := s4 _ _ (s3 _ _ eD)
              have m4 : Mv (ins A D 0) (ins A D 0) H4 (upd H4 D (.lst (acc ++ [w]))) := Mv.write (by rw [ins_same]; exact fun z => by cases z) (mut_lst eD4)
              refine ⟨acc, eD4, by rw [rs.length]; omega, acc ++ [w], ys ++ [y], fun b x e => ?_, upd_same, ((rs.same (s3.trans s4)).append (.cons rw' .nil)).mv m4, ?_, by rw [List.length_append, List.length_singleton]; omega⟩
              · rw [upd_ne (ne_of_none e nD)]; exact s14 _ _ e
              · rw [List.append_assoc, ← et, ← ez']; rfl
            | none =>
              intro H4 s4
              exact ⟨acc, ys, s2.trans (s3.trans s4), s4 _ _ (s3 _ _ eD), rs.same (s3.trans s4), by rw [← et, ← ez'], by omega⟩
      · refine .inl ⟨wk.stop _ i H2 ev2.tr gd2 (by omega), ?_⟩
        rw [List.drop_eq_nil_of_le (by omega)] at ez
        cases ez
        rw [List.append_nil] at et
        subst et
        exact qd D H1 H2 s1 nD s2 ⟨acc, eD, rs⟩
  · exact qd.elim
theorem go_comp {elt : Expr} {ifs : List Expr} {scope : Scope} {own : List (Str × Nat)} {g : PyData → Res (Option PyData)} (hc : X.calm = true) (hN : X.N.Nodup) (ok : BlkOk X.N X.env.scope scope own) (hi : GI X E tg iter ρ ri) (hb : ∀ d, GC X scope (own.map (·.2)) tg ifs elt ρ d (g d))
    (hs : ∀ x, foldedSetIterable iter X.env x = pure x := by intro _; rfl) : GO X E (.ListComp elt [⟨tg, iter, ifs, 0⟩] scope pos) ρ (ri >>= fun ds => compD ds g) := fun A σ H Q ev q =>
  ⟨_, pe_lc (own := own) hc hN wi_ok ok bG_ok bT_ok bE_ok hs, comp_run (wi := WI X tg iter) hi hb ev q⟩
end
end Dt

namespace Dt
open PySem PySem.Spec PyProof.Rows L2

/-! ### defs -/
def spF (κ : Kx) (mg : Str → Option Value) (F : List PyData → Res PyData) : Sp := fun vs H Q E => ∃ A ds, Tr A H ∧ Reps A κ H vs ds ∧ (match F ds with
  | .ok d => ∀ v H', Same H H' → Rep A κ H' v d → Q v H'
  | .err c => ∀ H', Same H H' → ∀ C, mg c = some (.ref C) → E (.ref C) none H'
  | .stuck => False)
/-- the name holds a def that computes F, at a level -/
def Cal (P : Program) (w : World) (K : PySem.W.Frag) (mg : Str → Option Value) (base : Heap) (k : Nat) (x : Str) (F : List PyData → Res PyData) : Prop :=
  ∃ f fd ps, FnOk P w K mg base (L2.CX P w) k f fd ps (spF ⟨P, w, K⟩ mg F) ∧ mg x = some (.ref f) ∧ PySem.W.keepIn K (.ref f) = true ∧ Binds K fd ps []
def fin {α : Type} : Out α → PyData
  | .nx _ => .none
  | .rt d => d
def finR {α : Type} (r : Res (Out α)) : Res PyData := r >>= fun o => .ok (fin o)
@[simp] theorem finR_rt {α : Type} (d : PyData) : finR (.ok (.rt d : Out α)) = .ok d := rfl
@[simp] theorem finR_nx {α : Type} (a : α) : finR (.ok (.nx a)) = .ok .none := rfl
@[simp] theorem finR_err {α : Type} (c : Str) : finR (.err c : Res (Out α)) = .err c := rfl
@[simp] theorem finR_stuck {α : Type} : finR (.stuck : Res (Out α)) = .stuck := rfl
section
variable {X : Cx} {E : XK} {ρ : List Sl} {e : Expr} {es : List Expr} {rs : Res (List PyData)} {pos p : Pos} {x : Str} {F : List PyData → Res PyData} {j k : Nat}
theorem ge_call (c : Cal X.prog X.w X.K X.mg X.base k x F) (hr : Room j X.A) (hkj : k ≤ j) (hx : Passes (L2.CX X.prog X.w) X E) (h : GA X E (e :: es) ρ rs) (hg : Gl X x := by rfl) (hdb : (x == ("__debug__" : Str)) = false := by decide)
    (he : starEach (e :: es) X.env = (false, eval e X.env) :: starEach es X.env := by rfl) (hpl : (backTo pos (starEach es X.env)).any (·.1) = false := by rfl) : GE X E (.Call (.Name x p) (e :: es) [] pos) ρ (rs >>= F) := by
  obtain ⟨f, fd, ps, hf, hm, hk, hb⟩ := c
  refine .mk ⟨_, pe_call hf (hr.mono hkj) hg hm hk hb .nil hx wa_ok hdb he hpl, fun A σ H Q ev q => ?_⟩
  refine h A σ H _ ev (q.bind.mono fun ds qd vs H1 s1 rv => ?_)
  rw [List.append_nil]
  refine ⟨A, ds, (ev.same s1).tr, rv, ?_⟩
  cases e : F ds with
  | ok d => rw [e] at qd; exact fun v H' s r => qd v H' (s1.trans s) r
  | err c => rw [e] at qd; exact fun H' s C hC => qd H' (s1.trans s) C hC
  | stuck => rw [e] at qd; exact qd
theorem ge_call0 (c : Cal X.prog X.w X.K X.mg X.base k x F) (hr : Room j X.A) (hkj : k ≤ j) (hx : Passes (L2.CX X.prog X.w) X E) (hg : Gl X x := by rfl) (hdb : (x == ("__debug__" : Str)) = false := by decide) : GE X E (.Call (.Name x p) [] [] pos) ρ (F []) := by
  obtain ⟨f, fd, ps, hf, hm, hk, hb⟩ := c
  refine .mk ⟨_, pe_call0 hf (hr.mono hkj) hg hm hk hb .nil hx hdb, fun A σ H Q ev q => ?_⟩
  refine ⟨A, [], ev.tr, .nil, ?_⟩
  cases e : F [] with
  | ok d => rw [e] at q; exact fun v H' s r => q v H' s r
  | err c => rw [e] at q; exact fun H' s C hC => q H' s C hC
  | stuck => rw [e] at q; exact q
end
theorem map_fz_at {A : Ow} {m : Nat} {κ : Kx} {H : Hp} : ∀ {vs : List V} {ds : List PyData} (n : Nat) (i : Nat), Reps A κ H vs ds → SlOk A m κ H ((ds.map Sl.fz ++ List.replicate n Sl.no).getD i .no) (vs.map some ++ List.replicate n none)[i]?
  | _, _, n, i, .nil => by
    have : (([] : List PyData).map Sl.fz ++ List.replicate n Sl.no).getD i .no = .no := by
      simp [List.getD, List.getElem?_replicate]
      split <;> rfl
    rw [this]; trivial
  | _, _, n, 0, .cons r t => ⟨_, rfl, r⟩
  | _, _, n, i + 1, .cons r t => by simpa [List.getD] using map_fz_at n i t
/-- what an outer def owns -/
def outerOw (A : Ow) : Ow := fun a => match A a with | none => none | some _ => some 0
theorem outer_none {A : Ow} {a : Addr} : outerOw A a = none ↔ A a = none := by
  unfold outerOw
  cases A a with
  | none => exact ⟨fun _ => rfl, fun _ => rfl⟩
  | some n => exact ⟨(fun z => by cases z), (fun z => by cases z)⟩
section
variable {P : Program} {w : World} {K : PySem.W.Frag} {mg : Str → Option Value} {base : Heap}
/-- THE RULE of a def -/
theorem def_ok {α : Type} {x qual : Str} {st : Stmt} {f : Addr} {fd : FuncData} {N ps : List Str} {k : Nat} {sh : α → List Sl} (F : Fun K x qual st f fd) (S : FnScope N ps (defScope st)) (G : List PyData → Res (Out α)) (hG : ∀ ds, ds.length ≠ ps.length → G ds = .stuck)
    (body : ∀ (cdv : Value) (A : Around) (outer : List Env) (s : Shared) (H : Hp) (E : XK) (X : Cx), X = cxOf (L2.CX P w) P w K mg base N qual (defScope st) f cdv A outer s H E → Room k X.A → ∀ ds, ds.length = ps.length →
      GSs (cxOf (L2.CX P w) P w K mg base N qual (defScope st) f cdv A outer s H E) E (defBody st) (ds.map Sl.fz ++ List.replicate (N.length - ps.length) .no) sh (G ds)) :
    FnOk P w K mg base (L2.CX P w) (k + 1) f fd ps (spF ⟨P, w, K⟩ mg fun ds => finR (G ds)) := by
  refine F.okX S (fun vs H Q E h => ?_) (fun cdv A outer s H vs Q E hr h => ?_)
  · obtain ⟨A, ds, tr, rs, q⟩ := h
    by_cases e : ds.length = ps.length
    · rw [rs.length, e]
    · simp only [hG ds e, finR_stuck] at q
  · obtain ⟨A0, ds, tr, rs, q⟩ := h
    have e : ds.length = ps.length := by
      by_cases e : ds.length = ps.length
      · exact e
      · simp only [hG ds e, finR_stuck] at q
    have hb := body cdv A outer s H E _ rfl hr ds e
    have hl : (L2.start N vs) = vs.map some ++ List.replicate (N.length - ps.length) none := by
      unfold L2.start
      rw [rs.length, e]
    refine hb A0 H [] (L2.start N vs) H _ ⟨outerOw A0, ⟨⟨?_, fun a h => tr a fun z => h (outer_none.mpr z), fun i => ?_⟩, (fun g hg => by cases hg), fun a h => outer_none.mp h, Same.refl _, fun a n h => ?_, tr⟩⟩ ?_
    · rw [hl]; simp [rs.length]
    · rw [hl]; exact map_fz_at _ i (rs.mv (.less fun a h => outer_none.mpr h))
    · unfold outerOw at h
      cases z : A0 a with
      | none => rw [z] at h; cases h
      | some k => rw [z] at h; cases h
    · replace q : (match finR (G ds) with
        | .ok d => ∀ v H', Same H H' → Rep A0 ⟨P, w, K⟩ H' v d → Q v H'
        | .err c => ∀ H', Same H H' → ∀ C, mg c = some (.ref C) → E (.ref C) none H'
        | .stuck => False) := q
      cases e2 : G ds with
      | ok o =>
        rw [e2] at q
        cases o with
        | nx a => exact fun σ' H' ⟨A', er⟩ => q _ H' er.same .non
        | rt d => exact fun v H' s r => q v H' s r
      | err c => rw [e2] at q; exact q
      | stuck => rw [e2] at q; exact q
end
/-- a def's body's context: what its rules ask -/
structure Bd (X : Cx) (E : XK) (k : Nat) : Prop where
  nd : X.N.Nodup
  po : PassesOwn (model X.prog X.w) X.A X.env X.xe
  hx : Passes (L2.CX X.prog X.w) X E
  tk : Takes X (fun cls d _ H => E cls d H)
  hr : Room k X.A
theorem bd_of {P : Program} {w : World} {K : PySem.W.Frag} {mg : Str → Option Value} {base : Heap} {N ps : List Str} {qual : Str} {sc : Scope} {f : Addr} {cdv : Value} {A : Around} {outer : List Env} {s : Shared} {H : Hp} {E : XK} {k : Nat} (S : FnScope N ps sc)
    (hr : Room k (cxOf (L2.CX P w) P w K mg base N qual sc f cdv A outer s H E).A) : Bd (cxOf (L2.CX P w) P w K mg base N qual sc f cdv A outer s H E) E k :=
  ⟨S.nd, passes_of rfl, passes_call (takes_of rfl rfl rfl rfl) (fun _ _ _ _ h => h), takes_of rfl rfl rfl rfl, hr⟩
theorem Bd.u65 {X : Cx} {E : XK} {k : Nat} (b : Bd X E k) : X.A.units + 65 < cLine := by have := b.hr.un; omega
theorem Bd.u64 {X : Cx} {E : XK} {k : Nat} (b : Bd X E k) : X.A.units + 64 < cLine := by have := b.hr.un; omega
theorem Bd.u0 {X : Cx} {E : XK} {k : Nat} (b : Bd X E k) : X.A.units < cLine := by have := b.hr.un; omega

/-! ### raise -/
section
variable {α : Type} {X : Cx} {E : XK} {ρ : List Sl} {sh : α → List Sl} {rest : List Stmt} {e : Expr} {pos : Pos}
theorem gss_raise {C : Addr} {c : Str} (hc : X.calm = true) (tk : Takes X (fun cls d _ H => E cls d H)) (hm : X.mg c = some (.ref C)) (h : PMk X e (fun _ H Q => Q (.ref C) none H)) : GSs X E (.Raise (some e) none pos :: rest) ρ sh (.err c) := fun A0 H0 γ σ H D er q => by
  obtain ⟨A, er⟩ := er
  refine wss_cons (ps_raise hc tk h) ?_
  exact q H er.same C hm
end

/-! ### what is built in -/
section
variable {X : Cx} {E : XK} {ρ : List Sl} {e a b c : Expr} {es : List Expr} {r ra rb rc : Res PyData} {rs : Res (List PyData)} {pos : Pos}
def lenC : List PyData → Res PyData
  | [.list xs] => .ok (.int xs.length)
  | [.tuple xs] => .ok (.int xs.length)
  | [.str x] => if x.length ≤ sizeLine then .ok (.int x.length) else .stuck
  | _ => .stuck
theorem len_ok : OpC X (.builtin "len") lenC := by
  refine ⟨_, call_len_seq.or call_len_str, fun E A H xs ds Q tr rx q => ?_⟩
  unfold lenC at q
  split at q
  · cases rx with
    | cons r t =>
      cases t
      obtain ⟨p, vs, rfl, h1, h2⟩ := r.lst
      refine .inl ⟨p, vs, rfl, .inl (.of h1), ?_⟩
      rw [h2.length]
      exact q _ H (Same.refl _) (.int _)
  · cases rx with
    | cons r t =>
      cases t
      obtain ⟨p, vs, rfl, h1, h2⟩ := r.tup
      refine .inl ⟨p, vs, rfl, .inr h1, ?_⟩
      rw [h2.length]
      exact q _ H (Same.refl _) (.int _)
  · split at q
    · cases rx with
      | cons r t =>
        cases t
        obtain rfl := r.str
        exact .inr ⟨_, rfl, by assumption, q _ H (Same.refl _) (.int _)⟩
    · exact q.elim
  · exact q.elim
def tupC : List PyData → Res PyData
  | [.list xs] => .ok (.tuple xs)
  | [.tuple xs] => .ok (.tuple xs)
  | _ => .stuck
theorem tup_ok : OpC X (.type "tuple") tupC := by
  refine ⟨_, call_tuple_of, fun E A H xs ds Q tr rx q => ?_⟩
  unfold tupC at q
  split at q
  · cases rx with
    | cons r t =>
      cases t
      obtain ⟨p, vs, rfl, h1, h2⟩ := r.lst
      exact ⟨p, vs, rfl, .inl ⟨.of h1, fun l n => q _ _ (same_new n) (Rep.new_tup n h2)⟩⟩
  · cases rx with
    | cons r t =>
      cases t
      obtain ⟨p, vs, rfl, h1, h2⟩ := r.tup
      exact ⟨p, vs, rfl, .inr ⟨h1, q _ H (Same.refl _) (.tup h1 h2)⟩⟩
  · exact q.elim
def listC : List PyData → Res (List PyData)
  | [.list xs] => .ok xs
  | [.tuple xs] => .ok xs
  | _ => .stuck
theorem list_ok : OpCO X (.type "list") listC := by
  refine ⟨_, call_list_of, fun E A H xs ds Q tr rx q => ?_⟩
  unfold listC at q
  split at q
  · cases rx with
    | cons r t =>
      cases t
      obtain ⟨p, vs, rfl, h1, h2⟩ := r.lst
      exact ⟨p, vs, rfl, .inl (.of h1), fun l n => q l H _ (Same.refl _) n (same_new n) ⟨_, upd_same, (h2.newA n).same (same_new n)⟩⟩
  · cases rx with
    | cons r t =>
      cases t
      obtain ⟨p, vs, rfl, h1, h2⟩ := r.tup
      exact ⟨p, vs, rfl, .inr h1, fun l n => q l H _ (Same.refl _) n (same_new n) ⟨_, upd_same, (h2.newA n).same (same_new n)⟩⟩
  · exact q.elim
def boolsOf : List PyData → Option (List Bool)
  | [] => some []
  | .bool b :: r => (boolsOf r).map (b :: ·)
  | _ :: _ => none
theorem bools_of {A : Ow} {κ : Kx} {H : Hp} : ∀ {vs : List V} {ds : List PyData} {ns : List Bool}, Reps A κ H vs ds → boolsOf ds = some ns → vs = ns.map V.bl
  | _, _, _, .nil, e => by cases e; rfl
  | _, _, ns, .cons (d := d) r t, e => by
    cases r with
    | bl i =>
      unfold boolsOf at e
      cases h : boolsOf _ with
      | none => rw [h] at e; cases e
      | some ms =>
        rw [h] at e
        cases e
        rw [bools_of t h]
        rfl
    | _ => cases e
def allC : List PyData → Res PyData
  | [.list xs] => match boolsOf xs with
    | some bs => .ok (.bool (bs.all id))
    | none => .stuck
  | _ => .stuck
def anyC : List PyData → Res PyData
  | [.list xs] => match boolsOf xs with
    | some bs => .ok (.bool (bs.any id))
    | none => .stuck
  | _ => .stuck
def sumC : List PyData → Res PyData
  | [.list xs] => match intsOf xs with
    | some ns => .ok (.int ns.sum)
    | none => .stuck
  | _ => .stuck
theorem all_ok (hc : X.calm = true) : OpC X (.builtin "all") allC := by
  refine ⟨_, cr_all hc, fun E A H xs ds Q tr rx q => ?_⟩
  unfold allC at q
  split at q
  · split at q
    · cases rx with
      | cons r t =>
        cases t
        obtain ⟨p, vs, rfl, h1, h2⟩ := r.lst
        have e1 := bools_of h2 (by assumption)
        subst e1
        exact ⟨p, _, rfl, .of h1, q _ H (Same.refl _) (.bl _)⟩
    · exact q.elim
  · exact q.elim
theorem any_ok (hc : X.calm = true) : OpC X (.builtin "any") anyC := by
  refine ⟨_, cr_any hc, fun E A H xs ds Q tr rx q => ?_⟩
  unfold anyC at q
  split at q
  · split at q
    · cases rx with
      | cons r t =>
        cases t
        obtain ⟨p, vs, rfl, h1, h2⟩ := r.lst
        have e1 := bools_of h2 (by assumption)
        subst e1
        exact ⟨p, _, rfl, .of h1, q _ H (Same.refl _) (.bl _)⟩
    · exact q.elim
  · exact q.elim
theorem sum_ok (hc : X.calm = true) : OpC X (.builtin "sum") sumC := by
  refine ⟨_, cr_sum hc, fun E A H xs ds Q tr rx q => ?_⟩
  unfold sumC at q
  split at q
  · split at q
    · cases rx with
      | cons r t =>
        cases t
        obtain ⟨p, vs, rfl, h1, h2⟩ := r.lst
        have e1 := ints_of h2 (by assumption)
        subst e1
        exact ⟨p, _, rfl, .of h1, q _ H (Same.refl _) (.int _)⟩
    · exact q.elim
  · exact q.elim
def intC : List PyData → Res PyData
  | [.int i] => .ok (.int i)
  | [.bool b] => .ok (.int (if b then 1 else 0))
  | _ => .stuck
theorem int_ok : OpC X (.type "int") intC := by
  refine ⟨_, call_int1, fun E A H xs ds Q tr rx q => ?_⟩
  unfold intC at q
  split at q
  · cases rx with
    | cons r t =>
      cases t
      obtain rfl := r.int
      exact .inl ⟨_, rfl, q _ H (Same.refl _) (.int _)⟩
  · cases rx with
    | cons r t =>
      cases t
      obtain rfl := r.bl
      exact .inr ⟨_, rfl, q _ H (Same.refl _) (.int _)⟩
  · exact q.elim
/-! sorted -/
def sorD (ds : List PyData) : List PyData := ds.mergeSort (PySem.W.dataLe false id)
def sortable (ds : List PyData) : Bool := (ds.all fun d => ds.all fun e => PySem.W.alike d e) && ((ds.all fun d => match d with | .tuple (_ :: _) => true | _ => false) || ds.all fun d => match d with | .none => false | .tuple _ => false | _ => true)
def sortC : List PyData → Res (List PyData)
  | [.list xs] => if (sortable xs && xs.all shp) = true then .ok (sorD xs) else .stuck
  | _ => .stuck
theorem sortable_ok {ds : List PyData} (h : sortable ds = true) : PySem.W.AllAlike ds ∧ PySem.W.Sortable ds := by
  unfold sortable at h
  rw [Bool.and_eq_true, Bool.or_eq_true, List.all_eq_true, List.all_eq_true, List.all_eq_true] at h
  refine ⟨fun d hd e he => List.all_eq_true.mp (h.1 d hd) e he, h.2.elim (fun k => .inl fun d hd => ?_) fun k => .inr fun d hd => ?_⟩
  · have z := k d hd
    split at z
    · exact ⟨_, _, rfl⟩
    · cases z
  · have z := k d hd
    split at z
    · cases z
    · cases z
    · rename_i n1 n2
      exact ⟨n1, n2⟩
theorem reps_zip {A : Ow} {κ : Kx} {H : Hp} : ∀ {vs : List V} {ds : List PyData}, Reps A κ H vs ds → (vs.zip ds).map (·.1) = vs ∧ (vs.zip ds).map (·.2) = ds ∧ ∀ p ∈ vs.zip ds, Rep A κ H p.1 p.2
  | _, _, .nil => ⟨rfl, rfl, fun p h => by cases h⟩
  | _, _, .cons r t => by
    obtain ⟨h1, h2, h3⟩ := reps_zip t
    refine ⟨by simp [h1], by simp [h2], fun p h => ?_⟩
    rcases List.mem_cons.mp h with z | z
    · rw [z]; exact r
    · exact h3 p z
theorem reps_of_zip {A : Ow} {κ : Kx} {H : Hp} : ∀ {l : List (V × PyData)}, (∀ p ∈ l, Rep A κ H p.1 p.2) → Reps A κ H (l.map (·.1)) (l.map (·.2))
  | [], _ => .nil
  | p :: l, h => .cons (h p List.mem_cons_self) (reps_of_zip fun q hq => h q (List.mem_cons_of_mem _ hq))
theorem each_of {H : Hp} : ∀ {vs : List V} {us : List Value} {ds : List PyData}, Vals vs us → vs.length = ds.length → PySem.W.EachIs (fun (u : Value) (b : V × PyData) => RelV b.1 u) us (vs.zip ds)
  | _, _, _, .nil, h => by
    rw [List.zip_nil_left]; exact .nil
  | _, _, [], .cons r t, h => by cases h
  | _, _, d :: ds, .cons r t, h => .cons r (each_of (H := H) t (Nat.succ.inj h))
theorem vals_each : ∀ {us : List Value} {l : List (V × PyData)}, PySem.W.EachIs (fun (u : Value) (b : V × PyData) => RelV b.1 u) us l → Vals (l.map (·.1)) us
  | _, _, .nil => .nil
  | _, _, .cons r t => .cons r (vals_each t)
theorem each_reads {pins : List (Addr × Obj)} {σ : L2.St} {H : Hp} {s : Shared} {A : Ow} (I : Inv X pins σ H s) : ∀ {vs : List V} {us : List Value} {ds : List PyData}, Vals vs us → Reps A (kx X) H vs ds → PyData.canLayAll0 ds = true → PySem.W.EachIs (fun (v : Value) (b : V × PyData) => ∃ as, Reads s.heap v b.2 as) us (vs.zip ds)
  | _, _, _, .nil, .nil, _ => .nil
  | _, _, _, .cons r t, .cons r' t', h => by
    rw [PyData.canLayAll0, Bool.and_eq_true] at h
    exact .cons (Dp.reads I _ _ _ (r'.dp h.1) r) (each_reads I t t' h.2)
theorem lay_all : ∀ {ds : List PyData}, ds.all shp = true → PyData.canLayAll0 ds = true
  | [], _ => by simp [PyData.canLayAll0]
  | d :: ds, h => by
    rw [List.all_cons, Bool.and_eq_true] at h
    rw [PyData.canLayAll0, shp_lay h.1, lay_all h.2]
    rfl
theorem map_sort {l : List (V × PyData)} : (l.mergeSort (PySem.W.dataLe false fun b : V × PyData => b.2)).map (·.2) = sorD (l.map (·.2)) := by
  unfold sorD
  exact (List.map_mergeSort (f := fun b : V × PyData => b.2) (r := PySem.W.dataLe false fun b : V × PyData => b.2) (s := PySem.W.dataLe false id) (fun a _ b _ => rfl))
def rSortD (X : Cx) : List V → Hp → VK → Prop := fun vs H Q => ∃ (A : Ow) (a : Addr) (xs : List V) (ds : List PyData), vs = [V.ref a] ∧ H a = some (.lst xs) ∧ Reps A (kx X) H xs ds ∧ sortable ds = true ∧ ds.all shp = true ∧
  ∀ (ys : List V) (p : Addr), Reps A (kx X) H ys (sorD ds) → H p = none → Q (.ref p) (upd H p (.lst ys))
theorem cr_sortD (hu : X.A.units + 70 < cLine) : CallR X (.builtin "sorted") (rSortD X) := by
  intro pins s σ H vs us Q I r h
  obtain ⟨A, a, xs, ds, rfl, hs, rs, hso, hsh, q⟩ := h
  obtain ⟨hz, its, n, rv, hl, he⟩ := I.lstM hs
  rw [Vals.ref1 r]
  obtain ⟨z1, z2, z3⟩ := reps_zip rs
  obtain ⟨ha, hk⟩ := sortable_ok hso
  have hIL : s.heap.IsList a its.toArray := ⟨_, he, rfl, n, rfl⟩
  refine PySem.W.sorted_data (R := fun u b => RelV b.1 u) (bs := xs.zip ds) (enc := fun b : V × PyData => b.2) hIL (each_of (H := H) rv rs.length) (each_reads I rv rs (lay_all hsh)) (by rw [z2]; exact ha) (by rw [z2]; exact hk) (by rw [List.length_zip, rs.length, Nat.min_self, ← rs.length]; exact hz) (fun b hb => ?_) fun out hlo ho => ?_
  · have hm : b.2 ∈ ds := by rw [← z2]; exact List.mem_map_of_mem hb
    have h1 := List.all_eq_true.mp hsh _ hm
    have h2 : b.2.depth ≤ 64 := of_decide_eq_true (Bool.and_eq_true_iff.mp h1).2
    omega
  · obtain ⟨ep, he'⟩ := PyProof.Rows.sortedAll_at s.heap its out.toArray
    have hv := vals_each ho
    have hlen : (((xs.zip ds).mergeSort (PySem.W.dataLe false fun b : V × PyData => b.2)).map (·.1)).length ≤ sizeLine := by
      rw [List.length_map, List.length_mergeSort, List.length_zip, rs.length, Nat.min_self, ← rs.length]; exact hz
    have hr : Reps A (kx X) H (((xs.zip ds).mergeSort (PySem.W.dataLe false fun b : V × PyData => b.2)).map (·.1)) (sorD ds) := by
      have e : sorD ds = ((xs.zip ds).mergeSort (PySem.W.dataLe false fun b : V × PyData => b.2)).map (·.2) := by rw [map_sort, z2]
      rw [e]
      exact reps_of_zip fun p hp => z3 p (List.mem_mergeSort.mp hp)
    exact ⟨.ref _, _, I.laid (o := .lst (((xs.zip ds).mergeSort (PySem.W.dataLe false fun b : V × PyData => b.2)).map (·.1))) (t' := s.toks) (fun _ _ => PyProof.Rows.sortedAll_old) (Nat.le_succ _) ⟨hlen, out, ep, hv, he'⟩, rfl, q _ _ hr (I.hok.fresh (Nat.le_succ _))⟩
theorem sort_ok (hu : X.A.units + 70 < cLine) : OpCO X (.builtin "sorted") sortC := by
  refine ⟨_, cr_sortD hu, fun E A H xs ds Q tr rx q => ?_⟩
  unfold sortC at q
  split at q
  · split at q
    · rename_i hz
      rw [Bool.and_eq_true] at hz
      cases rx with
      | cons r t =>
        cases t
        obtain ⟨p, vs, rfl, h1, h2⟩ := r.lst
        refine ⟨A, p, vs, _, rfl, h1, h2, hz.1, hz.2, fun ys l rs n => ?_⟩
        exact q l H _ (Same.refl _) n (same_new n) ⟨_, upd_same, (rs.newA n).same (same_new n)⟩
    · exact q.elim
  · exact q.elim
theorem Bd.u70 {X : Cx} {E : XK} {k : Nat} (b : Bd X E k) : X.A.units + 70 < cLine := by have := b.hr.un; omega
end
end Dt

namespace Dt
open PySem PySem.Spec PyProof.Rows L2

/-! ### short forms of mirrors -/
def b2 (g : PyData → PyData → Res PyData) (ra rb : Res PyData) : Res PyData := ra >>= fun d => rb >>= fun e => g d e
def asL (r : Res (List PyData)) : Res PyData := r >>= fun ds => .ok (.list ds)
def sl3 (ra : Res PyData) (rl rh : Res (Option Int)) : Res PyData := ra >>= fun d => rl >>= fun l => rh >>= fun u => sliceD d l u
def ite3 (rt : Res Bool) (ra rb : Res PyData) : Res PyData := rt >>= fun c => if c = true then ra else rb
def nt (r : Res Bool) : Res Bool := r >>= fun b => .ok (!b)
def retR {α : Type} (r : Res PyData) : Res (Out α) := r >>= fun d => .ok (.rt d)
def cel (rt : Res Bool) (r : Res PyData) : Res (Option PyData) := rt >>= fun b => if b = true then r >>= fun y => .ok (some y) else .ok none
def comR (ri : Res (List PyData)) (g : PyData → Res (Option PyData)) : Res (List PyData) := ri >>= fun ds => compD ds g
/-- a global name holds a datum -/
def Gcon (K : PySem.W.Frag) (mg : Str → Option Value) (x : Str) (d : PyData) : Prop := ∃ u v, mg x = some u ∧ RelV v u ∧ ∀ A P w H, Rep A ⟨P, w, K⟩ H v d
theorem gcon_int {K : PySem.W.Frag} {mg : Str → Option Value} {x : Str} {i : Int} {t : Tok} (h : mg x = some (.int i t)) : Gcon K mg x (.int i) := ⟨_, .int i, h, ⟨t, rfl⟩, fun _ _ _ _ => .int i⟩
theorem gcon_str {K : PySem.W.Frag} {mg : Str → Option Value} {x : Str} {i : Str} {t : Tok} (h : mg x = some (.str i t)) : Gcon K mg x (.str i) := ⟨_, .str i, h, ⟨t, rfl⟩, fun _ _ _ _ => .str i⟩
theorem gcon_non {K : PySem.W.Frag} {mg : Str → Option Value} {x : Str} (h : mg x = some .none) : Gcon K mg x .none := ⟨_, .non, h, rfl, fun _ _ _ _ => .non⟩
theorem strs_reps {A : Ow} {κ : Kx} {H : Hp} : ∀ xs : List Str, Reps A κ H (xs.map V.str) (xs.map PyData.str)
  | [] => .nil
  | x :: xs => .cons (.str x) (strs_reps xs)
theorem gcon_strs {K : PySem.W.Frag} {mg : Str → Option Value} {x : Str} {a : Addr} {o : Obj} {its : Array Value} {n : Nat} (xs : List Str) (h : mg x = some (.ref a)) (l : K.lookup a = some o) (c : o.cls = .type "tuple") (d : o.data = .seq its n) (z : its.size ≤ sizeLine) (v : Vals (xs.map V.str) its.toList) :
    Gcon K mg x (.tuple (xs.map PyData.str)) := ⟨_, .ref a, h, rfl, fun _ _ _ _ => .tup (.inr ⟨o, its, n, l, c, d, z, v⟩) (strs_reps xs)⟩
section
variable {α β : Type} {X : Cx} {E : XK} {ρ ρ' : List Sl} {e a b c iter tg : Expr} {es : List Expr} {r ra rb rc : Res PyData} {rt : Res Bool} {ri rs : Res (List PyData)} {pos p' p : Pos} {sh : α → List Sl} {sb : β → List Sl} {x : Str} {rest body : List Stmt}
theorem ge_glob {d : PyData} (g : Gcon X.K X.mg x d) (hg : Gl X x := by rfl) (hd : (x == ("__debug__" : Str)) = false := by decide) : GE X E (.Name x p) ρ (.ok d) := by
  obtain ⟨u, v, h, r, k⟩ := g
  exact ge_C (pe_glob hg h r hd) fun A H => k A X.prog X.w H
/-! isinstance -/
def tyName : PyData → Option String
  | .none => some "NoneType"
  | .bool _ => some "bool"
  | .int _ => some "int"
  | .str _ => some "str"
  | .list _ => some "list"
  | .tuple _ => some "tuple"
  | .dict _ => none
def isiTs : List String := ["int", "bool", "tuple", "str", "list"]
def isiB (n T : String) : Bool := n == T || (n == "bool" && T == "int")
def isiD (T : String) (d : PyData) : Res PyData := match tyName d with
  | some n => .ok (.bool (isiB n T))
  | none => .stuck
theorem tyx_of {A : Ow} {κ : Kx} {H : Hp} {v : V} {d : PyData} {n : String} (h : RepW A κ H v d) (e : tyName d = some n) : TyX κ.K H v (.type n) := by
  cases d with
  | none => obtain rfl := h.non; cases e; exact .base .non
  | bool b => obtain rfl := h.bl; cases e; exact .base (.bl _)
  | int b => obtain rfl := h.int; cases e; exact .base (.int _)
  | str b => obtain rfl := h.str; cases e; exact .base (.str _)
  | list b =>
    obtain ⟨p, xs, rfl, h1, h2⟩ := h.lst
    cases e
    exact .base (.lst h1)
  | tuple b =>
    obtain ⟨p, xs, rfl, h1, h2⟩ := h.tup
    cases e
    rcases h1 with (h1 | ⟨o, h1⟩) | ⟨o, its, n, h1, h3, _⟩
    · exact .base (.tup h1)
    · exact .fTuple h1
    · exact .kTuple h1 h3
  | dict b => cases e
theorem kit_all {n T : String} (hn : n ∈ ["NoneType", "bool", "int", "str", "list", "tuple"]) (hT : T ∈ isiTs) : kitB n T = some (isiB n T) := by
  have h : (["NoneType", "bool", "int", "str", "list", "tuple"].all fun n => isiTs.all fun T => decide (kitB n T = some (isiB n T))) = true := by decide +kernel
  exact of_decide_eq_true (List.all_eq_true.mp (List.all_eq_true.mp h n hn) T hT)
theorem tyName_mem {d : PyData} {n : String} (e : tyName d = some n) : n ∈ ["NoneType", "bool", "int", "str", "list", "tuple"] := by
  cases d <;> cases e <;> decide
theorem ge_isi {T : String} {T' : Str} {p2 : Pos} (h : GW X E e ρ r) (hm : X.mg "isinstance" = none) (hm2 : X.mg T' = none) (hT : T ∈ isiTs := by decide) (hb : bootBuiltins T' = some (.type T) := by decide +kernel) (hb2 : bootBuiltins "isinstance" = some (.builtin "isinstance") := by decide +kernel) (hg : Gl X "isinstance" := by rfl) (hg2 : Gl X T' := by rfl)
    (hd2 : (T' == ("__debug__" : Str)) = false := by decide) (hn2 : T' ≠ "__name__" := by decide)
    (he : starEach (e :: [.Name T' p2]) X.env = (false, eval e X.env) :: starEach [.Name T' p2] X.env := by rfl) (he2 : starEach (.Name T' p2 :: []) X.env = (false, eval (.Name T' p2) X.env) :: starEach [] X.env := by rfl) (hpl : (backTo pos (starEach [.Name T' p2] X.env)).any (·.1) = false := by rfl) :
    GE X E (.Call (.Name "isinstance" p) [e, .Name T' p2] [] pos) ρ (r >>= isiD T) := by
  refine .mk ⟨_, pe_callB call_isi hg hm hb2 (pa_cons we_ok (pa_cons (pe_bltn (v := .ty T) hg2 hm2 hb rfl hn2 hd2) pa_nil he2) he) (by decide) (by decide) he hpl, fun A σ H Q ev q => ?_⟩
  refine h A σ H _ ev (q.bind.mono fun d qd v H1 s1 rv => ?_)
  unfold isiD at qd
  split at qd
  · rename_i n hn
    exact ⟨v, .ty T, .type n, .type T, _, rfl, .ty T, tyx_of rv hn, kit_ty (kit_all (tyName_mem hn) hT), qd _ H1 s1 (.bl _)⟩
  · exact qd.elim
/-! a comprehension given to a plain local on its line -/
theorem gss_ownLc {elt : Expr} {ifs : List Expr} {scope : Scope} {own : List (Str × Nat)} {i : Nat} {y : Str} {py spos : Pos} {g : PyData → Res (Option PyData)} {k : List PyData → Res (Out α)} (hc : X.calm = true) (hN : X.N.Nodup) (ok : BlkOk X.N X.env.scope scope own) (hi : GI X E tg iter ρ ri)
    (hb : ∀ d, GC X scope (own.map (·.2)) tg ifs elt ρ d (g d)) (k' : ∀ d, GSs X E rest (ρ.set i (.ow (.list d))) sh (k d)) (hsw : swapsWith (.ListComp elt [⟨tg, iter, ifs, 0⟩] scope pos) (some (.Name y py)) spos.line X.env = pure true) (hy : X.N[i]? = some y := by rfl) (hyl : X.env.scope.names.lookup y = some .local := by rfl)
    (hs : ∀ x, foldedSetIterable iter X.env x = pure x := by intro _; rfl) : GSs X E (.Assign [.Name y py] (.ListComp elt [⟨tg, iter, ifs, 0⟩] scope pos) spos :: rest) ρ sh (comR ri g >>= k) := fun A0 H0 γ σ H D er q => by
  obtain ⟨A, er⟩ := er
  refine wss_cons (ps_setLc (own := own) hc hN hy hyl hsw wi_ok ok bG_ok bT_ok bE_ok hs) ?_
  refine comp_run (wi := WI X tg iter) hi hb er.ev (PostR.imp (PostR.bind q) er.same fun ds qd p H1 H' s1 n s2 o => ?_)
  exact k' ds A0 H0 γ _ H' D (er.set_ow s1 n s2 o) qd
/-- x[i] = e, x a list of the def's own -/
theorem gss_setL {i : Nat} {l : List PyData} {k : List PyData → Res (Out α)} {px ps : Pos} {ie : Expr} (hv : PE X (.Name x px) (tVar i)) (h : GE X E e ρ r) (h2 : GW X E ie ρ rb) (k' : ∀ d, GSs X E rest (ρ.set i (.ow (.list d))) sh (k d)) (hd : ρ.getD i .no = .ow (.list l) := by rfl)
    (ha : ∀ v, assign (.Subscript (.Name x px) ie ps) X.env v = (do
      let ov ← holding [v] (eval (.Name x px) X.env)
      let iv ← holding [v, ov] (eval ie X.env)
      standAt ps
      holding [v, ov, iv] (setItem ov iv v)
      release [v, ov, iv] []) := by intro _; rfl) (hs : swapsWithSole [.Subscript (.Name x px) ie ps] e pos.line X.env = pure false := by rfl) (hw : swappedStores [.Subscript (.Name x px) ie ps] e X.env = pure none := by rfl)
    (h1 : (assignEach [.Subscript (.Name x px) ie ps] X.env).map (·.2) = [assign (.Subscript (.Name x px) ie ps) X.env] := by rfl) :
    GSs X E (.Assign [.Subscript (.Name x px) ie ps] e pos :: rest) ρ sh (r >>= fun d => rb >>= fun j => setR l j d >>= k) := fun A0 H0 γ σ H D er q => by
  obtain ⟨A, er⟩ := er
  refine wss_cons (ps_asg we_ok (pg_sub hv we_ok set_list ha) hs hw h1) ?_
  refine h A σ H _ er.ev (q.bind.imp er.same fun d qd v H1 s1 rv => ?_)
  have er1 := er.same' s1
  have z := er1.ev.sl i
  rw [hd] at z
  obtain ⟨a, e1, ha, xs, h1, h3⟩ := z
  refine ⟨.ref a, e1, ?_⟩
  refine h2 A σ H1 _ er1.ev (qd.bind.imp er1.same fun j qj w H2 s2 rw' => ?_)
  have er2 := er1.same' s2
  unfold setR at qj
  split at qj
  · obtain rfl := rw'.int
    split at qj
    · rename_i j' hj
      have h1' := s2 _ _ h1
      refine ⟨a, xs, _, j', rfl, rfl, h1', by rw [h3.length]; exact hj, ?_⟩
      have m : Mv A A H2 (upd H2 a (.lst (xs.set j' v))) := Mv.write (by rw [ha]; exact fun z => by cases z) (mut_lst h1')
      exact k' _ A0 H0 γ σ _ D (er2.write hd e1 ha (mut_lst h1') ⟨_, upd_same, (Reps.set (rv.same s2) _ (h3.same s2)).mv m⟩) qj
    · exact qj.elim
  · exact qj.elim
end
end Dt

namespace Dt
open PySem PySem.Spec PyProof.Rows L2
theorem bt_len : bootBuiltins "len" = some (.builtin "len") := by decide +kernel
theorem bt_all : bootBuiltins "all" = some (.builtin "all") := by decide +kernel
theorem bt_any : bootBuiltins "any" = some (.builtin "any") := by decide +kernel
theorem bt_sum : bootBuiltins "sum" = some (.builtin "sum") := by decide +kernel
theorem bt_sorted : bootBuiltins "sorted" = some (.builtin "sorted") := by decide +kernel
theorem bt_min : bootBuiltins "min" = some (.builtin "min") := by decide +kernel
theorem bt_max : bootBuiltins "max" = some (.builtin "max") := by decide +kernel
theorem bt_tuple : bootBuiltins "tuple" = some (.type "tuple") := by decide +kernel
theorem bt_list : bootBuiltins "list" = some (.type "list") := by decide +kernel
theorem bt_int : bootBuiltins "int" = some (.type "int") := by decide +kernel
theorem bt_str : bootBuiltins "str" = some (.type "str") := by decide +kernel
theorem bt_set : bootBuiltins "set" = some (.type "set") := by decide +kernel
/-- an exception class of one's own, over ValueError, without __init__ -/
structure XclA (K : PySem.W.Frag) (mg : Str → Option Value) (x : Str) (C : Addr) : Prop where
  gC : mg x = some (.ref C)
  xP : PySem.W.excIn K C [.type "ValueError", .type "Exception", .type "BaseException", .type "object"] "ValueError.__new__" = true
  kP : PySem.W.keepIn K (.ref C) = true
  bP : PySem.W.subIn K (.ref C) (.type "BaseException") = some true
  tP : PySem.W.typeIn K (.ref C) = some (.type "type")
def Xcl (K : PySem.W.Frag) (mg : Str → Option Value) (x : Str) : Prop := ∃ C, XclA K mg x C
section
variable {α β : Type} {X : Cx} {E : XK} {ρ ρ' : List Sl} {e a b c iter tg : Expr} {es : List Expr} {r ra rb rc : Res PyData} {rt : Res Bool} {ri rs : Res (List PyData)} {pos p' p : Pos} {sh : α → List Sl} {sb : β → List Sl} {x : Str} {rest body : List Stmt}
theorem gss_raiseX {c m : Str} {j : Nat} {p p2 pos2 : Pos} (hc : X.calm = true) (tk : Takes X (fun cls d _ H => E cls d H)) (h : Xcl X.K X.mg c) (hg : Gl X c := by rfl) (hdb : (c == ("__debug__" : Str)) = false := by decide) :
    GSs X E (.Raise (some (.Call (.Name c p) [.Constant (.str m) j p2] [] pos2)) none pos :: rest) ρ sh (.err c) := by
  obtain ⟨C, h⟩ := h
  exact gss_raise hc tk h.gC (pmk_own PySem.F.excBase_ValueError h.xP h.gC h.kP (raises_own h.bP h.tP) hg hdb)
/-! xs[::-1] -/
def revD : PyData → Res PyData
  | .list xs => .ok (.list xs.reverse)
  | _ => .stuck
theorem ge_rev {k : Nat} {p1 p2 p3 : Pos} (h : GW X E e ρ r) : GE X E (.Subscript e (.Slice none none (some (.UnaryOp .USub (.Constant (.int 1) k p1) p2)) p3) pos) ρ (r >>= revD) := by
  refine .mk ⟨_, pe_revL we_ok, fun A σ H Q ev q => ?_⟩
  refine h A σ H _ ev (q.bind.mono fun d qd v H1 s1 rv => ?_)
  unfold revD at qd
  split at qd
  · obtain ⟨p, vs, rfl, h1, h2⟩ := rv.lst
    exact ⟨p, vs, rfl, .of h1, fun l n => qd _ _ (s1.trans (same_new n)) (Rep.new_lst n (ev.same s1).tr h2.rev)⟩
  · exact qd.elim
end
end Dt

namespace Dt
open PySem PySem.Spec PyProof.Rows L2

section
variable {X : Cx} {pins : List (Addr × Obj)} {σ : L2.St} {H : Hp} {s : Shared} {A : Ow}
mutual
theorem nested_of (I : Inv X pins σ H s) : ∀ (d : PyData) (v : V) (u : Value), Rep A (kx X) H v d → RelV v u → keyIn d = true → NestedIs s.heap (nk d) u
  | .none, _, _, h, r, _ => by cases h; cases r; exact .none
  | .bool b, _, _, h, r, _ => by cases h; cases r; exact .bool rfl
  | .int i, _, _, h, r, _ => by cases h; obtain ⟨t, rfl⟩ := r; exact .int i t
  | .str x, _, _, h, r, _ => by cases h; obtain ⟨t, rfl⟩ := r; exact .text x t
  | .tuple xs, _, _, h, r, k => by
    cases h with
    | tup h1 h2 =>
      cases r
      obtain ⟨its, rv, ⟨o, ho, hc, n, hd⟩, hz⟩ := I.tuple h1
      exact .tup ho hc hd (nested_all I xs _ _ h2 (by simpa using rv) (by simpa [keyIn] using k))
  | .list _, _, _, _, _, k => by simp [keyIn] at k
  | .dict _, _, _, _, _, k => by simp [keyIn] at k
theorem nested_all (I : Inv X pins σ H s) : ∀ (ds : List PyData) (vs : List V) (us : List Value), Reps A (kx X) H vs ds → Vals vs us → keysIn ds = true → NestedAll s.heap (nk.nks ds) us
  | [], _, _, h, r, _ => by cases h; cases r; exact .nil
  | d :: ds, _, _, h, r, k => by
    cases h with
    | cons h1 h2 =>
      cases r with
      | cons r1 r2 =>
        rw [keysIn, Bool.and_eq_true] at k
        exact .cons (nested_of I d _ _ h1 r1 k.1) (nested_all I ds _ _ h2 r2 k.2)
end
theorem key_is (I : Inv X pins σ H s) {d : PyData} {b : Addr} (h : Rep A (kx X) H (.ref b) d) (k : keyOk d = true) : (nestedKind X.prog X.w).is s.heap (nk d) b := by
  unfold keyOk at k
  rw [Bool.and_eq_true, Bool.and_eq_true] at k
  exact ⟨nested_of I d _ _ h rfl k.1.2, of_decide_eq_true k.2⟩
/-- the entries of a dict, with the values -/
abbrev PairV : NestedKey × Addr × V → NestedKey × Addr × Value → Prop := fun p q => p.1 = q.1 ∧ p.2.1 = q.2.1 ∧ RelV p.2.2 q.2.2
theorem pair_fst : ∀ {xs : List (NestedKey × Addr × V)} {vs : List (NestedKey × Addr × Value)}, Paired PairV xs vs → xs.map (·.1) = vs.map (·.1)
  | _, _, .nil => rfl
  | _, _, .cons a t => by rw [List.map_cons, List.map_cons, a.1, pair_fst t]
theorem pair_len : ∀ {xs : List (NestedKey × Addr × V)} {vs : List (NestedKey × Addr × Value)}, Paired PairV xs vs → xs.length = vs.length
  | _, _, .nil => rfl
  | _, _, .cons a t => by rw [List.length_cons, List.length_cons, pair_len t]
/-- entries and what they are: the values by a relation of one's own -/
abbrev DRG {β : Type} (A : Ow) (κ : Kx) (H : Hp) (VR : V → β → Prop) : List (NestedKey × Addr × V) → List (PyData × β) → Prop :=
  Paired fun x p => x.1 = nk p.1 ∧ Rep A κ H (.ref x.2.1) p.1 ∧ VR x.2.2 p.2
theorem dic_open {β : Type} {VR : V → β → Prop} (I : Inv X pins σ H s) {a : Addr} {xs : List (NestedKey × Addr × V)} {kvs : List (PyData × β)} (h : DicAt (kx X) H a xs) (r : DRG A (kx X) H VR xs kvs) (k : ∀ d ∈ kvs, keyOk d.1 = true) :
    ∃ vs, Paired PairV xs vs ∧ s.heap.DictOfH (nestedKind X.prog X.w) a vs ∧ (a == sysModules) = false ∧ xs.length ≤ sizeLine := by
  obtain ⟨ep, h⟩ := h
  obtain ⟨⟨hs, hz, hn, o, es, vs, h1, h2, h3, h4, h5⟩, _⟩ := I.hok a _ h
  refine ⟨vs, h4, ⟨o, es, ep, h1, h2, h3, h5, ?_, ?_⟩, hs, hz⟩
  · clear hn hz h h5
    have : ∀ {xs : List (NestedKey × Addr × V)} {vs : List (NestedKey × Addr × Value)} {ks : List (PyData × β)}, Paired PairV xs vs → DRG A (kx X) H VR xs ks → (∀ d ∈ ks, keyOk d.1 = true) → ∀ x ∈ vs, (nestedKind X.prog X.w).is s.heap x.1 x.2.1 := fun {xs} => by
      induction xs with
      | nil =>
        intro vs ks p _ _ x hx
        cases p
        cases hx
      | cons x xs ih =>
        intro vs ks p r k y hy
        cases p with
        | cons p1 p2 =>
          cases r with
          | cons r1 r2 =>
            rcases List.mem_cons.mp hy with z | z
            · rw [z, ← p1.1, ← p1.2.1, r1.1]
              exact key_is I r1.2.1 (k _ List.mem_cons_self)
            · exact ih p2 r2 (fun d hd => k d (List.mem_cons_of_mem _ hd)) y z
    exact this h4 r k
  · rw [← pair_fst h4]
    exact hn
end

/-! ### looking up, storing -/
def lookG {β : Type} (kvs : List (PyData × β)) (k : PyData) : Option β := (kvs.find? fun p => decide (nk p.1 = nk k)).map (·.2)
def putG {β : Type} (kvs : List (PyData × β)) (k : PyData) (v : β) : List (PyData × β) :=
  if (lookG kvs k).isSome then kvs.map (fun p => if nk p.1 = nk k then (p.1, v) else p) else kvs ++ [(k, v)]
def lookV (xs : List (NestedKey × Addr × V)) (k : NestedKey) : Option (Addr × V) := (xs.find? fun x => decide (x.1 = k)).map (·.2)
def putV (xs : List (NestedKey × Addr × V)) (k : NestedKey) (a : Addr) (v : V) : List (NestedKey × Addr × V) :=
  if (lookV xs k).isSome then xs.map (fun x => if x.1 = k then (x.1, x.2.1, v) else x) else xs ++ [(k, a, v)]
section
variable {β : Type} {A : Ow} {κ : Kx} {H : Hp} {VR : V → β → Prop}
theorem look_VU {k : NestedKey} : ∀ {xs : List (NestedKey × Addr × V)} {vs : List (NestedKey × Addr × Value)}, Paired PairV xs vs → (lookV xs k = none ∧ atKey vs k = none) ∨ ∃ b v u, lookV xs k = some (b, v) ∧ atKey vs k = some (b, u) ∧ RelV v u
  | _, _, .nil => .inl ⟨rfl, rfl⟩
  | x :: xs, y :: vs, .cons a t => by
    unfold lookV atKey
    by_cases h : x.1 = k
    · rw [List.find?_cons_of_pos (by simpa using h), List.find?_cons_of_pos (by rw [← a.1]; simpa using h)]
      exact .inr ⟨x.2.1, x.2.2, y.2.2, rfl, by rw [a.2.1]; rfl, a.2.2⟩
    · rw [List.find?_cons_of_neg (by simpa using h), List.find?_cons_of_neg (by rw [← a.1]; simpa using h)]
      exact look_VU t
theorem look_VD {k : PyData} : ∀ {xs : List (NestedKey × Addr × V)} {kvs : List (PyData × β)}, DRG A κ H VR xs kvs → (lookV xs (nk k) = none ∧ lookG kvs k = none) ∨ ∃ b v e, lookV xs (nk k) = some (b, v) ∧ lookG kvs k = some e ∧ VR v e
  | _, _, .nil => .inl ⟨rfl, rfl⟩
  | x :: xs, y :: vs, .cons a t => by
    unfold lookV lookG
    by_cases h : x.1 = nk k
    · rw [List.find?_cons_of_pos (by simpa using h), List.find?_cons_of_pos (by rw [← a.1]; simpa using h)]
      exact .inr ⟨x.2.1, x.2.2, y.2, rfl, rfl, a.2.2⟩
    · rw [List.find?_cons_of_neg (by simpa using h), List.find?_cons_of_neg (by rw [← a.1]; simpa using h)]
      exact look_VD t
theorem Paired.snoc' {α γ : Type} {F : α → γ → Prop} {a : α} {b : γ} : ∀ {l : List α} {m : List γ}, Paired F l m → F a b → Paired F (l ++ [a]) (m ++ [b])
  | _, _, .nil, h => .cons h .nil
  | _, _, .cons r t, h => .cons r (Paired.snoc' t h)
theorem put_VU {k : NestedKey} {a : Addr} {v : V} {u : Value} (r : RelV v u) {xs : List (NestedKey × Addr × V)} {vs : List (NestedKey × Addr × Value)} (p : Paired PairV xs vs) : Paired PairV (putV xs k a v) (storedH vs k a u) := by
  have m : ∀ {xs : List (NestedKey × Addr × V)} {vs : List (NestedKey × Addr × Value)}, Paired PairV xs vs → Paired PairV (xs.map fun x => if x.1 = k then (x.1, x.2.1, v) else x) (vs.map (putAt k u)) := fun {xs vs} p => by
    induction p with
    | nil => exact .nil
    | @cons x y _ _ a t ih =>
      refine .cons ?_ ih
      unfold putAt
      dsimp only
      by_cases h : x.1 = k
      · rw [if_pos h, if_pos (a.1 ▸ h)]
        exact ⟨a.1, a.2.1, r⟩
      · rw [if_neg h, if_neg (a.1 ▸ h)]
        exact a
  unfold putV storedH
  rcases look_VU (k := k) p with ⟨h1, h2⟩ | ⟨b, v', u', h1, h2, h3⟩
  · rw [h1, h2, if_neg (by simp), if_neg (by simp)]
    exact Paired.snoc' p ⟨rfl, rfl, r⟩
  · rw [h1, h2, if_pos (by simp), if_pos (by simp)]
    exact m p
theorem put_VD {k : PyData} {a : Addr} {v : V} {e : β} (rk : Rep A κ H (.ref a) k) (r : VR v e) {xs : List (NestedKey × Addr × V)} {kvs : List (PyData × β)} (p : DRG A κ H VR xs kvs) : DRG A κ H VR (putV xs (nk k) a v) (putG kvs k e) := by
  have m : ∀ {xs : List (NestedKey × Addr × V)} {vs : List (PyData × β)}, DRG A κ H VR xs vs → DRG A κ H VR (xs.map fun x => if x.1 = nk k then (x.1, x.2.1, v) else x) (vs.map fun p => if nk p.1 = nk k then (p.1, e) else p) := fun {xs vs} p => by
    induction p with
    | nil => exact .nil
    | @cons x y _ _ a t ih =>
      refine .cons ?_ ih
      dsimp only
      by_cases h : x.1 = nk k
      · rw [if_pos h, if_pos (a.1 ▸ h)]
        exact ⟨a.1, a.2.1, r⟩
      · rw [if_neg h, if_neg (a.1 ▸ h)]
        exact a
  unfold putV putG
  rcases look_VD (k := k) p with ⟨h1, h2⟩ | ⟨b, v', u', h1, h2, h3⟩
  · rw [h1, h2, if_neg (by simp), if_neg (by simp)]
    exact Paired.snoc' p ⟨rfl, rk, r⟩
  · rw [h1, h2, if_pos (by simp), if_pos (by simp)]
    exact m p
theorem putV_fst {k : NestedKey} {a : Addr} {v : V} {xs : List (NestedKey × Addr × V)} (n : (xs.map (·.1)).Nodup) : ((putV xs k a v).map (·.1)).Nodup := by
  unfold putV
  split
  · rw [List.map_map]
    have : (Prod.fst ∘ fun x : NestedKey × Addr × V => if x.1 = k then (x.1, x.2.1, v) else x) = Prod.fst := by
      funext x
      show (if x.1 = k then (x.1, x.2.1, v) else x).1 = x.1
      split <;> rfl
    rw [this]
    exact n
  · rename_i h
    rw [List.map_append, List.nodup_append]
    refine ⟨n, by simp, fun y hy z hz e => ?_⟩
    obtain ⟨x, hx, rfl⟩ := List.mem_map.mp hy
    rw [List.map_singleton, List.mem_singleton] at hz
    have e' : x.1 = k := e.trans hz
    apply h
    unfold lookV
    rw [Option.isSome_map, List.find?_isSome]
    exact ⟨x, hx, by simpa using e'⟩
theorem putV_len {k : NestedKey} {a : Addr} {v : V} {xs : List (NestedKey × Addr × V)} : (putV xs k a v).length ≤ xs.length + 1 := by
  unfold putV
  split
  · rw [List.length_map]; exact Nat.le_succ _
  · rw [List.length_append]; exact Nat.le_refl _
/-- as the two lists -/
theorem dr_of {xs : List (NestedKey × Addr × V)} {kvs : List (PyData × PyData)} : DRG A κ H (Rep A κ H) xs kvs ↔ Reps A κ H (xs.map fun x => V.ref x.2.1) (kvs.map (·.1)) ∧ Reps A κ H (xs.map (·.2.2)) (kvs.map (·.2)) ∧ xs.map (·.1) = kvs.map (fun p => nk p.1) := by
  constructor
  · intro h
    induction h with
    | nil => exact ⟨.nil, .nil, rfl⟩
    | cons a t ih => exact ⟨.cons a.2.1 ih.1, .cons a.2.2 ih.2.1, by rw [List.map_cons, List.map_cons, a.1, ih.2.2]⟩
  · rintro ⟨h1, h2, h3⟩
    induction xs generalizing kvs with
    | nil =>
      cases kvs with
      | nil => exact .nil
      | cons p ps => cases h3
    | cons x xs ih =>
      cases kvs with
      | nil => cases h3
      | cons p ps =>
        cases h1 with
        | cons a1 t1 =>
          cases h2 with
          | cons a2 t2 => exact .cons ⟨(List.cons.inj h3).1, a1, a2⟩ (ih t1 t2 (List.cons.inj h3).2)
theorem DRG.len {xs : List (NestedKey × Addr × V)} {kvs : List (PyData × β)} : DRG A κ H VR xs kvs → xs.length = kvs.length := fun h => by
  induction h with
  | nil => rfl
  | cons a t ih => rw [List.length_cons, List.length_cons, ih]
theorem DRG.mv {A' : Ow} {H' : Hp} {VR' : V → β → Prop} (m : Mv A A' H H') (hv : ∀ v e, VR v e → VR' v e) {xs : List (NestedKey × Addr × V)} {kvs : List (PyData × β)} (h : DRG A κ H VR xs kvs) : DRG A' κ H' VR' xs kvs :=
  L2.Paired.mapP h fun x p ⟨a, b, c⟩ => ⟨a, b.mv m, hv _ _ c⟩
theorem RepW.dic {v : V} {kvs : List (PyData × PyData)} (h : RepW A κ H v (.dict kvs)) : (∃ p xs, v = .ref p ∧ DicAt κ H p xs ∧ DRG A κ H (Rep A κ H) xs kvs ∧ ∀ p ∈ kvs, keyOk p.1 = true) ∨ ∃ ns : List Int, kvs = [(.str "<script>", .list (ns.map .int))] := by
  rcases h with h | ⟨p, rfl, ha, xs, h1, h2, h3, h4, h5⟩
  · generalize e : PyData.dict kvs = d at h
    cases h with
    | dic h1 h2 h3 h4 h5 h6 => cases e; exact .inl ⟨_, _, rfl, h1, dr_of.mpr ⟨h3, h4, h5⟩, h6⟩
    | scr h1 => cases e; exact .inr ⟨_, rfl⟩
    | _ => cases e
  · exact .inl ⟨p, xs, rfl, h1, dr_of.mpr ⟨h2, h3, h4⟩, h5⟩
end
/-- a dict told by entries of one's own, written -/
theorem dic_obj {P : Program} {w : World} {h : Heap} {a : Addr} {xs : List (NestedKey × Addr × V)} {vs : List (NestedKey × Addr × Value)} (hs : (a == sysModules) = false) (hz : xs.length ≤ sizeLine) (p : Paired PairV xs vs) (d : h.DictOfH (nestedKind P w) a vs) : ∃ ep, ∀ H, ObjOk P w H h a (DicO P w a xs ep) := by
  obtain ⟨o, es, ep, h1, h2, h3, h4, h5, h6⟩ := d
  refine ⟨ep, fun H => ⟨⟨hs, hz, by rw [pair_fst p]; exact h6, o, es, vs, h1, h2, h3, p, h4⟩, ⟨o, h1⟩, ?_⟩⟩
  rintro g1 g2 ⟨a1, a2, a3, o', es', vs', b1, b2, b3, b4, b5⟩ k
  exact ⟨a1, a2, a3, o', es', vs', k _ b1, b2, b3, b4, b5⟩
end Dt

namespace Dt
open PySem PySem.Spec PyProof.Rows L2

section
variable {X : Cx} {pins : List (Addr × Obj)} {σ : L2.St} {H : Hp} {s : Shared} {A : Ow}
theorem dic_type (I : Inv X pins σ H s) {a : Addr} {xs : List (NestedKey × Addr × V)} (h : DicAt (kx X) H a xs) : s.TypeIs (.ref a) "dict" ∧ ∃ ob, s.heap.get? a = some ob ∧ ob.dict = none := by
  obtain ⟨ep, h⟩ := h
  obtain ⟨⟨_, _, _, o, es, vs, h1, h2, _⟩, _⟩ := I.hok a _ h
  exact ⟨⟨o, h1, h2.1⟩, o, h1, h2.2.1⟩
/-- a key that is looked for -/
structure KeyV (A : Ow) (κ : Kx) (H : Hp) (y : V) (b : Addr) (d : PyData) : Prop where
  eq : y = .ref b
  rep : Rep A κ H (.ref b) d
  ok : keyOk d = true
theorem KeyV.of {κ : Kx} {y : V} {d : PyData} (h : Rep A κ H y d) (k : keyOk d = true) : ∃ b, KeyV A κ H y b d := by
  unfold keyOk at k
  rw [Bool.and_eq_true, Bool.and_eq_true] at k
  cases d with
  | tuple xs =>
    cases h with
    | tup h1 h2 => exact ⟨_, rfl, .tup h1 h2, by unfold keyOk; rw [Bool.and_eq_true, Bool.and_eq_true]; exact k⟩
  | _ => simp at k
/-- the dict at a with its keys -/
def DicK (A : Ow) (κ : Kx) (H : Hp) (a : Addr) (xs : List (NestedKey × Addr × V)) {β : Type} (kvs : List (PyData × β)) : Prop := DicAt κ H a xs ∧ DRG A κ H (fun _ _ => True) xs kvs ∧ ∀ p ∈ kvs, keyOk p.1 = true
end
section
variable {X : Cx}
theorem op_inDic (hu : X.A.units + 20 < cLine) : OpR X (compareOp .In) (fun x y H Q => ∃ (A : Ow) (β : Type) (a b : Addr) (xs : List (NestedKey × Addr × V)) (kvs : List (PyData × β)) (d : PyData), KeyV A (kx X) H x b d ∧ y = .ref a ∧ DicK A (kx X) H a xs kvs ∧ Q (.bl (lookG kvs d).isSome) H) := by
  intro pins s σ H x y v u Q I rx ry h
  obtain ⟨A, β, a, b, xs, kvs, d, k, rfl, ⟨h1, h2, h3⟩, q⟩ := h
  obtain rfl := k.eq
  cases rx
  cases ry
  obtain ⟨vs, p, hm, hs, hz⟩ := dic_open I h1 h2 h3
  have e : (atKey vs (nk d)).isSome = (lookG kvs d).isSome := by
    rcases look_VU (k := nk d) p with ⟨e1, e2⟩ | ⟨b', v', u', e1, e2, e3⟩
    · rcases look_VD (k := d) h2 with ⟨e4, e5⟩ | ⟨b'', v'', e'', e4, e5, e6⟩
      · rw [e2, e5]; rfl
      · rw [e1] at e4; cases e4
    · rcases look_VD (k := d) h2 with ⟨e4, e5⟩ | ⟨b'', v'', e'', e4, e5, e6⟩
      · rw [e1] at e4; cases e4
      · rw [e2, e5]; rfl
  refine wpAny_in_heap (knd := nestedKind X.prog X.w) (by show X.A.units + 1 + 8 < cLine; omega) (key_is I k.rep k.ok) hs hm ?_
  rw [e]
  exact ⟨.bl _, H, I.tok _, rfl, q⟩
theorem op_notInDic (hu : X.A.units + 20 < cLine) : OpR X (compareOp .NotIn) (fun x y H Q => ∃ (A : Ow) (β : Type) (a b : Addr) (xs : List (NestedKey × Addr × V)) (kvs : List (PyData × β)) (d : PyData), KeyV A (kx X) H x b d ∧ y = .ref a ∧ DicK A (kx X) H a xs kvs ∧ Q (.bl (!(lookG kvs d).isSome)) H) := by
  intro pins s σ H x y v u Q I rx ry h
  obtain ⟨A, β, a, b, xs, kvs, d, k, rfl, ⟨h1, h2, h3⟩, q⟩ := h
  obtain rfl := k.eq
  cases rx
  cases ry
  obtain ⟨vs, p, hm, hs, hz⟩ := dic_open I h1 h2 h3
  have e : (valueAt (pairsH vs) (nk d)).isSome = (lookG kvs d).isSome := by
    rw [valueAt_pairsH, Option.isSome_map]
    rcases look_VU (k := nk d) p with ⟨e1, e2⟩ | ⟨b', v', u', e1, e2, e3⟩
    · rcases look_VD (k := d) h2 with ⟨e4, e5⟩ | ⟨b'', v'', e'', e4, e5, e6⟩
      · rw [e2, e5]; rfl
      · rw [e1] at e4; cases e4
    · rcases look_VD (k := d) h2 with ⟨e4, e5⟩ | ⟨b'', v'', e'', e4, e5, e6⟩
      · rw [e1] at e4; cases e4
      · rw [e2, e5]; rfl
  refine notIn_keyed (knd := nestedKind X.prog X.w) (kvs := pairsH vs) (by show X.A.units + 1 + 8 < cLine; omega) (key_is I k.rep k.ok) hs ⟨vs, hm, rfl⟩ ?_
  rw [e]
  exact ⟨.bl _, H, I.tok _, rfl, q⟩
/-- d[k] -/
def rIxDic (X : Cx) : R2 := fun x y H Q => ∃ (A : Ow) (β : Type) (a b : Addr) (xs : List (NestedKey × Addr × V)) (kvs : List (PyData × β)) (d : PyData) (c : Addr) (v : V), KeyV A (kx X) H y b d ∧ x = .ref a ∧ DicK A (kx X) H a xs kvs ∧ lookV xs (nk d) = some (c, v) ∧ Q v H
theorem get_dic {pins : List (Addr × Obj)} {s : Shared} {σ : L2.St} {H : Hp} {x y : V} {v u : Value} {Q : VK} (hu : X.A.units + 20 < cLine) (I : Inv X pins σ H s) (rx : RelV x v) (ry : RelV y u) (h : rIxDic X x y H Q) : (∃ a, v = .ref a ∧ s.TypeIs (.ref a) "dict") ∧ wpAny (model X.prog X.w) X.A (getItem v u) (EP X pins σ Q) X.xe s := by
  obtain ⟨A, β, a, b, xs, kvs, d, c, w, k, rfl, ⟨h1, h2, h3⟩, hl, q⟩ := h
  obtain rfl := k.eq
  cases rx
  cases ry
  refine ⟨⟨a, rfl, (dic_type I h1).1⟩, ?_⟩
  obtain ⟨vs, p, hm, hs, hz⟩ := dic_open I h1 h2 h3
  rcases look_VU (k := nk d) p with ⟨e1, e2⟩ | ⟨b', v', u', e1, e2, e3⟩
  · rw [e1] at hl; cases hl
  · rw [e1] at hl
    cases hl
    exact wpAny_getItem_heap (knd := nestedKind X.prog X.w) (by show X.A.units + 1 + 8 < cLine; omega) (key_is I k.rep k.ok) hm e2 ⟨_, H, I.tok _, e3, q⟩
theorem ix_dic (hu : X.A.units + 20 < cLine) : IxR X (rIxDic X) := by
  intro value slice pins s σ H x y v u Q I rx ry h hs
  obtain ⟨⟨a, rfl, ht⟩, hw⟩ := get_dic hu I rx ry h
  exact tail_any ht PySem.slot_dict_getitem.lookup hw hs
/-- d.get(k, x) -/
theorem mt_get (hu : X.A.units + 20 < cLine) : MtR X "dict.get" (fun x vs H Q => ∃ (A : Ow) (β : Type) (a b : Addr) (xs : List (NestedKey × Addr × V)) (kvs : List (PyData × β)) (d : PyData) (y z : V), x = .ref a ∧ vs = [y, z] ∧ KeyV A (kx X) H y b d ∧ DicK A (kx X) H a xs kvs ∧ Q ((lookV xs (nk d)).elim z (·.2)) H) := by
  intro pins s σ H x vs v us Q I rx rv h
  obtain ⟨A, β, a, b, xs, kvs, d, y, z, rfl, rfl, k, ⟨h1, h2, h3⟩, q⟩ := h
  obtain rfl := k.eq
  cases rx
  obtain ⟨u1, u2, rfl, r1, r2⟩ := rv.two
  cases r1
  obtain ⟨ws, p, hm, hs, hz⟩ := dic_open I h1 h2 h3
  refine getOr_keyed (knd := nestedKind X.prog X.w) (kvs := pairsH ws) (by show X.A.units + 1 + 8 < cLine; omega) (key_is I k.rep k.ok) hs ⟨ws, hm, rfl⟩ ?_
  rw [valueAt_pairsH]
  rcases look_VU (k := nk d) p with ⟨e1, e2⟩ | ⟨b', v', u', e1, e2, e3⟩
  · rw [e2]
    rw [e1] at q
    exact ⟨z, H, I.tok _, r2, q⟩
  · rw [e2]
    rw [e1] at q
    exact ⟨v', H, I.tok _, e3, q⟩
/-- d[k] = v -/
theorem set_dic (hu : X.A.units + 20 < cLine) : PSet X (fun o i v H Q => ∃ (A : Ow) (β : Type) (a b : Addr) (xs : List (NestedKey × Addr × V)) (kvs : List (PyData × β)) (d : PyData), o = .ref a ∧ KeyV A (kx X) H i b d ∧ DicK A (kx X) H a xs kvs ∧ xs.length < sizeLine ∧ ∀ ep, Q (upd H a (DicO X.prog X.w a (putV xs (nk d) b v) ep))) := by
  intro pins s σ H o i v ov iv u Q I ro ri rv h
  obtain ⟨A, β, a, b, xs, kvs, d, rfl, k, ⟨h1, h2, h3⟩, hz, q⟩ := h
  obtain rfl := k.eq
  cases ro
  cases ri
  obtain ⟨ws, p, hm, hs, _⟩ := dic_open I h1 h2 h3
  obtain ⟨ep, h1⟩ := h1
  refine wpAny_setItem_heap (knd := nestedKind X.prog X.w) (by show X.A.units + 1 + 8 < cLine; omega) (key_is I k.rep k.ok) hm (fun h' hm' sb => ?_) (by rw [← pair_len p]; exact Nat.le_of_lt hz)
  obtain ⟨ep', ob⟩ := dic_obj hs (Nat.le_trans putV_len hz) (put_VU rv p) hm'
  exact ⟨_, I.write (t' := s.toks + _) (by rw [h1]; exact trivial) (.inl rfl) (fun b o hb e => (sb.2 b hb).trans e) (let ⟨u, _, _, e, _⟩ := hm'; ⟨u, e⟩) (ob _), q ep'⟩
/-- {} -/
theorem pe_dnew {pos : Pos} : PE X (.Dict [] [] pos) (fun _ H Q => ∀ p ep, H p = none → Q (.ref p) (upd H p (DicO X.prog X.w p [] ep))) := ⟨fun pins s σ H Q I h => by
  have d : (s.heap.push { cls := .type "dict", data := .dict #[] }).DictOfH (nestedKind X.prog X.w) s.heap.objs.size [] := Heap.DictOfH.new _
  have hs : (s.heap.objs.size == sysModules) = false := beq_eq_false_iff_ne.mpr (Ne.symm (Nat.ne_of_lt I.big))
  obtain ⟨ep, ob⟩ := dic_obj (P := X.prog) (w := X.w) (xs := []) hs (Nat.zero_le _) .nil d
  exact wpAny_Dict_empty ⟨.ref s.heap.objs.size, _, I.laid (a := s.heap.objs.size) (o := DicO X.prog X.w s.heap.objs.size [] ep) (t' := s.toks) (fun _ _ q => Heap.get?_push_of_some _ q) (Nat.le_refl _) (ob _), rfl, h _ ep (I.hok.fresh (Nat.le_refl _))⟩⟩
/-! a dict walked by its keys -/
def Itd (P : Program) (w : World) (a : Addr) (xs : List (NestedKey × Addr × V)) (ep : Nat) : It :=
  ⟨fun i H => H a = some (DicO P w a xs ep) ∧ i < xs.length, fun i H x H' => H' = H ∧ ∃ e, xs[i]? = some e ∧ x = .ref e.2.1, fun i H => H a = some (DicO P w a xs ep) ∧ xs.length ≤ i⟩
theorem pair_at : ∀ {xs : List (NestedKey × Addr × V)} {vs : List (NestedKey × Addr × Value)} {i : Nat} {e : NestedKey × Addr × V}, Paired PairV xs vs → xs[i]? = some e → ∃ u, vs[i]? = some u ∧ PairV e u
  | _, _, _, _, .nil, h => by simp at h
  | _, _, 0, _, .cons r _, h => by simp at h; subst h; exact ⟨_, rfl, r⟩
  | _, _, i + 1, _, .cons r t, h => by
    obtain ⟨u, h1, h2⟩ := pair_at t (by simpa using h)
    exact ⟨u, by simpa using h1, h2⟩
theorem dic_raw {pins : List (Addr × Obj)} {s : Shared} {σ : L2.St} {H : Hp} {a : Addr} {xs : List (NestedKey × Addr × V)} {ep : Nat} (I : Inv X pins σ H s) (h : H a = some (DicO X.prog X.w a xs ep)) :
    (a == sysModules) = false ∧ ∃ es, s.heap.DictRaw a es ep ∧ es.size = xs.length ∧ ∀ (i : Nat) (hi : i < es.size) (e : NestedKey × Addr × V), xs[i]? = some e → es[i].key = .ref e.2.1 := by
  obtain ⟨⟨hs, _, _, o, es, vs, h1, h2, h3, h4, h5⟩, _⟩ := I.hok a _ h
  have hl : es.size = vs.length := by rw [← Array.length_toList, h5, List.length_map]
  refine ⟨hs, es, ⟨o, h1, h2, h3⟩, by rw [hl, pair_len h4], fun i hi e he => ?_⟩
  obtain ⟨u, e1, e2⟩ := pair_at h4 he
  have : es.toList[i]? = some (entryOfKey (nestedKind X.prog X.w) u) := by rw [h5, List.getElem?_map, e1]; rfl
  rw [Array.getElem?_toList, Array.getElem?_eq_getElem hi] at this
  rw [Option.some.inj this, e2.2.1]
  rfl
theorem turn_dic {P : Program} {w : World} {K : PySem.W.Frag} {tg : Expr} (a it : Addr) (xs : List (NestedKey × Addr × V)) (ep : Nat) : Turn P w K tg (Itd P w a xs ep) [it] it (fun i h => h.IsKeyIter it a i xs.length ep) where
  mem := by simp
  obj := fun i h st b hb => by
    have e : b = it := by simpa using hb
    subst e
    obtain ⟨o, e, c, d⟩ := st
    exact ⟨o, e, fun v z => by rw [d] at z; cases z⟩
  keep := fun i h h' st k => st.at fun o e => k it (by simp) o e
  item := by
    intro X hP hw hK hc i pins s σ H E I hf st hg
    subst hP hw hK
    obtain ⟨hd, hi⟩ := hg
    obtain ⟨hs, es, hm, hl, hk⟩ := dic_raw I hd
    obtain ⟨f0, f1, f2, f3, f4, f5⟩ := hf it (by simp)
    have hi' : i < es.size := by rw [hl]; exact hi
    refine wpAny_pyNext_keys_item_raw (by rw [hl]; exact st) hm hi' fun h' st' sb => ?_
    rw [hl] at st'
    have I1 : Inv X pins σ H { s with heap := h' } := I.turned (t' := s.toks) (fun b o hb e => (sb.2 b hb).trans e) f0 f1 f3 f4 f5
    obtain ⟨o, e, c, d⟩ := id st'
    rw [hk i hi' xs[i] (List.getElem?_eq_getElem hi)]
    exact ⟨_, rfl, go_of (s := { s with heap := h' }) e c d (by decide) ⟨.ref xs[i].2.1, H, I1, rfl, ⟨rfl, xs[i], List.getElem?_eq_getElem hi, rfl⟩, st', fun b hb => (hf b hb).1⟩⟩
  done := by
    intro X hP hw hK hc i pins s σ H E I hf st hg
    subst hP hw hK
    obtain ⟨hd, hi⟩ := hg
    obtain ⟨hs, es, hm, hl, hk⟩ := dic_raw I hd
    obtain ⟨f0, f1, f2, f3, f4, f5⟩ := hf it (by simp)
    exact wpAny_pyNext_keys_end_raw (I.ok.hd hc) (by rw [hl]; exact st) hm (by rw [hl]; exact hi) fun h' eb => ⟨rfl, I.turned (t' := s.toks) (fun b o hb e => eb b o hb e) f0 f1 f3 f4 f5⟩
  self := fun _ _ _ _ _ st h => wpAny_pyIter_keyiter st h
theorem pi_dic {tg l : Expr} {tl : TE} (hl : PE X l tl) : PI X tg l (fun σ H R => tl σ H fun x H1 => ∃ a xs ep, x = .ref a ∧ H1 a = some (DicO X.prog X.w a xs ep) ∧ R (Itd X.prog X.w a xs ep) H1) := by
  refine ⟨fun pins s σ H R I h => ?_⟩
  refine thn (hl.run pins s σ H _ I h) fun v s1 ⟨x, H1, I1, r1, q1⟩ => ?_
  obtain ⟨a, xs, ep, rfl, hd, q⟩ := q1
  cases r1
  obtain ⟨hs, es, hm, hz, hk⟩ := dic_raw I1 hd
  refine wpAny_pyIter_dict_raw hs hm ?_
  refine ⟨s1.heap.objs.size, [s1.heap.objs.size], _, _, H1, rfl, I1.kept (t' := s1.toks) fun b o e => Heap.get?_push_of_some _ e, turn_dic a _ xs ep, ?_, fun b hb => ?_, q⟩
  · rw [← hz]
    exact ⟨_, Heap.get?_push_size _ rfl, rfl, rfl⟩
  · have e : b = s1.heap.objs.size := by simpa using hb
    subst e
    exact I1.fpOk (Nat.le_refl _) (I1.hok.fresh (Nat.le_refl _))
end
end Dt

namespace Dt
open PySem PySem.Spec PyProof.Rows L2

/-! ### dicts among data -/
/-- no script -/
def notScr {β : Type} : List (PyData × β) → Bool
  | (.str _, _) :: _ => false
  | _ => true
theorem RepW.dic' {A : Ow} {κ : Kx} {H : Hp} {v : V} {kvs : List (PyData × PyData)} (h : RepW A κ H v (.dict kvs)) (n : notScr kvs = true) : ∃ p xs, v = .ref p ∧ DicAt κ H p xs ∧ DRG A κ H (Rep A κ H) xs kvs ∧ ∀ p ∈ kvs, keyOk p.1 = true := by
  rcases h.dic with h | ⟨ns, rfl⟩
  · exact h
  · cases n
theorem DRG.any {β : Type} {A : Ow} {κ : Kx} {H : Hp} {VR : V → β → Prop} {xs : List (NestedKey × Addr × V)} {kvs : List (PyData × β)} (h : DRG A κ H VR xs kvs) : DRG A κ H (fun _ _ => True) xs kvs := L2.Paired.mapP h fun _ _ ⟨a, b, _⟩ => ⟨a, b, trivial⟩
def inE (d e : PyData) : Res PyData := match e with
  | .dict kvs => if (keyOk d && notScr kvs) = true then .ok (.bool (lookG kvs d).isSome) else .stuck
  | _ => inD d e
def notInE (d e : PyData) : Res PyData := match e with
  | .dict kvs => if (keyOk d && notScr kvs) = true then .ok (.bool (!(lookG kvs d).isSome)) else .stuck
  | _ => notInD d e
def idxE (d e : PyData) : Res PyData := match d with
  | .dict kvs => if (keyOk e && notScr kvs) = true then match lookG kvs e with
      | some v => .ok v
      | none => .stuck
    else .stuck
  | _ => idxD d e
section
variable {α β : Type} {X : Cx} {E : XK} {ρ ρ' : List Sl} {e a b c iter tg : Expr} {es : List Expr} {r ra rb rc : Res PyData} {rt : Res Bool} {ri rs : Res (List PyData)} {pos p' p : Pos} {sh : α → List Sl} {sb : β → List Sl} {x : Str} {rest body : List Stmt}
theorem RepW.key {A : Ow} {κ : Kx} {H : Hp} {y : V} {d : PyData} (h : RepW A κ H y d) (k : keyOk d = true) : ∃ b, KeyV A κ H y b d := by
  rcases h with h | ⟨p, rfl, ha, ho⟩
  · exact KeyV.of h k
  · unfold keyOk at k
    cases d <;> first | exact ho.elim | simp at k
theorem inE_ok (hu : X.A.units + 65 < cLine) : Op2 X (compareOp .In) inE := by
  obtain ⟨r, h1, h2⟩ := in_ok hu
  refine ⟨_, h1.or (op_inDic (by omega)), fun E A H x y d e Q tr rx ry q => ?_⟩
  unfold inE at q
  split at q
  · split at q
    · rename_i h
      rw [Bool.and_eq_true] at h
      obtain ⟨b, k⟩ := rx.key h.1
      obtain ⟨p, xs, rfl, h3, h4, h5⟩ := ry.dic' h.2
      exact .inr ⟨A, PyData, p, b, xs, _, d, k, rfl, ⟨h3, h4.any, h5⟩, q _ H (Same.refl _) (.bl _)⟩
    · exact q.elim
  · exact .inl (h2 E A H x y d e Q tr rx ry q)
theorem notInE_ok (hu : X.A.units + 65 < cLine) : Op2 X (compareOp .NotIn) notInE := by
  obtain ⟨r, h1, h2⟩ := notIn_ok hu
  refine ⟨_, h1.or (op_notInDic (by omega)), fun E A H x y d e Q tr rx ry q => ?_⟩
  unfold notInE at q
  split at q
  · split at q
    · rename_i h
      rw [Bool.and_eq_true] at h
      obtain ⟨b, k⟩ := rx.key h.1
      obtain ⟨p, xs, rfl, h3, h4, h5⟩ := ry.dic' h.2
      exact .inr ⟨A, PyData, p, b, xs, _, d, k, rfl, ⟨h3, h4.any, h5⟩, q _ H (Same.refl _) (.bl _)⟩
    · exact q.elim
  · exact .inl (h2 E A H x y d e Q tr rx ry q)
theorem idx_run {A : Ow} {H : Hp} {x y : V} {d e : PyData} {Q : VK} (tr : Tr A H) (rx : RepW A (kx X) H x d) (ry : RepW A (kx X) H y e) (q : PostR X E H (idxD d e) (OkE X A H Q)) : rIx X.K x y H Q := by
  unfold idxD at q
  split at q
  · obtain ⟨p, vs, rfl, h1, h2⟩ := rx.lst
    obtain rfl := ry.int
    split at q
    · obtain ⟨v, h3, h4⟩ := Reps.atI h2 (by assumption)
      exact .inl ⟨p, vs, _, v, rfl, rfl, .of h1, h3, q _ H (Same.refl _) h4⟩
    · exact q.elim
  · obtain ⟨p, vs, rfl, h1, h2⟩ := rx.tup
    obtain rfl := ry.int
    split at q
    · obtain ⟨v, h3, h4⟩ := Reps.atI h2 (by assumption)
      exact .inr (.inl ⟨p, vs, _, v, rfl, rfl, h1, h3, q _ H (Same.refl _) h4⟩)
    · exact q.elim
  · obtain rfl := rx.str
    obtain rfl := ry.int
    split at q
    · split at q
      · exact .inr (.inr ⟨_, _, _, rfl, rfl, by assumption, by assumption, q _ H (Same.refl _) (.str _)⟩)
      · exact q.elim
    · exact q.elim
  · exact q.elim
theorem ge_idxE (hu : X.A.units + 65 < cLine) (ha : GW X E a ρ ra) (hb : GW X E b ρ rb) (hs : PlainIx b := by intro _ _; rfl) : GE X E (.Subscript a b pos) ρ (b2 idxE ra rb) := by
  have hr : ∀ (E : XK) (A : Ow) (H : Hp) (x y : V) (d e : PyData) (Q : VK), Tr A H → RepW A (kx X) H x d → RepW A (kx X) H y e → PostR X E H (idxE d e) (OkE X A H Q) → (rIx X.K x y H Q ∨ rIxDic X x y H Q) := fun E A H x y d e Q tr rx ry q => by
    unfold idxE at q
    split at q
    · split at q
      · rename_i h
        rw [Bool.and_eq_true] at h
        obtain ⟨b, k⟩ := ry.key h.1
        obtain ⟨p, xs, rfl, h3, h4, h5⟩ := rx.dic' h.2
        split at q
        · rename_i v hv
          rcases look_VD (k := e) h4 with ⟨e4, e5⟩ | ⟨b'', v'', e'', e4, e5, e6⟩
          · rw [e5] at hv; cases hv
          · rw [e5] at hv
            cases hv
            exact .inr ⟨A, PyData, p, b, xs, _, e, b'', v'', k, rfl, ⟨h3, h4.any, h5⟩, e4, q _ H (Same.refl _) e6⟩
        · exact q.elim
      · exact q.elim
    · exact .inl (idx_run tr rx ry q)
  obtain ⟨ta, tb, pa, pb, h⟩ := two ha hb hr
  exact .mk ⟨_, pe_ix (ix_seq.or (ix_dic (by omega))) pa pb hs, h⟩
/-! d.get(k, x) -/
def dcD : PyData → Res (List (PyData × PyData))
  | .dict kvs => if notScr kvs = true then .ok kvs else .stuck
  | _ => .stuck
def getE (kvs : List (PyData × PyData)) (k z : PyData) : Res PyData := if keyOk k = true then .ok ((lookG kvs k).getD z) else .stuck
def getR (r rk rz : Res PyData) : Res PyData := r >>= dcD >>= fun kvs => rk >>= fun k => rz >>= fun z => getE kvs k z
theorem ge_get {o ek ez : Expr} {rk rz : Res PyData} {apos cpos : Pos} (hu : X.A.units + 65 < cLine) (ho : GW X E o ρ r) (h1 : GE X E ek ρ rk) (h2 : GE X E ez ρ rz)
    (hbase : attributeBase o "get" X.env (eval o X.env) = eval o X.env := by rfl)
    (hfew : ((backTo cpos (starEach [ek, ez] X.env)).all (fun x => !x.1) && (backToKw cpos (keywordEach [] X.env)).all (fun x => x.1.isSome)
      && decide (([ek, ez] : List Expr).length + ([] : List Keyword).length + (if ([] : List Keyword).isEmpty then 0 else 1) < 30)) = true := by rfl)
    (hline : (apos.endLine == cpos.line) = true := by rfl) (hs : starEach [ek, ez] X.env = (false, eval ek X.env) :: starEach [ez] X.env := by rfl) (hs2 : starEach [ez] X.env = (false, eval ez X.env) :: starEach [] X.env := by rfl) (hplain : (backTo cpos (starEach [ez] X.env)).any (·.1) = false := by rfl) :
    GE X E (.Call (.Attribute o "get" apos) [ek, ez] [] cpos) ρ (getR r rk rz) := by
  refine .mk ⟨fun σ H Q => WE X o σ H fun x H1 => (∃ (a : Addr) (xs : List (NestedKey × Addr × V)), x = .ref a ∧ DicAt (kx X) H1 a xs) ∧ WA X [ek, ez] σ H1 fun vs H2 => ∃ (A : Ow) (β : Type) (a b : Addr) (xs : List (NestedKey × Addr × V)) (kvs : List (PyData × β)) (d : PyData) (y z : V), x = .ref a ∧ vs = [y, z] ∧ KeyV A (kx X) H2 y b d ∧ DicK A (kx X) H2 a xs kvs ∧ Q ((lookV xs (nk d)).elim z (·.2)) H2, ⟨fun pins s σ H Q I h => ?_⟩, fun A σ H Q ev q => ?_⟩
  · refine wpAny_Call_method_late hbase hfew hline rfl (thn (we_ok.run pins s σ H _ I h) fun v s1 ⟨x, H1, I1, r1, ⟨a, xs, e, hd⟩, q1⟩ => ?_)
    subst e
    cases r1
    obtain ⟨t1, ob, t2, t3⟩ := dic_type I1 hd
    refine ⟨"dict", "dict.get", PySem.F.plainAttrs_dict, PySem.F.slot_dict_get, PySem.F.type_dict_get, t1, fun a' e => ?_, ?_⟩
    · cases e
      exact ⟨ob, t2, t3⟩
    have hA := wa_ok.run cpos pins s1 σ H1 _ I1 q1
    rw [hs] at hA ⊢
    refine Calls.callWith_builtin (by show (false || (backTo cpos (starEach [ez] X.env)).any (·.1)) = false; rw [hplain] <;> rfl) (Calls.evalArgs_plain ?_)
    exact thn hA fun us s2 ⟨vs, H2, I2, r2, q2⟩ => mt_get (by omega) pins s2 σ H2 (.ref a) vs (.ref a) us Q I2 rfl r2 q2
  · unfold getR at q
    refine ho A σ H _ ev (q.bind.bind.mono fun d qd v H1 s1 rv => ?_)
    cases d with
    | dict kvs =>
      have qd : PostR X E H (if notScr kvs = true then .ok kvs else .stuck) _ := qd
      by_cases hns : notScr kvs = true
      · rw [if_pos hns] at qd
        obtain ⟨p, xs, rfl, h3, h4, h5⟩ := rv.dic' hns
        refine ⟨⟨p, xs, rfl, h3⟩, ?_⟩
        have e : (rk >>= fun k => rz >>= fun z => getE kvs k z) = (allR [rk, rz] >>= fun ds => match ds with | [k, z] => getE kvs k z | _ => .stuck) := by
          cases rk with
          | ok k => cases rz <;> rfl
          | err c => rfl
          | stuck => rfl
        have qd1 : PostR X E H (rk >>= fun k => rz >>= fun z => getE kvs k z) _ := qd
        rw [e] at qd1
        refine ga_cons h1 (ga_cons h2 ga_nil hs2) hs A σ H1 _ (ev.same s1) (qd1.bind.imp s1 fun ds qds vs H2 s2 rs => ?_)
        cases rs with
        | nil => exact qds.elim
        | cons r1 t =>
          cases t with
          | nil => exact qds.elim
          | cons r2 t =>
            cases t with
            | nil =>
              rename_i y k z e
              have qds' : PostR X E H (getE kvs k e) (OkE X A H Q) := qds
              unfold getE at qds'
              split at qds'
              · rename_i hk
                obtain ⟨b, kv⟩ := KeyV.of r1 hk
                have m := DRG.mv (Mv.same s2) (fun v e h => h.same s2) h4
                refine ⟨A, PyData, p, b, xs, kvs, k, y, z, rfl, rfl, kv, ⟨let ⟨ep, h⟩ := h3; ⟨ep, s2 _ _ h⟩, m.any, h5⟩, ?_⟩
                have qq : OkE X A H Q ((lookG kvs k).getD e) := qds'
                rcases look_VD (k := k) m with ⟨e4, e5⟩ | ⟨b'', v'', e'', e4, e5, e6⟩
                · rw [e4]
                  rw [e5] at qq
                  exact qq _ H2 (s1.trans s2) r2
                · rw [e4]
                  rw [e5] at qq
                  exact qq _ H2 (s1.trans s2) e6
              · exact qds'.elim
            | cons r3 t => exact qds.elim
      · rw [if_neg hns] at qd
        exact qd.elim
    | _ => exact qd.elim
/-! ### a dict of the def's own -/
theorem mut_dic {H : Hp} {p : Addr} {xs : List (NestedKey × Addr × V)} (h : DicAt (kx X) H p xs) : Mut (H p) := by obtain ⟨ep, h⟩ := h; rw [h]; exact trivial
/-- {} as an expression -/
theorem ge_dnew : GE X E (.Dict [] [] pos) ρ (.ok (.dict [])) := .mk ⟨_, pe_dnew, fun A σ H Q ev q p ep n => q _ _ (same_new n) (.dic ⟨ep, upd_same⟩ (not_own ev.tr n) .nil .nil rfl (fun _ h => by cases h))⟩
theorem gss_dnew {i : Nat} {k : List (PyData × PyData) → Res (Out α)} (hN : X.N.Nodup) (k' : ∀ d, GSs X E rest (ρ.set i (.ow (.dict d))) sh (k d)) (hi : X.N[i]? = some x := by rfl) (hx : Loc X.env.scope x := by first | exact .inl rfl | exact .inr rfl)
    (hs : swapsWith (.Dict [] [] p) (some (.Name x p')) pos.line X.env = pure false := by rfl) (hf : X.fn x = true ∨ X.env.scope.names.lookup x = some .local := by first | exact .inl rfl | exact .inr rfl) :
    GSs X E (.Assign [.Name x p'] (.Dict [] [] p) pos :: rest) ρ sh (k []) := fun A0 H0 γ σ H D er q => by
  obtain ⟨A, er⟩ := er
  refine wss_cons (ps_set hN hi hx pe_dnew hs hf) fun p ep n => ?_
  exact k' [] A0 H0 γ _ _ D (er.set_ow (Same.refl _) n (same_new n) ⟨[], ⟨ep, upd_same⟩, .nil, .nil, rfl, fun _ h => by cases h⟩) q
theorem gss_dnewO {i : Nat} {k : List (PyData × List PyData) → Res (Out α)} (hN : X.N.Nodup) (k' : ∀ d, GSs X E rest (ρ.set i (.od d)) sh (k d)) (hi : X.N[i]? = some x := by rfl) (hx : Loc X.env.scope x := by first | exact .inl rfl | exact .inr rfl)
    (hs : swapsWith (.Dict [] [] p) (some (.Name x p')) pos.line X.env = pure false := by rfl) (hf : X.fn x = true ∨ X.env.scope.names.lookup x = some .local := by first | exact .inl rfl | exact .inr rfl) :
    GSs X E (.Assign [.Name x p'] (.Dict [] [] p) pos :: rest) ρ sh (k []) := fun A0 H0 γ σ H D er q => by
  obtain ⟨A, er⟩ := er
  refine wss_cons (ps_set hN hi hx pe_dnew hs hf) fun p ep n => ?_
  refine k' [] A0 H0 γ _ _ D ⟨_, er.ins (i := i) (Same.refl _) n (same_new n) ?_⟩ q
  have g := er.ev.grow (k := i + 1) n (same_new (o := DicO X.prog X.w p [] ep) n) upd_same
  refine ⟨by rw [List.length_set, List.length_set, g.len], g.tr, fun j => ?_⟩
  by_cases e : i = j
  · subst e
    by_cases h : i < ρ.length
    · rw [getD_set_same h, List.getElem?_set_self (by rw [er.ev.len]; exact h)]
      exact ⟨p, rfl, ins_same, [], [], ⟨ep, upd_same⟩, .nil, rfl, rfl, List.nodup_nil, .nil, fun _ h => by cases h⟩
    · rw [show (ρ.set i (.od [])).getD i .no = .no by simp [List.getD, h]]
      trivial
  · rw [getD_set_ne e, List.getElem?_set_ne e]
    exact g.sl j
/-- x[k] = e -/
def dPut (kvs : List (PyData × PyData)) (k v : PyData) : Res (List (PyData × PyData)) := if (keyOk k && decide (kvs.length < sizeLine)) = true then .ok (putG kvs k v) else .stuck
theorem keyOk_put {β : Type} {kvs : List (PyData × β)} {k : PyData} {v : β} (h : ∀ p ∈ kvs, keyOk p.1 = true) (hk : keyOk k = true) : ∀ p ∈ putG kvs k v, keyOk p.1 = true := fun p hp => by
  unfold putG at hp
  split at hp
  · obtain ⟨z, hz, rfl⟩ := List.mem_map.mp hp
    split
    · exact h z hz
    · exact h z hz
  · rcases List.mem_append.mp hp with hp | hp
    · exact h p hp
    · rw [List.mem_singleton.mp hp]
      exact hk
theorem gss_dput {i : Nat} {l : List (PyData × PyData)} {k : List (PyData × PyData) → Res (Out α)} {px ps : Pos} {ke : Expr} (hu : X.A.units + 65 < cLine) (hv : PE X (.Name x px) (tVar i)) (h : GE X E e ρ r) (h2 : GE X E ke ρ rb) (k' : ∀ d, GSs X E rest (ρ.set i (.ow (.dict d))) sh (k d)) (hd : ρ.getD i .no = .ow (.dict l) := by rfl)
    (ha : ∀ v, assign (.Subscript (.Name x px) ke ps) X.env v = (do
      let ov ← holding [v] (eval (.Name x px) X.env)
      let iv ← holding [v, ov] (eval ke X.env)
      standAt ps
      holding [v, ov, iv] (setItem ov iv v)
      release [v, ov, iv] []) := by intro _; rfl) (hs : swapsWithSole [.Subscript (.Name x px) ke ps] e pos.line X.env = pure false := by rfl) (hw : swappedStores [.Subscript (.Name x px) ke ps] e X.env = pure none := by rfl)
    (h1 : (assignEach [.Subscript (.Name x px) ke ps] X.env).map (·.2) = [assign (.Subscript (.Name x px) ke ps) X.env] := by rfl) :
    GSs X E (.Assign [.Subscript (.Name x px) ke ps] e pos :: rest) ρ sh (r >>= fun d => rb >>= fun j => dPut l j d >>= k) := fun A0 H0 γ σ H D er q => by
  obtain ⟨A, er⟩ := er
  refine wss_cons (ps_asg we_ok (pg_sub hv we_ok (set_dic (by omega)) ha) hs hw h1) ?_
  refine h A σ H _ er.ev (q.bind.imp er.same fun d qd v H1 s1 rv => ?_)
  have er1 := er.same' s1
  have z := er1.ev.sl i
  rw [hd] at z
  obtain ⟨a, e1, ha, xs, h1, h3, h4, h5, h6⟩ := z
  refine ⟨.ref a, e1, ?_⟩
  refine h2 A σ H1 _ er1.ev (qd.bind.imp er1.same fun j qj w H2 s2 rw' => ?_)
  have er2 := er1.same' s2
  unfold dPut at qj
  split at qj
  · rename_i hz
    rw [Bool.and_eq_true] at hz
    obtain ⟨b, kv⟩ := KeyV.of rw' hz.1
    have dr := DRG.mv (Mv.same s2) (fun v e h => h.same s2) (dr_of.mpr ⟨h3, h4, h5⟩)
    have h1' : DicAt (kx X) H2 a xs := let ⟨ep, h⟩ := h1; ⟨ep, s2 _ _ h⟩
    refine ⟨A, PyData, a, b, xs, l, j, rfl, kv, ⟨h1', dr.any, h6⟩, by rw [dr.len]; exact of_decide_eq_true hz.2, fun ep => ?_⟩
    have m : Mv A A H2 (upd H2 a (DicO X.prog X.w a (putV xs (nk j) b v) ep)) := Mv.write (by rw [ha]; exact fun z => by cases z) (mut_dic h1')
    have dr2 := dr_of.mp (DRG.mv m (fun v e h => h.mv m) (put_VD kv.rep (rv.same s2) dr))
    exact k' _ A0 H0 γ σ _ D (er2.write hd e1 ha (mut_dic h1') ⟨_, ⟨ep, upd_same⟩, dr2.1, dr2.2.1, dr2.2.2, keyOk_put h6 hz.1⟩) qj
  · exact qj.elim
/-! a dict whose lists are the def's own -/
theorem drg_keys {β : Type} {A : Ow} {κ : Kx} {H : Hp} : ∀ {xs : List (NestedKey × Addr × V)} {kvs : List (PyData × β)}, Reps A κ H (xs.map fun x => V.ref x.2.1) (kvs.map (·.1)) → xs.map (·.1) = kvs.map (fun p => nk p.1) → DRG A κ H (fun _ _ => True) xs kvs
  | [], [], _, _ => .nil
  | [], _ :: _, _, h => by cases h
  | _ :: _, [], _, h => by cases h
  | _ :: _, _ :: _, .cons a t, h => .cons ⟨(List.cons.inj h).1, a, trivial⟩ (drg_keys t (List.cons.inj h).2)
theorem notin_od {i : Nat} {kvs : List (PyData × List PyData)} {px : Pos} (hu : X.A.units + 65 < cLine) (h : GE X E e ρ r) (hv : PE X (.Name x px) (tVar i)) (hd : ρ.getD i .no = .od kvs := by rfl) (hm : behindInMarks .NotIn (.Name x px) = false := by first | exact nomark _ | with_unfolding_all rfl) :
    GT X E (.Compare e [.NotIn] [.Name x px] pos) ρ (r >>= fun d => if keyOk d = true then .ok (!(lookG kvs d).isSome) else .stuck) := by
  refine .mk ⟨_, pt_cmpR (op_notInDic (by omega)) we_ok hv hm, fun A σ H Q ev q => ?_⟩
  refine h A σ H _ ev (q.bind.mono fun d qd v H1 s1 rv => ?_)
  split at qd
  · rename_i hk
    have z := (ev.same s1).sl i
    rw [hd] at z
    obtain ⟨a, e1, ha, xs, qs, h1, h3, h4, h5, h6, h7, h8⟩ := z
    obtain ⟨b, kv⟩ := KeyV.of rv hk
    refine ⟨.ref a, e1, A, List PyData, a, b, xs, kvs, d, kv, rfl, ⟨h1, drg_keys h3 h4, h8⟩, _, rfl, qd H1 s1⟩
  · exact qd.elim
end
end Dt

namespace Dt
open PySem PySem.Spec PyProof.Rows L2

/-! ### sorted(set(xs)), xs a list of tuples of small ints, all of one length -/
def tinyI : PyData → Bool
  | .int n => decide (0 ≤ n) && decide (n < 4096)
  | _ => false
def intV : PyData → Int
  | .int n => n
  | _ => 0
def tupInts : PyData → List Int
  | .tuple xs => xs.map intV
  | _ => []
def ofInts (ns : List Int) : PyData := .tuple (ns.map PyData.int)
def isIT : PyData → Bool
  | .tuple xs => xs.all tinyI
  | _ => false
def codeLe (x y : List Int) : Bool := decide (_root_.TS.code 4096 x ≤ _root_.TS.code 4096 y)
def dedup : List (List Int) → List (List Int)
  | [] => []
  | x :: xs => if x ∈ dedup xs then dedup xs else x :: dedup xs
theorem mem_dedup {x : List Int} : ∀ {l : List (List Int)}, x ∈ dedup l ↔ x ∈ l
  | [] => Iff.rfl
  | y :: l => by
    unfold dedup
    split
    · rename_i h
      rw [mem_dedup, List.mem_cons]
      exact ⟨fun z => .inr z, fun z => z.elim (fun e => by rw [e]; exact mem_dedup.mp h) id⟩
    · rw [List.mem_cons, List.mem_cons, mem_dedup]
theorem dedup_nodup : ∀ l : List (List Int), (dedup l).Nodup
  | [] => List.nodup_nil
  | y :: l => by
    unfold dedup
    split
    · exact dedup_nodup l
    · exact List.nodup_cons.mpr ⟨by assumption, dedup_nodup l⟩
def sortI (l : List (List Int)) : List (List Int) := (dedup l).mergeSort codeLe
def sameLen (l : List (List Int)) : Bool := match l with
  | [] => true
  | x :: xs => decide (1 ≤ x.length) && xs.all fun y => decide (y.length = x.length)
def sortSetC : PyData → Res (List PyData)
  | .list ds => if (ds.all isIT && sameLen (ds.map tupInts) && decide (ds.length < 64)) = true then .ok ((sortI (ds.map tupInts)).map ofInts) else .stuck
  | _ => .stuck
theorem sameLen_of {l : List (List Int)} (h : sameLen l = true) : ∃ d, 1 ≤ d ∧ ∀ x ∈ l, x.length = d := by
  cases l with
  | nil => exact ⟨1, Nat.le_refl _, fun x h => by cases h⟩
  | cons y l =>
    unfold sameLen at h
    rw [Bool.and_eq_true, List.all_eq_true] at h
    refine ⟨y.length, of_decide_eq_true h.1, fun x hx => ?_⟩
    rcases List.mem_cons.mp hx with e | e
    · rw [e]
    · exact of_decide_eq_true (h.2 x e)
theorem code_inj {d : Nat} : ∀ {x y : List Int}, x.length = d → y.length = d → _root_.TS.Bd 4096 x → _root_.TS.Bd 4096 y → _root_.TS.code 4096 x = _root_.TS.code 4096 y → x = y := by
  induction d with
  | zero =>
    intro x y hx hy _ _ _
    rw [List.length_eq_zero_iff.mp hx, List.length_eq_zero_iff.mp hy]
  | succ d ih =>
    intro x y hx hy bx yb e
    cases x with
    | nil => cases hx
    | cons a x =>
      cases y with
      | nil => cases hy
      | cons b y =>
        have hl : x.length = y.length := by simp at hx hy; omega
        rcases Int.lt_trichotomy a b with z | z | z
        · have := _root_.TS.code_lt hl bx.tail yb.tail z
          omega
        · subst z
          have e2 : _root_.TS.code 4096 x = _root_.TS.code 4096 y := by
            have : a * 4096 ^ x.length + _root_.TS.code 4096 x = a * 4096 ^ y.length + _root_.TS.code 4096 y := e
            rw [hl] at this
            omega
          rw [ih (by simpa using hx) (by simpa using hy) bx.tail yb.tail e2]
        · have := _root_.TS.code_lt hl.symm yb.tail bx.tail z
          omega
theorem perm_sorted {α : Type} {le : α → α → Prop} (anti : ∀ {x y}, le x y → le y x → x = y) : ∀ {l m : List α}, l.Perm m → l.Pairwise le → m.Pairwise le → l = m
  | [], m, p, _, _ => (List.nil_perm.mp p).symm
  | x :: l, [], p, _, _ => absurd (List.perm_nil.mp p) (by simp)
  | x :: l, y :: m, p, hl, hm => by
    obtain ⟨h1, h2⟩ := List.pairwise_cons.mp hl
    obtain ⟨h3, h4⟩ := List.pairwise_cons.mp hm
    have e : x = y := by
      have hx : x ∈ y :: m := p.mem_iff.mp List.mem_cons_self
      have hy : y ∈ x :: l := p.mem_iff.mpr List.mem_cons_self
      rcases List.mem_cons.mp hx with z | z
      · exact z
      rcases List.mem_cons.mp hy with z' | z'
      · exact z'.symm
      exact anti (h1 y z') (h3 x z)
    subst e
    rw [perm_sorted anti (p.cons_inv) h2 h4]
theorem perm_of_mem {l m : List (List Int)} (hl : l.Nodup) (hm : m.Nodup) (h : ∀ x, x ∈ l ↔ x ∈ m) : l.Perm m := (List.perm_ext_iff_of_nodup hl hm).mpr fun x => h x
theorem sortI_uniq {l m : List (List Int)} {d : Nat} (hd : ∀ x ∈ m, x.length = d ∧ _root_.TS.Bd 4096 x) (hn : l.Nodup) (h : ∀ x, x ∈ l ↔ x ∈ m) (hp : l.Pairwise fun x y => _root_.TS.code 4096 x ≤ _root_.TS.code 4096 y) : l = sortI m := by
  have p1 : (sortI m).Perm (dedup m) := List.mergeSort_perm _ _
  have p : l.Perm (sortI m) := (perm_of_mem hn (dedup_nodup m) fun x => by rw [h, mem_dedup]).trans p1.symm
  have hs : (sortI m).Pairwise fun x y => _root_.TS.code 4096 x ≤ _root_.TS.code 4096 y := (List.pairwise_mergeSort (le := codeLe) (fun a b c h1 h2 => by unfold codeLe at *; simp only [decide_eq_true_eq] at *; omega) (fun a b => by unfold codeLe; simp only [Bool.or_eq_true, decide_eq_true_eq]; omega) _).imp fun h => of_decide_eq_true h
  have hin : ∀ x ∈ l, x.length = d ∧ _root_.TS.Bd 4096 x := fun x hx => hd x ((h x).mp hx)
  have q1 : l.Pairwise fun x y => (x.length = d ∧ _root_.TS.Bd 4096 x) ∧ (y.length = d ∧ _root_.TS.Bd 4096 y) ∧ _root_.TS.code 4096 x ≤ _root_.TS.code 4096 y := hp.imp_of_mem fun hx hy z => ⟨hin _ hx, hin _ hy, z⟩
  have q2 : (sortI m).Pairwise fun x y => (x.length = d ∧ _root_.TS.Bd 4096 x) ∧ (y.length = d ∧ _root_.TS.Bd 4096 y) ∧ _root_.TS.code 4096 x ≤ _root_.TS.code 4096 y := hs.imp_of_mem fun hx hy z => ⟨hin _ (p.mem_iff.mpr hx), hin _ (p.mem_iff.mpr hy), z⟩
  exact perm_sorted (fun a b => code_inj a.1.1 a.2.1.1 a.1.2 a.2.1.2 (Int.le_antisymm a.2.2 b.2.2)) p q1 q2
section
variable {A : Ow} {κ : Kx} {H : Hp}
theorem reps_ints : ∀ {vs : List V} {xs : List PyData}, Reps A κ H vs xs → xs.all tinyI = true → vs = (xs.map intV).map V.int ∧ xs = (xs.map intV).map PyData.int
  | _, _, .nil, _ => ⟨rfl, rfl⟩
  | _, _, .cons (d := d) r t, h => by
    rw [List.all_cons, Bool.and_eq_true] at h
    obtain ⟨e1, e2⟩ := reps_ints t h.2
    cases d with
    | int n =>
      cases r
      exact ⟨congrArg _ e1, congrArg _ e2⟩
    | _ => exact absurd h.1 (by unfold tinyI; simp)
theorem small_bd {xs : List PyData} (h : xs.all tinyI = true) : _root_.TS.Bd 4096 (xs.map intV) := fun m hm => by
  obtain ⟨d, hd, rfl⟩ := List.mem_map.mp hm
  have := List.all_eq_true.mp h d hd
  cases d with
  | int n =>
    unfold tinyI at this
    simp only [Bool.and_eq_true, decide_eq_true_eq] at this
    exact this
  | _ => exact absurd this (by unfold tinyI; simp)
theorem reps_tups : ∀ {vs : List V} {ds : List PyData}, Reps A κ H vs ds → ds.all isIT = true → ∃ ks : List (Addr × List Int), vs = ks.map (fun p => V.ref p.1) ∧ ds.map tupInts = ks.map (·.2) ∧ (∀ p ∈ ks, SqT κ.K H p.1 (p.2.map V.int) ∧ _root_.TS.Bd 4096 p.2)
  | _, _, .nil, _ => ⟨[], rfl, rfl, fun p h => by cases h⟩
  | _, _, .cons (d := d) r t, h => by
    rw [List.all_cons, Bool.and_eq_true] at h
    obtain ⟨ks, e1, e2, e3⟩ := reps_tups t h.2
    cases d with
    | tuple xs =>
      cases r with
      | tup h1 h2 =>
        have hx : xs.all tinyI = true := h.1
        obtain ⟨f1, f2⟩ := reps_ints h2 hx
        refine ⟨(_, xs.map intV) :: ks, congrArg _ e1, congrArg _ e2, fun p hp => ?_⟩
        rcases List.mem_cons.mp hp with z | z
        · rw [z]
          exact ⟨f1 ▸ h1, small_bd hx⟩
        · exact e3 p z
    | _ => exact absurd h.1 (by unfold isIT; simp)
theorem reps_ofInts (ns : List Int) : Reps A κ H (ns.map V.int) (ns.map PyData.int) := by
  induction ns with
  | nil => exact .nil
  | cons n ns ih => exact .cons (.int n) ih
theorem reps_back : ∀ {ks : List (Addr × List Int)}, (∀ p ∈ ks, SqT κ.K H p.1 (p.2.map V.int)) → Reps A κ H (ks.map fun p => V.ref p.1) ((ks.map (·.2)).map ofInts)
  | [], _ => .nil
  | p :: ks, h => .cons (.tup (h p List.mem_cons_self) (reps_ofInts _)) (reps_back fun q hq => h q (List.mem_cons_of_mem _ hq))
end
section
variable {X : Cx} {E : XK} {ρ : List Sl} {e : Expr} {r : Res PyData} {pos p p2 q : Pos}
theorem go_sortset (hc : X.calm = true) (hu : X.A.units + 65 < cLine) (hg : Gl X "sorted") (hm : X.mg "sorted" = none) (hg2 : Gl X "set") (hm2 : X.mg "set" = none) (h : GW X E e ρ r)
    (he : starEach [e] X.env = (false, eval e X.env) :: starEach [] X.env := by rfl)
    (he1 : starEach [.Call (.Name "set" p2) [e] [] q] X.env = (false, eval (.Call (.Name "set" p2) [e] [] q) X.env) :: starEach [] X.env := by rfl)
    (hpl : (backTo q (starEach [] X.env)).any (·.1) = false := by rfl) (hpl1 : (backTo pos (starEach [] X.env)).any (·.1) = false := by rfl) :
    GO X E (.Call (.Name "sorted" p) [.Call (.Name "set" p2) [e] [] q] [] pos) ρ (r >>= sortSetC) := by
  obtain ⟨t, pe, hh⟩ := h.ex
  refine .mk ⟨_, pe_callB (cr_sortedT hc) hg hm bt_sorted (pa_cons (pe_callTy (cr_setOfT hc (by omega)) hg2 hm2 bt_set (pa_cons pe pa_nil he) (by decide) (by decide) he hpl) pa_nil he1) (by decide) (by decide) he1 hpl1, fun A σ H Q ev q => ?_⟩
  refine hh A σ H _ ev (q.bind.mono fun d qd v H1 s1 rv => ?_)
  unfold sortSetC at qd
  split at qd
  · rename_i ds
    split at qd
    · rename_i hz
      rw [Bool.and_eq_true, Bool.and_eq_true] at hz
      obtain ⟨pl, vs, rfl, hl, rs⟩ := rv.lst
      obtain ⟨ks, e1, e2, e3⟩ := reps_tups rs hz.1.1
      obtain ⟨d, d1, d2⟩ := sameLen_of hz.1.2
      have hlen : ks.length < 64 := by
        have : ds.length = ks.length := by rw [← rs.length, e1, List.length_map]
        rw [← this]
        exact of_decide_eq_true hz.2
      refine ⟨pl, ks, rfl, e1 ▸ .of hl, fun p hp => (e3 p hp).1, hlen, fun a L na hL1 hL2 => ?_⟩
      have sn := same_new (o := SetTO X.prog X.w a L) na
      have hk : ∀ p ∈ L, p.2.length = d ∧ _root_.TS.Bd 4096 p.2 := fun p hp => ⟨d2 _ (by rw [e2]; exact List.mem_map_of_mem (hL1 p hp)), (e3 p (hL1 p hp)).2⟩
      have hs : ∀ p ∈ L, SqT X.K (upd H1 a (SetTO X.prog X.w a L)) p.1 (p.2.map V.int) := fun p hp => (Mv.same (A := A) sn).sqT (e3 p (hL1 p hp)).1
      refine ⟨a, L, d, 4096, rfl, upd_same, hs, d1, hk, fun L' b pm nd hf pw nb => ?_⟩
      have e : L'.map (·.2) = sortI (ds.map tupInts) := by
        refine sortI_uniq (d := d) (fun x hx => ?_) nd (fun x => ?_) (List.pairwise_map.mpr pw)
        · rw [e2] at hx
          obtain ⟨p, hp, rfl⟩ := List.mem_map.mp hx
          exact ⟨d2 _ (by rw [e2]; exact List.mem_map_of_mem hp), (e3 p hp).2⟩
        · rw [e2, (pm.map (·.2)).mem_iff]
          constructor
          · intro hx
            obtain ⟨p, hp, rfl⟩ := List.mem_map.mp hx
            exact List.mem_map_of_mem (hL1 p hp)
          · intro hx
            obtain ⟨p, hp, rfl⟩ := List.mem_map.mp hx
            exact hL2 p hp
      refine qd b (upd H1 a (SetTO X.prog X.w a L)) _ (s1.trans sn) nb (same_new nb) ⟨_, upd_same, ?_⟩
      rw [← e]
      refine reps_back fun p hp => ?_
      exact (Mv.same (A := A) (same_new nb)).sqT (hs p (pm.mem_iff.mp hp))
    · exact qd.elim
  · exact qd.elim
end
end Dt

namespace Dt
open PySem PySem.Spec PyProof.Rows L2

/-! ### a dict of texts that nobody changes -/
theorem EV.set_pd {A : Ow} {κ : Kx} {ρ : List Sl} {σ : L2.St} {H : Hp} {i : Nat} {p : Addr} {kvs : List (Key × V)} (ev : EV A κ ρ σ H) (ha : A p = none) (r : H p = some (.dK kvs)) : EV A κ (ρ.set i (.pd kvs)) (σ.set i (some (V.ref p))) H := by
  refine ⟨by rw [List.length_set, List.length_set, ev.len], ev.tr, fun j => ?_⟩
  by_cases e : i = j
  · subst e
    by_cases h : i < ρ.length
    · rw [getD_set_same h, List.getElem?_set_self (by rw [ev.len]; exact h)]
      exact ⟨p, rfl, ha, r⟩
    · rw [show (ρ.set i (.pd kvs)).getD i .no = .no by simp [List.getD, h]]
      trivial
  · rw [getD_set_ne e, List.getElem?_set_ne e]
    exact ev.sl j
def pdD (kvs : List (Key × V)) : PyData → Res PyData
  | .str s => match valV kvs (.inr s) with
    | some (.str t) => .ok (.str t)
    | _ => .stuck
  | _ => .stuck
section
variable {α : Type} {X : Cx} {E : XK} {ρ : List Sl} {e ke : Expr} {r : Res PyData} {pos p' px : Pos} {sh : α → List Sl} {x : Str} {rest : List Stmt}
theorem gss_pd {i : Nat} {keys : List (Option Expr)} {values : List Expr} {trs : List (TE × TE)} {dpos : Pos} (kvs : List (Key × V)) {k : Res (Out α)} (hN : X.N.Nodup) (hp : PPs X dpos keys values trs)
    (ht : ∀ σ H (Q : List (V × V) → Hp → Prop), Q (kvs.map fun kv => (kV kv.1, kv.2)) H → tPairs trs σ H Q) (h15 : kvs.length ≤ 15) (k' : GSs X E rest (ρ.set i (.pd (mergeK [] kvs))) sh k)
    (hall : keys.all (·.isSome) = true := by rfl) (hl : keys.length = values.length := by rfl) (h0 : keys ≠ [] := by exact fun z => nomatch z) (hk : keys.length ≤ 15 := by decide)
    (hi : X.N[i]? = some x := by rfl) (hx : Loc X.env.scope x := by first | exact .inl rfl | exact .inr rfl)
    (hs : swapsWith (.Dict keys values dpos) (some (.Name x p')) pos.line X.env = pure false := by rfl) (hf : X.fn x = true ∨ X.env.scope.names.lookup x = some .local := by first | exact .inl rfl | exact .inr rfl) :
    GSs X E (.Assign [.Name x p'] (.Dict keys values dpos) pos :: rest) ρ sh k := fun A0 H0 γ σ H D er q => by
  obtain ⟨A, er⟩ := er
  refine wss_cons (ps_set hN hi hx (pe_disp hp hall hl h0 hk) hs hf) fun p n => ?_
  refine ht _ _ _ ⟨upd_same, kvs, rfl, h15, ?_⟩
  have s : Same H (upd (upd H p (.dK [])) p (.dK (mergeK [] kvs))) := fun a o h => by
    have ne : a ≠ p := fun z => by rw [z, n] at h; cases h
    rw [upd_ne ne, upd_ne ne]
    exact h
  have er1 := er.same' s
  exact k' A0 H0 γ _ _ D ⟨A, ⟨er1.ev.set_pd (not_own er.ev.tr n) upd_same, er1.gs, er1.sub, er1.same, er1.new, er1.t0⟩⟩ q
theorem ge_ixpd {i : Nat} {kvs : List (Key × V)} (hu : X.A.units + 65 < cLine) (hv : PE X (.Name x px) (tVar i)) (h : GE X E ke ρ r) (hd : ρ.getD i .no = .pd kvs := by rfl) (hs : NoSl ke := by intro _ _; rfl) :
    GE X E (.Subscript (.Name x px) ke pos) ρ (r >>= pdD kvs) := by
  obtain ⟨t, pe, hh⟩ := h.ex
  refine .mk ⟨_, pe_dget (by omega) hv pe hs, fun A σ H Q ev q => ?_⟩
  have z := ev.sl i
  rw [hd] at z
  obtain ⟨p, e1, ha, hp⟩ := z
  refine ⟨.ref p, e1, hh A σ H _ ev (q.bind.mono fun d qd v H1 s1 rv => ?_)⟩
  unfold pdD at qd
  split at qd
  · split at qd
    · rename_i s _ t hv
      cases rv
      exact ⟨p, .str t, rfl, .inl ⟨kvs, .inr s, .inl (s1 _ _ hp), rfl, hv.symm⟩, qd _ H1 s1 (.str t)⟩
    · exact qd.elim
  · exact qd.elim
end
end Dt

namespace Dt
open PySem PySem.Spec PyProof.Rows L2

/-! ### t[::-1], t a tuple -/
theorem rev_places (n : Nat) : Builtin.Slice.sliceAdjust none none (-1) (n : Int) = ((n : Int) - 1, -1) ∧ Builtin.Slice.slicePlaces ((n : Int) - 1) (-1) (-1) = n := by
  refine ⟨rfl, ?_⟩
  unfold Builtin.Slice.slicePlaces
  rw [if_neg (by decide)]
  by_cases h : (n : Int) - 1 > -1
  · rw [if_pos h]
    have : ((n : Int) - 1 - -1 - 1) / (- -1) + 1 = n := by
      rw [show (- -1 : Int) = 1 from rfl, Int.ediv_one]; omega
    rw [this, Int.toNat_natCast]
  · rw [if_neg h]
    show 0 = n
    omega
theorem rev_pick (xs : Array Value) : ((List.range xs.size).filterMap fun (k : Nat) => xs[((xs.size : Int) - 1 + (k : Int) * -1).toNat]?).toArray = xs.toList.reverse.toArray := by
  congr 1
  have e : ∀ k ∈ List.range xs.size, xs[((xs.size : Int) - 1 + (k : Int) * -1).toNat]? = some (xs.toList.reverse.getD k .none) := fun k hk => by
    have hk := List.mem_range.mp hk
    have e1 : ((xs.size : Int) - 1 + (k : Int) * -1).toNat = xs.size - 1 - k := by omega
    have h1 : k < xs.toList.reverse.length := by rw [List.length_reverse, Array.length_toList]; exact hk
    rw [e1, ← Array.getElem?_toList, List.getD, List.getElem?_eq_getElem h1, List.getElem_reverse, List.getElem?_eq_getElem (by rw [Array.length_toList]; omega)]
    simp
  have f : ∀ {l : List Nat}, (∀ k ∈ l, xs[((xs.size : Int) - 1 + (k : Int) * -1).toNat]? = some (xs.toList.reverse.getD k .none)) → (l.filterMap fun (k : Nat) => xs[((xs.size : Int) - 1 + (k : Int) * -1).toNat]?) = l.map fun k => xs.toList.reverse.getD k .none := fun {l} h => by
    induction l with
    | nil => rfl
    | cons k l ih =>
      rw [List.filterMap_cons, h k List.mem_cons_self, List.map_cons, ih fun j hj => h j (List.mem_cons_of_mem _ hj)]
  rw [f e]
  refine List.ext_getElem? fun i => ?_
  rw [List.getElem?_map]
  by_cases h : i < xs.size
  · have h1 : i < xs.toList.reverse.length := by rw [List.length_reverse, Array.length_toList]; exact h
    rw [List.getElem?_range h, Option.map_some, List.getElem?_eq_getElem h1, List.getD, List.getElem?_eq_getElem h1]
    rfl
  · rw [List.getElem?_eq_none (by rw [List.length_range]; omega), List.getElem?_eq_none (by rw [List.length_reverse, Array.length_toList]; omega)]
    rfl
section
variable {prog : Program} {w : World} {A : Around} {E : Value → Shared → Prop} {s : Shared}
theorem sliceApplied_rev {sl : Addr} {vs : Value} {n : Nat} {Q : Int × Int × Nat → Shared → Prop} (hs : s.heap.IsSliceOf sl .none .none vs) (ps : IsPart vs (some (-1)))
    (h : Q ((n : Int) - 1, -1, n) s) : wpAny (model prog w) A (Builtin.Slice.sliceApplied (.ref sl) (pure (n : Int))) Q E s := by
  obtain ⟨os, hos, hcs, hds⟩ := id hs
  unfold Builtin.Slice.sliceApplied Builtin.Slice.sliceFields
  refine wpAny_bind (wpAny_bind (wpAny_field hos hds (x := .none) rfl (wpAny_bind (wpAny_field hos hds (x := .none) rfl (wpAny_bind (wpAny_field hos hds (x := vs) rfl (wpAny_pure ?_)))))))
  refine wpAny_bind (HT.slicePart_ ps ?_)
  show wpAny _ _ (if ((-1 : Int) == 0) = true then _ else _) _ _ s
  rw [if_neg (by decide)]
  refine wpAny_bind (HT.slicePart_ .none (wpAny_bind (HT.slicePart_ .none (wpAny_bind (wpAny_pure ?_)))))
  show wpAny _ _ (match Builtin.Slice.sliceAdjust none none (-1) (n : Int) with | (lo, hi) => pure (lo, (-1 : Int), Builtin.Slice.slicePlaces lo hi (-1))) _ _ s
  rw [(rev_places n).1]
  show wpAny _ _ (pure ((n : Int) - 1, (-1 : Int), Builtin.Slice.slicePlaces ((n : Int) - 1) (-1) (-1))) _ _ s
  rw [(rev_places n).2]
  exact wpAny_pure h
theorem getItem_tuple_rev {t sl : Addr} {items : Array Value} {vs : Value} {Q : Value → Shared → Prop} (ht : IsTup s.heap t items) (hs : s.heap.IsSliceOf sl .none .none vs) (ps : IsPart vs (some (-1)))
    (h : Q (.ref s.heap.objs.size) { s with heap := s.heap.push { cls := .type "tuple", data := .seq items.toList.reverse.toArray } })
    (hsz : items.size ≤ sizeLine) : wpAny (model prog w) A (getItem (.ref t) (.ref sl)) Q E s := by
  have hz : sizeOk (.seq items.toList.reverse.toArray) := by
    show items.toList.reverse.toArray.size ≤ sizeLine
    rw [List.size_toArray, List.length_reverse, Array.length_toList]
    exact hsz
  obtain ⟨os, hos, hcs, hds⟩ := id hs
  have hTs : s.TypeIs (.ref sl) "slice" := ⟨os, hos, hcs⟩
  unfold getItem
  try with_reducible refine wpAny_holding ?_
  first | refine wpAny_bind (wpAny_pure ?_) | skip
  refine wpAny_bind (wpAny_sequenceKey ht.typeIs (by decide) ?_)
  refine wpAny_bind (wpAny_callSpecial?_slot (name := Str.ofString "__getitem__") ht.typeIs PyProof.Rows.slot_tuple_getitem
    (wpAny_call_entry PyProof.Rows.slot_tuple_getitem ht.typeIs entry_tuple_getitem ?_ (args_tuple_getitem _ _)))
  show wpAny _ _ (Builtin.Tuple.tupleItemsOf (.ref t) >>= _) _ _ s
  refine wpAny_bind (tupleItemsOf_ ht ?_)
  refine wpAny_bind (wpAny_typeOf hTs ?_)
  rw [if_pos (by decide)]
  refine wpAny_bind (sliceApplied_rev hs ps ?_)
  show wpAny _ _ (if ((items.size : Int) - 1 == 0 && (-1 : Int) == 1 && items.size == items.size) = true then _ else _) _ _ s
  rw [if_neg (by rw [show ((-1 : Int) == 1) = false from rfl, Bool.and_false, Bool.false_and]; exact Bool.false_ne_true), rev_pick]
  first
    | exact wpAny_bind (m := Builtin.Tuple.tupleExact _) (wpAny_newObj_type (wpAny_pure ⟨_, rfl, wpAny_pure h⟩) hz)
    | exact wpAny_bind (wpAny_bind (m := Builtin.Tuple.tupleExact _) (wpAny_newObj_type (wpAny_pure ⟨_, rfl, wpAny_pure h⟩) hz))
end
section
variable {X : Cx} {E : XK} {ρ : List Sl} {e : Expr} {r : Res PyData} {pos : Pos}
def tRevT (K : PySem.W.Frag) (te : TE) : TE := fun σ H Q => te σ H fun x H1 => ∃ a xs, x = .ref a ∧ SqT K H1 a xs ∧ ∀ p, H1 p = none → Q (.ref p) (upd H1 p (.tup xs.reverse))
theorem pe_revT {te : TE} {k : Nat} {p1 p2 p3 : Pos} (he : PE X e te) : PE X (.Subscript e (.Slice none none (some (.UnaryOp .USub (.Constant (.int 1) k p1) p2)) p3) pos) (tRevT X.K te) := by
  refine ⟨fun pins s σ H Q I h => ?_⟩
  refine Subscript_ (thn (he.run pins s σ H _ I h) fun v s1 ⟨x, H1, I1, r1, a, xs, ex, hx, q⟩ => ?_)
  subst ex
  cases r1
  have hst : PO X (some (.UnaryOp .USub (.Constant (.int 1) k p1) p2)) (tPart (tUn (rU fun i => .int (-i)) (tC (.int 1)))) := po_some (pe_un un_neg pe_int)
  refine wpAny_Slice ?_
  refine wpAny_pure (wpAny_pure (thn (hst.run pins s1 σ H1 (fun o H4 => o = some (-1) ∧ H4 = H1) I1 ⟨1, rfl, -1, rfl, rfl, rfl⟩) fun vs s4 ⟨o, H4, I4, ps, eo, e4⟩ => ?_))
  subst eo e4
  have I5 : Inv X pins σ H4 { s4 with heap := s4.heap.push { cls := .type "slice", data := .fields #[.none, .none, vs] } } := I4.kept (t' := s4.toks) fun b ob q => Heap.get?_push_of_some _ q
  obtain ⟨its, rv, ht, hz⟩ := I5.tuple hx
  have hl := rv.length
  show wpAny (model X.prog X.w) X.A (subscriptTail e (.Slice none none (some (.UnaryOp .USub (.Constant (.int 1) k p1) p2)) p3) (.ref a) (.ref s4.heap.objs.size)) (EP X pins σ Q) X.xe { s4 with heap := s4.heap.push { cls := .type "slice", data := .fields #[.none, .none, vs] } }
  refine tail_any (ops := [.ref a, .ref s4.heap.objs.size]) ht.typeIs (PyProof.Rows.slot_tuple_getitem.lookup) ?_ (by with_unfolding_all rfl)
  refine getItem_tuple_rev ht (Heap.IsSliceOf.new _ .none .none vs) ps ?_ (by rw [List.size_toArray]; omega)
  refine ⟨.ref _, _, I5.laid (t' := s4.toks) (o := .tup xs.reverse) (fun b ob q => Heap.get?_push_of_some _ q) (Nat.le_refl _) ?_, rfl, q _ (I5.hok.fresh (Nat.le_refl _))⟩
  exact ⟨by rw [List.length_reverse]; exact hz, _, rv.reverse, IsTup.new _ _⟩
def revT : PyData → Res PyData
  | .tuple xs => .ok (.tuple xs.reverse)
  | _ => .stuck
theorem ge_revT {k : Nat} {p1 p2 p3 : Pos} (h : GW X E e ρ r) : GE X E (.Subscript e (.Slice none none (some (.UnaryOp .USub (.Constant (.int 1) k p1) p2)) p3) pos) ρ (r >>= revT) := by
  refine .mk ⟨_, pe_revT we_ok, fun A σ H Q ev q => ?_⟩
  refine h A σ H _ ev (q.bind.mono fun d qd v H1 s1 rv => ?_)
  unfold revT at qd
  split at qd
  · obtain ⟨p, vs, rfl, h1, h2⟩ := rv.tup
    exact ⟨p, vs, rfl, h1, fun l n => qd _ _ (s1.trans (same_new n)) (Rep.new_tup n h2.rev)⟩
  · exact qd.elim
def revB : PyData → Res PyData
  | .list xs => .ok (.list xs.reverse)
  | .tuple xs => .ok (.tuple xs.reverse)
  | _ => .stuck
theorem ge_revB {k : Nat} {p1 p2 p3 : Pos} (h : GW X E e ρ r) : GE X E (.Subscript e (.Slice none none (some (.UnaryOp .USub (.Constant (.int 1) k p1) p2)) p3) pos) ρ (r >>= revB) := by
  have z1 := ge_rev (pos := pos) (k := k) (p1 := p1) (p2 := p2) (p3 := p3) h
  have z2 := ge_revT (pos := pos) (k := k) (p1 := p1) (p2 := p2) (p3 := p3) h
  cases r with
  | ok d => cases d with
    | list xs => exact z1
    | tuple xs => exact z2
    | _ => exact z1
  | err c => exact z1
  | stuck => exact z1
end
end Dt

namespace Dt
open PySem PySem.Spec PyProof.Rows L2

/-! ### the script, looked at -/
def scrV : PyData → Option (List PyData)
  | .dict ((.str _, .list ds) :: _) => some ds
  | _ => none
theorem scrV_eq {d : PyData} {ds : List PyData} (h : scrV d = some ds) : ∃ s r, d = .dict ((.str s, .list ds) :: r) := by
  unfold scrV at h
  split at h
  · cases h; exact ⟨_, _, rfl⟩
  · cases h
@[simp] theorem scrV_D (ns : List Int) : scrV (scrD ns) = some (ns.map .int) := rfl
section
variable {A : Ow} {κ : Kx} {H : Hp}
theorem RepW.scr {v : V} {d : PyData} {ds : List PyData} (h : RepW A κ H v d) (e : scrV d = some ds) : ∃ (a : Addr) (ns : List Int), v = .ref a ∧ ds = ns.map PyData.int ∧ SqL κ.K H a (ns.map V.int) := by
  obtain ⟨s, r, rfl⟩ := scrV_eq e
  have no : ∀ {p : Prop}, (∀ p ∈ ((PyData.str s, PyData.list ds) :: r), keyOk p.1 = true) → p := fun k => by
    have := k _ List.mem_cons_self
    unfold keyOk at this
    simp at this
  rcases h with h | ⟨p, rfl, ha, ho⟩
  · generalize hd : PyData.dict ((.str s, .list ds) :: r) = d at h
    cases h with
    | dic h1 h2 h3 h4 h5 h6 =>
      cases hd
      exact no h6
    | @scr a ns h1 =>
      unfold scrD at hd
      simp only [PyData.dict.injEq, List.cons.injEq, Prod.mk.injEq, PyData.list.injEq] at hd
      refine ⟨a, ns, rfl, hd.1.2, ?_⟩
      rcases h1 with ⟨o, h1⟩ | h1
      · exact .inl (.inr ⟨o, h1⟩)
      · exact .inr h1
    | _ => cases hd
  · obtain ⟨xs, _, _, _, _, k⟩ := ho
    exact no k
theorem dp_ints : ∀ ns : List Int, DpAll κ.K H (ns.map V.int) (ns.map PyData.int)
  | [] => .nil
  | n :: ns => .cons (.int n) (dp_ints ns)
theorem lay_ints : ∀ ns : List Int, PyData.canLayAll0 (ns.map PyData.int) = true
  | [] => by simp [PyData.canLayAll0]
  | n :: ns => by simp [PyData.canLayAll0, PyData.canLay0, lay_ints ns]
theorem depth_ints : ∀ ns : List Int, PyData.depthAll (ns.map PyData.int) ≤ 1
  | [] => by simp [PyData.depthAll]
  | n :: ns => by
    have h := depth_ints ns
    simp only [List.map_cons, PyData.depthAll, PyData.depth]
    omega
theorem shp_ints (ns : List Int) : shp (.list (ns.map .int)) = true := by
  unfold shp SeqAt.shaped
  rw [Bool.and_eq_true]
  refine ⟨by simp [PyData.canLay0, lay_ints], decide_eq_true ?_⟩
  have := depth_ints ns
  simp only [PyData.depth]
  omega
end
section
variable {X : Cx} {E : XK} {ρ : List Sl} {e a b : Expr} {r ra rb : Res PyData} {pos p : Pos}
/-- script == [] -/
def nilS (d e : PyData) : Res PyData := match scrV d, e with
  | some ds, .list [] => .ok (.bool ds.isEmpty)
  | _, _ => .stuck
theorem nilS_ok (hu : X.A.units + 64 < cLine) : Op2 X (compareOp .Eq) nilS := by
  refine ⟨_, op_eqD hu, fun E A H x y d e Q tr rx ry q => ?_⟩
  unfold nilS at q
  split at q
  · rename_i ds hd
    obtain ⟨a, ns, rfl, rfl, h⟩ := rx.scr hd
    have h0 : shp (.list []) = true := by decide +kernel
    refine ⟨.list (ns.map .int), .list [], .lst h (dp_ints (κ := kx X) ns), ry.dp (shp_lay h0), shp_ints ns, h0, ?_⟩
    have e : PyData.eqv (.list (ns.map .int)) (.list []) = (ns.map PyData.int).isEmpty := by
      cases ns with
      | nil => rfl
      | cons n ns => rfl
    rw [e]
    exact q _ H (Same.refl _) (.bl _)
  · exact q.elim
/-- len(script) -/
def lenS (d : PyData) : Res PyData := match scrV d with
  | some ds => .ok (.int ds.length)
  | none => .stuck
theorem ge_lenS (hg : Gl X "len") (hm : X.mg "len" = none) (h : GW X E a ρ r) (he : starEach [a] X.env = (false, eval a X.env) :: starEach [] X.env := by rfl) (hpl : (backTo pos (starEach [] X.env)).any (·.1) = false := by rfl) :
    GE X E (.Call (.Name "len" p) [a] [] pos) ρ (r >>= lenS) := by
  obtain ⟨t, pa, hh⟩ := h.ex
  refine .mk ⟨_, pe_callB call_len_seq hg hm bt_len (pa_cons pa pa_nil he) (by decide) (by decide) he hpl, fun A σ H Q ev q => ?_⟩
  refine hh A σ H _ ev (q.bind.mono fun d qd v H1 s1 rv => ?_)
  unfold lenS at qd
  split at qd
  · rename_i ds hd
    obtain ⟨a, ns, rfl, rfl, h⟩ := rv.scr hd
    refine ⟨a, ns.map V.int, rfl, .inl h, ?_⟩
    rw [List.length_map]
    rw [List.length_map] at qd
    exact qd _ H1 s1 (.int _)
  · exact qd.elim
/-- script[i], 0 <= i -/
def ixS (d e : PyData) : Res PyData := match scrV d, e with
  | some ds, .int i => if 0 ≤ i then match ds[i.toNat]? with
    | some x => .ok x
    | none => .stuck
    else .stuck
  | _, _ => .stuck
theorem ge_ixS (ha : GW X E a ρ ra) (hb : GW X E b ρ rb) (hs : PlainIx b := by intro _ _; rfl) : GE X E (.Subscript a b pos) ρ (b2 ixS ra rb) := by
  have hr : ∀ (E : XK) (A : Ow) (H : Hp) (x y : V) (d e : PyData) (Q : VK), Tr A H → RepW A (kx X) H x d → RepW A (kx X) H y e → PostR X E H (ixS d e) (OkE X A H Q) → rIx X.K x y H Q := fun E A H x y d e Q tr rx ry q => by
    unfold ixS at q
    split at q
    · rename_i ds i hd
      obtain ⟨a, ns, rfl, rfl, h⟩ := rx.scr hd
      obtain rfl := ry.int
      split at q
      · rename_i hi
        split at q
        · rename_i x hx
          rw [List.getElem?_map] at hx
          obtain ⟨n, hn, rfl⟩ := Option.map_eq_some_iff.mp hx
          refine .inl ⟨a, ns.map V.int, i, .int n, rfl, rfl, h, ?_, q _ H (Same.refl _) (.int n)⟩
          have e : (i.toNat : Int) = i := Int.toNat_of_nonneg hi
          rw [← e]
          exact atI_nat (by rw [List.getElem?_map, hn]; rfl)
        · exact q.elim
      · exact q.elim
    · exact q.elim
  obtain ⟨ta, tb, pa, pb, h⟩ := two ha hb hr
  exact .mk ⟨_, pe_ix ix_seq pa pb hs, h⟩
end
end Dt

namespace Dt
open PySem PySem.Spec PyProof.Rows L2
/-- the law's own def: True for a script of at most 63 numbers -/
def spTop (K : PySem.W.Frag) : Sp := fun vs H Q _ => ∃ (a : Addr) (ns : List Int), vs = [.ref a] ∧ ((∃ o, H a = some (.frz o (.lst (ns.map V.int)))) ∨ SqK K a (ns.map V.int)) ∧ ns.length ≤ 63 ∧ ∀ H', Q (.bl true) H'
theorem top_true {K : PySem.W.Frag} {H : Hp} {a : Addr} {ns : List Int} (hl : ns.length ≤ 63) (ho : Only H) (hS : SqL K H a (ns.map V.int)) : spTop K [.ref a] H (fun v _ => v = .bl true) fun _ _ _ => False := by
  refine ⟨a, ns, rfl, ?_, hl, fun _ => rfl⟩
  rcases hS with (h | ⟨o, h⟩) | h
  · rcases ho a with e | ⟨o, xs, e⟩
    · rw [h] at e; cases e
    · rw [h] at e; cases e
  · exact .inl ⟨o, h⟩
  · exact .inr h
theorem top_none {P : Program} {w : World} {outer : List Env} {H : Hp} {s s' : Shared} {e : Value} (h : L2.CX P w outer H s (fun _ _ _ => False) e s') : False := by
  obtain ⟨_, _, _, _, _, _, _, _, _, _, _, _, z⟩ := h
  exact z
theorem top_mk {P : Program} {w : World} {K : PySem.W.Frag} {mg : Str → Option Value} {fa : Addr} {k : Nat} {x : Str} {F : List PyData → Res PyData} (hLaw : ∀ ns : List Int, ns.length ≤ 63 → F [scrD ns] = .ok (.bool true))
    (h : ∃ fd : FuncData, (∀ (s : Shared) (v : Value), BindsTo s fd ⟨[v], []⟩ [(x, v)]) ∧ ∀ base : Heap, K.In base → base.Ns mainGlobals mg → FnOk P w K mg base (L2.CX P w) k fa fd [x] (spF ⟨P, w, K⟩ mg F)) :
    ∃ fd : FuncData, (∀ (s : Shared) (v : Value), BindsTo s fd ⟨[v], []⟩ [(x, v)]) ∧ ∀ base : Heap, K.In base → base.Ns mainGlobals mg → FnOk P w K mg base (L2.CX P w) k fa fd [x] (spTop K) := by
  obtain ⟨fd, h1, h2⟩ := h
  refine ⟨fd, h1, fun base i n => (h2 base i n).imp fun vs H Q E z => ?_⟩
  obtain ⟨a, ns, rfl, hs, hl, q⟩ := z
  refine ⟨fun _ => none, [scrD ns], fun a h => absurd rfl h, .cons (.scr hs) .nil, ?_⟩
  rw [hLaw ns hl]
  intro v H' _ r
  cases r
  exact q H'
end Dt

namespace Lw
open PySem PySem.Spec PyProof.Rows L2 Dt
def topS (i : Nat) : Stmt := PySem.Challenge.pw_daytellings_k01_cases.main.body.getD i (.Pass ⟨0, 0, 0, 0⟩)
def m_is_number (thing_1 low_2 high_3 : PyData) : Res (Out Empty) :=
  (retR (andV ((.ok thing_1) >>= isiD "int") (andV (notV ((.ok thing_1) >>= isiD "bool")) (chainV (.ok low_2) (.ok thing_1) (.ok high_3) leD leD))))
def g_is_number : List PyData → Res (Out Empty)
  | [thing_1, low_2, high_3] => m_is_number thing_1 low_2 high_3
  | _ => .stuck
def F_is_number (ds : List PyData) : Res PyData := finR (g_is_number ds)
theorem F_is_number_eq (thing_1 low_2 high_3 : PyData) : F_is_number [thing_1, low_2, high_3] = finR (m_is_number thing_1 low_2 high_3) := rfl
def m_is_way (places_1 thing_2 : PyData) : Res (Out Empty) :=
  ((orR (nt (((.ok thing_2) >>= isiD "tuple") >>= truD)) (orR (b2 neD ((allR [(.ok thing_2)]) >>= lenC) (.ok (.int 3)) >>= boolD) (nt (((allR [(b2 idxD (.ok thing_2) (.ok (.int 0))), (.ok (.int 0)), (b2 subD (.ok places_1) (.ok (.int 1)))]) >>= F_is_number) >>= truD)))) >>= fun z => if z = true then onlyR (retR (.ok (.bool false))) else (retR (andV ((allR [(b2 idxD (.ok thing_2) (.ok (.int 1))), (b2 addD (b2 idxD (.ok thing_2) (.ok (.int 0))) (.ok (.int 1))), (b2 subD (.ok places_1) (.ok (.int 1)))]) >>= F_is_number) ((allR [(b2 idxD (.ok thing_2) (.ok (.int 2))), (.ok (.int 1)), (.ok (.int 4))]) >>= F_is_number))))
def g_is_way : List PyData → Res (Out Empty)
  | [places_1, thing_2] => m_is_way places_1 thing_2
  | _ => .stuck
def F_is_way (ds : List PyData) : Res PyData := finR (g_is_way ds)
theorem F_is_way_eq (places_1 thing_2 : PyData) : F_is_way [places_1, thing_2] = finR (m_is_way places_1 thing_2) := rfl
def m_is_town (thing_1 : PyData) : Res (Out Empty) :=
  ((orR (nt (((.ok thing_1) >>= isiD "tuple") >>= truD)) (orR (b2 neD ((allR [(.ok thing_1)]) >>= lenC) (.ok (.int 2)) >>= boolD) (nt (((allR [(b2 idxD (.ok thing_1) (.ok (.int 0))), (.ok (.int 1)), (.ok (.int 5))]) >>= F_is_number) >>= truD)))) >>= fun z => if z = true then onlyR (retR (.ok (.bool false))) else ((orR (nt (((b2 idxD (.ok thing_1) (.ok (.int 1))) >>= isiD "tuple") >>= truD)) (nt (((allR [(asL (comR ((b2 idxD (.ok thing_1) (.ok (.int 1))) >>= seqOf) (fun d_2 => cel (.ok true) ((allR [(b2 idxD (.ok thing_1) (.ok (.int 0))), (.ok d_2)]) >>= F_is_way))))]) >>= allC) >>= truD))) >>= fun z => if z = true then onlyR (retR (.ok (.bool false))) else (retR ((allR [(asL (comR ((allR [(b2 idxD (.ok thing_1) (.ok (.int 1))), (sl3 (b2 idxD (.ok thing_1) (.ok (.int 1))) ((.ok (.int 1)) >>= partD) (.ok none))]) >>= zip2) (fun d_4 => unp2 d_4 fun one_5 other_6 => cel (.ok true) (b2 ltD (sl3 (.ok one_5) (.ok none) ((.ok (.int 2)) >>= partD)) (sl3 (.ok other_6) (.ok none) ((.ok (.int 2)) >>= partD))))))]) >>= allC))))
def g_is_town : List PyData → Res (Out Empty)
  | [thing_1] => m_is_town thing_1
  | _ => .stuck
def F_is_town (ds : List PyData) : Res PyData := finR (g_is_town ds)
theorem F_is_town_eq (thing_1 : PyData) : F_is_town [thing_1] = finR (m_is_town thing_1) := rfl
def m_fits (places_1 persons_2 last_3 thing_4 : PyData) : Res (Out Empty) :=
  ((orR (nt (((.ok thing_4) >>= isiD "tuple") >>= truD)) (orR (b2 neD ((allR [(.ok thing_4)]) >>= lenC) (.ok (.int 5)) >>= boolD) (orR (nt (((b2 idxD (.ok thing_4) (.ok (.int 0))) >>= isiD "str") >>= truD)) (b2 notInD (b2 idxD (.ok thing_4) (.ok (.int 0))) (.ok (.tuple ([("there" : Str), ("seen" : Str), ("never" : Str), ("met" : Str), ("apart" : Str)].map PyData.str))) >>= boolD)))) >>= fun z => if z = true then onlyR (retR (.ok (.bool false))) else ((.ok thing_4) >>= fun d_5 => (unp5 d_5 fun word_6 who_7 what_8 first_9 end_10 => ((orR (nt (((allR [(.ok who_7), (.ok (.int 0)), (b2 subD (.ok persons_2) (.ok (.int 1)))]) >>= F_is_number) >>= truD)) (orR (nt (((allR [(.ok first_9), (.ok (.int 0)), (.ok last_3)]) >>= F_is_number) >>= truD)) (nt (((allR [(.ok end_10), (.ok first_9), (.ok last_3)]) >>= F_is_number) >>= truD)))) >>= fun z => if z = true then onlyR (retR (.ok (.bool false))) else ((b2 inD (.ok word_6) (.ok (.tuple ([("met" : Str), ("apart" : Str)].map PyData.str))) >>= boolD) >>= fun z => if z = true then onlyR (retR (andV ((allR [(.ok what_8), (.ok (.int 0)), (b2 subD (.ok persons_2) (.ok (.int 1)))]) >>= F_is_number) (b2 neD (.ok what_8) (.ok who_7)))) else (retR ((allR [(.ok what_8), (.ok (.int 0)), (b2 subD (.ok places_1) (.ok (.int 1)))]) >>= F_is_number)))))))
def g_fits : List PyData → Res (Out Empty)
  | [places_1, persons_2, last_3, thing_4] => m_fits places_1 persons_2 last_3 thing_4
  | _ => .stuck
def F_fits (ds : List PyData) : Res PyData := finR (g_fits ds)
theorem F_fits_eq (places_1 persons_2 last_3 thing_4 : PyData) : F_fits [places_1, persons_2, last_3, thing_4] = finR (m_fits places_1 persons_2 last_3 thing_4) := rfl
def m_is_case (thing_1 : PyData) : Res (Out Empty) :=
  ((orR (nt (((.ok thing_1) >>= isiD "tuple") >>= truD)) (orR (b2 neD ((allR [(.ok thing_1)]) >>= lenC) (.ok (.int 4)) >>= boolD) (nt (((allR [(b2 idxD (.ok thing_1) (.ok (.int 0)))]) >>= F_is_town) >>= truD)))) >>= fun z => if z = true then onlyR (retR (.ok (.bool false))) else ((.ok thing_1) >>= fun d_2 => (unp4 d_2 fun town_3 persons_4 last_5 tellings_6 => ((orR (nt (((allR [(.ok persons_4), (.ok (.int 1)), (.ok (.int 3))]) >>= F_is_number) >>= truD)) (nt (((allR [(.ok last_5), (.ok (.int 0)), (.ok (.int 9))]) >>= F_is_number) >>= truD))) >>= fun z => if z = true then onlyR (retR (.ok (.bool false))) else ((orR (nt (((.ok tellings_6) >>= isiD "tuple") >>= truD)) (b2 gtD ((allR [(.ok tellings_6)]) >>= lenC) (.ok (.int 6)) >>= boolD)) >>= fun z => if z = true then onlyR (retR (.ok (.bool false))) else (retR ((allR [(asL (comR ((.ok tellings_6) >>= seqOf) (fun d_7 => cel (.ok true) ((allR [(b2 idxD (.ok town_3) (.ok (.int 0))), (.ok persons_4), (.ok last_5), (.ok d_7)]) >>= F_fits))))]) >>= allC)))))))
def g_is_case : List PyData → Res (Out Empty)
  | [thing_1] => m_is_case thing_1
  | _ => .stuck
def F_is_case (ds : List PyData) : Res PyData := finR (g_is_case ds)
theorem F_is_case_eq (thing_1 : PyData) : F_is_case [thing_1] = finR (m_is_case thing_1) := rfl
def m_need_case (case_1 : PyData) : Res (Out Unit) :=
  ((nt (((allR [(.ok case_1)]) >>= F_is_case) >>= truD)) >>= fun z => if z = true then onlyR (.err "NoCase") else (.ok (.nx ())))
def g_need_case : List PyData → Res (Out Unit)
  | [case_1] => m_need_case case_1
  | _ => .stuck
def F_need_case (ds : List PyData) : Res PyData := finR (g_need_case ds)
theorem F_need_case_eq (case_1 : PyData) : F_need_case [case_1] = finR (m_need_case case_1) := rfl
def m_is_telling (case_1 thing_2 : PyData) : Res (Out Empty) :=
  (((allR [(.ok case_1)]) >>= F_need_case) >>= fun _ => (retR ((allR [(b2 idxD (b2 idxD (.ok case_1) (.ok (.int 0))) (.ok (.int 0))), (b2 idxD (.ok case_1) (.ok (.int 1))), (b2 idxD (.ok case_1) (.ok (.int 2))), (.ok thing_2)]) >>= F_fits)))
def g_is_telling : List PyData → Res (Out Empty)
  | [case_1, thing_2] => m_is_telling case_1 thing_2
  | _ => .stuck
def F_is_telling (ds : List PyData) : Res PyData := finR (g_is_telling ds)
theorem F_is_telling_eq (case_1 thing_2 : PyData) : F_is_telling [case_1, thing_2] = finR (m_is_telling case_1 thing_2) := rfl
def m_law_cell (law_script_1 law_k_2 : PyData) : Res (Out Empty) :=
  ((b2 nilS (.ok law_script_1) (asL ((allR []) >>= lstD)) >>= boolD) >>= fun z => if z = true then onlyR (retR (b2 mulD (.ok (.int 7)) (.ok law_k_2))) else (retR (b2 addD (b2 ixS (.ok law_script_1) (b2 modD (.ok law_k_2) ((.ok law_script_1) >>= lenS))) (b2 mulD (.ok (.int 6553)) (b2 fdivD (.ok law_k_2) ((.ok law_script_1) >>= lenS))))))
def g_law_cell : List PyData → Res (Out Empty)
  | [law_script_1, law_k_2] => m_law_cell law_script_1 law_k_2
  | _ => .stuck
def F_law_cell (ds : List PyData) : Res PyData := finR (g_law_cell ds)
theorem F_law_cell_eq (law_script_1 law_k_2 : PyData) : F_law_cell [law_script_1, law_k_2] = finR (m_law_cell law_script_1 law_k_2) := rfl
def m_law_drawn (law_script_1 law_k_2 law_many_3 : PyData) : Res (Out Empty) :=
  ((b2 modD (b2 addD (b2 mulD (b2 modD ((allR [(.ok law_script_1), (.ok law_k_2)]) >>= F_law_cell) (.ok (.int 2147483563))) (.ok (.int 69069))) (b2 mulD (.ok (.int 104723)) (b2 addD (.ok law_k_2) (.ok (.int 1))))) (.ok (.int 2147483563))) >>= fun law_cell_here_4 => ((b2 modD (b2 addD (b2 mulD (.ok law_cell_here_4) (.ok law_cell_here_4)) (b2 fdivD (.ok law_cell_here_4) (.ok (.int 3)))) (.ok (.int 2147483399))) >>= fun law_cell_here_5 => (retR (b2 modD (b2 fdivD (b2 modD (b2 addD (b2 mulD (.ok law_cell_here_5) (.ok law_cell_here_5)) (b2 fdivD (.ok law_cell_here_5) (.ok (.int 7)))) (.ok (.int 2147483647))) (.ok (.int 11))) (.ok law_many_3)))))
def g_law_drawn : List PyData → Res (Out Empty)
  | [law_script_1, law_k_2, law_many_3] => m_law_drawn law_script_1 law_k_2 law_many_3
  | _ => .stuck
def F_law_drawn (ds : List PyData) : Res PyData := finR (g_law_drawn ds)
theorem F_law_drawn_eq (law_script_1 law_k_2 law_many_3 : PyData) : F_law_drawn [law_script_1, law_k_2, law_many_3] = finR (m_law_drawn law_script_1 law_k_2 law_many_3) := rfl
def m_law_town (law_script_1 law_at_2 law_most_3 : PyData) : Res (Out Empty) :=
  ((b2 addD (.ok (.int 1)) ((allR [(.ok law_script_1), (.ok law_at_2), (.ok law_most_3)]) >>= F_law_drawn)) >>= fun law_many_4 => (((allR []) >>= lstD) >>= fun law_ways_5 => (((allR [(.ok law_many_4)]) >>= rng1) >>= fun ds => seqR (forD ds law_ways_5 fun d_7 (st_6 : List PyData) => (((allR [(b2 addD (.ok d_7) (.ok (.int 1))), (.ok law_many_4)]) >>= rng2) >>= fun ds => seqR (forD ds st_6 fun d_9 (st_8 : List PyData) => ((b2 gtD ((allR [(.ok law_script_1), (b2 addD (b2 addD (b2 addD (.ok law_at_2) (.ok (.int 1))) (b2 mulD (.ok (.int 4)) (.ok d_7))) (.ok d_9)), (.ok (.int 4))]) >>= F_law_drawn) (.ok (.int 0)) >>= boolD) >>= fun z => seqR (if z = true then (((allR [(.ok d_7), (.ok d_9), (b2 idxD (asL ((allR [(.ok (.int 1)), (.ok (.int 1)), (.ok (.int 2))]) >>= lstD)) ((allR [(.ok law_script_1), (b2 addD (b2 addD (b2 addD (.ok law_at_2) (.ok (.int 20))) (b2 mulD (.ok (.int 4)) (.ok d_7))) (.ok d_9)), (.ok (.int 3))]) >>= F_law_drawn))]) >>= tupD) >>= fun d_11 => appR st_8 d_11 >>= fun law_ways_12 => (.ok (.nx law_ways_12))) else (.ok (.nx st_8))) fun (st_10 : List PyData) => (.ok (.nx st_10)))) fun (st_8 : List PyData) => (.ok (.nx st_8)))) fun (st_6 : List PyData) => (retR ((allR [(.ok law_many_4), ((allR [(.ok (.list st_6))]) >>= tupC)]) >>= tupD)))))
def g_law_town : List PyData → Res (Out Empty)
  | [law_script_1, law_at_2, law_most_3] => m_law_town law_script_1 law_at_2 law_most_3
  | _ => .stuck
def F_law_town (ds : List PyData) : Res PyData := finR (g_law_town ds)
theorem F_law_town_eq (law_script_1 law_at_2 law_most_3 : PyData) : F_law_town [law_script_1, law_at_2, law_most_3] = finR (m_law_town law_script_1 law_at_2 law_most_3) := rfl
def m_law_telling (law_script_1 law_at_2 law_many_3 law_persons_4 law_last_5 : PyData) : Res (Out Empty) :=
  ((sl3 (asL ((allR [(.ok (.str "there")), (.ok (.str "seen")), (.ok (.str "seen")), (.ok (.str "never")), (.ok (.str "met")), (.ok (.str "apart"))]) >>= lstD)) (.ok none) ((b2 addD (.ok (.int 4)) (b2 mulD (.ok (.int 2)) ((allR [(b2 gtD (.ok law_persons_4) (.ok (.int 1)))]) >>= intC))) >>= partD)) >>= fun law_words_6 => ((b2 idxD (.ok law_words_6) ((allR [(.ok law_script_1), (.ok law_at_2), ((allR [(.ok law_words_6)]) >>= lenC)]) >>= F_law_drawn)) >>= fun law_word_7 => (((allR [(.ok law_script_1), (b2 addD (.ok law_at_2) (.ok (.int 1))), (.ok law_persons_4)]) >>= F_law_drawn) >>= fun law_who_8 => (((allR [(.ok law_script_1), (b2 addD (.ok law_at_2) (.ok (.int 3))), (b2 addD (.ok law_last_5) (.ok (.int 1)))]) >>= F_law_drawn) >>= fun law_first_9 => ((b2 addD (.ok law_first_9) ((allR [(.ok law_script_1), (b2 addD (.ok law_at_2) (.ok (.int 4))), (b2 addD (b2 subD (.ok law_last_5) (.ok law_first_9)) (.ok (.int 1)))]) >>= F_law_drawn)) >>= fun law_end_10 => (((allR [(.ok law_script_1), (b2 addD (.ok law_at_2) (.ok (.int 2))), (.ok law_many_3)]) >>= F_law_drawn) >>= fun law_what_11 => ((b2 inD (.ok law_word_7) ((allR [(.ok (.str "met")), (.ok (.str "apart"))]) >>= tupD) >>= boolD) >>= fun z => seqR (if z = true then ((b2 modD (b2 addD (b2 addD (.ok law_who_8) (.ok (.int 1))) ((allR [(.ok law_script_1), (b2 addD (.ok law_at_2) (.ok (.int 2))), (b2 subD (.ok law_persons_4) (.ok (.int 1)))]) >>= F_law_drawn)) (.ok law_persons_4)) >>= fun law_what_13 => (.ok (.nx law_what_13))) else (.ok (.nx law_what_11))) fun (st_12 : PyData) => (retR ((allR [(.ok law_word_7), (.ok law_who_8), (.ok st_12), (.ok law_first_9), (.ok law_end_10)]) >>= tupD)))))))))
def g_law_telling : List PyData → Res (Out Empty)
  | [law_script_1, law_at_2, law_many_3, law_persons_4, law_last_5] => m_law_telling law_script_1 law_at_2 law_many_3 law_persons_4 law_last_5
  | _ => .stuck
def F_law_telling (ds : List PyData) : Res PyData := finR (g_law_telling ds)
theorem F_law_telling_eq (law_script_1 law_at_2 law_many_3 law_persons_4 law_last_5 : PyData) : F_law_telling [law_script_1, law_at_2, law_many_3, law_persons_4, law_last_5] = finR (m_law_telling law_script_1 law_at_2 law_many_3 law_persons_4 law_last_5) := rfl
def m_law_case (law_script_1 law_at_2 law_most_3 : PyData) : Res (Out Empty) :=
  (((allR [(.ok law_script_1), (.ok law_at_2), (.ok (.int 3))]) >>= F_law_town) >>= fun law_town_here_4 => ((b2 addD (.ok (.int 1)) ((allR [(.ok law_script_1), (b2 addD (.ok law_at_2) (.ok (.int 40))), (.ok (.int 2))]) >>= F_law_drawn)) >>= fun law_persons_5 => (((allR [(.ok law_script_1), (b2 addD (.ok law_at_2) (.ok (.int 41))), (b2 subD (.ok (.int 5)) (.ok law_persons_5))]) >>= F_law_drawn) >>= fun law_last_6 => (((allR []) >>= lstD) >>= fun law_tellings_7 => (((allR [((allR [(.ok law_script_1), (b2 addD (.ok law_at_2) (.ok (.int 42))), (b2 addD (.ok law_most_3) (.ok (.int 1)))]) >>= F_law_drawn)]) >>= rng1) >>= fun ds => seqR (forD ds law_tellings_7 fun d_9 (st_8 : List PyData) => (((allR [(.ok law_script_1), (b2 addD (b2 addD (.ok law_at_2) (.ok (.int 43))) (b2 mulD (.ok (.int 5)) (.ok d_9))), (b2 idxD (.ok law_town_here_4) (.ok (.int 0))), (.ok law_persons_5), (.ok law_last_6)]) >>= F_law_telling) >>= fun d_10 => appR st_8 d_10 >>= fun law_tellings_11 => (.ok (.nx law_tellings_11)))) fun (st_8 : List PyData) => (retR ((allR [(.ok law_town_here_4), (.ok law_persons_5), (.ok law_last_6), ((allR [(.ok (.list st_8))]) >>= tupC)]) >>= tupD)))))))
def g_law_case : List PyData → Res (Out Empty)
  | [law_script_1, law_at_2, law_most_3] => m_law_case law_script_1 law_at_2 law_most_3
  | _ => .stuck
def F_law_case (ds : List PyData) : Res PyData := finR (g_law_case ds)
theorem F_law_case_eq (law_script_1 law_at_2 law_most_3 : PyData) : F_law_case [law_script_1, law_at_2, law_most_3] = finR (m_law_case law_script_1 law_at_2 law_most_3) := rfl
def m_law_number (law_thing_1 law_low_2 law_high_3 : PyData) : Res (Out Empty) :=
  (retR (andV ((.ok law_thing_1) >>= isiD "int") (andV (notV ((.ok law_thing_1) >>= isiD "bool")) (chainV (.ok law_low_2) (.ok law_thing_1) (.ok law_high_3) leD leD))))
def g_law_number : List PyData → Res (Out Empty)
  | [law_thing_1, law_low_2, law_high_3] => m_law_number law_thing_1 law_low_2 law_high_3
  | _ => .stuck
def F_law_number (ds : List PyData) : Res PyData := finR (g_law_number ds)
theorem F_law_number_eq (law_thing_1 law_low_2 law_high_3 : PyData) : F_law_number [law_thing_1, law_low_2, law_high_3] = finR (m_law_number law_thing_1 law_low_2 law_high_3) := rfl
def m_law_is_town (law_thing_1 : PyData) : Res (Out Empty) :=
  ((orR (nt (((.ok law_thing_1) >>= isiD "tuple") >>= truD)) (orR (b2 neD ((allR [(.ok law_thing_1)]) >>= lenC) (.ok (.int 2)) >>= boolD) (nt (((allR [(b2 idxD (.ok law_thing_1) (.ok (.int 0))), (.ok (.int 1)), (.ok (.int 5))]) >>= F_law_number) >>= truD)))) >>= fun z => if z = true then onlyR (retR (.ok (.bool false))) else ((nt (((b2 idxD (.ok law_thing_1) (.ok (.int 1))) >>= isiD "tuple") >>= truD)) >>= fun z => if z = true then onlyR (retR (.ok (.bool false))) else (((allR []) >>= lstD) >>= fun law_pairs_2 => (((b2 idxD (.ok law_thing_1) (.ok (.int 1))) >>= seqOf) >>= fun ds => seqR (forD ds law_pairs_2 fun d_4 (st_3 : List PyData) => ((orR (nt (((.ok d_4) >>= isiD "tuple") >>= truD)) (orR (b2 neD ((allR [(.ok d_4)]) >>= lenC) (.ok (.int 3)) >>= boolD) (b2 neD (asL (comR ((.ok d_4) >>= seqOf) (fun d_5 => cel (nt (((allR [(.ok d_5), (.ok (.int 0)), (.ok (.int 9))]) >>= F_law_number) >>= truD)) (.ok d_5)))) (asL ((allR []) >>= lstD)) >>= boolD))) >>= fun z => if z = true then onlyR (retR (.ok (.bool false))) else ((orR (nt ((chainV (b2 idxD (.ok d_4) (.ok (.int 0))) (b2 idxD (.ok d_4) (.ok (.int 1))) (b2 idxD (.ok law_thing_1) (.ok (.int 0))) ltD ltD) >>= boolD)) (nt ((chainV (.ok (.int 1)) (b2 idxD (.ok d_4) (.ok (.int 2))) (.ok (.int 4)) leD leD) >>= boolD))) >>= fun z => if z = true then onlyR (retR (.ok (.bool false))) else ((sl3 (.ok d_4) (.ok none) ((.ok (.int 2)) >>= partD)) >>= fun d_7 => appR st_3 d_7 >>= fun law_pairs_8 => (.ok (.nx law_pairs_8)))))) fun (st_3 : List PyData) => (retR (b2 eqD (.ok (.list st_3)) (asL ((.ok (.list st_3)) >>= sortSetC))))))))
def g_law_is_town : List PyData → Res (Out Empty)
  | [law_thing_1] => m_law_is_town law_thing_1
  | _ => .stuck
def F_law_is_town (ds : List PyData) : Res PyData := finR (g_law_is_town ds)
theorem F_law_is_town_eq (law_thing_1 : PyData) : F_law_is_town [law_thing_1] = finR (m_law_is_town law_thing_1) := rfl
def m_law_is_telling (law_case_here_1 law_thing_2 : PyData) : Res (Out Empty) :=
  ((orR (nt (((.ok law_thing_2) >>= isiD "tuple") >>= truD)) (orR (b2 neD ((allR [(.ok law_thing_2)]) >>= lenC) (.ok (.int 5)) >>= boolD) (b2 notInD (b2 idxD (.ok law_thing_2) (.ok (.int 0))) ((allR [(.ok (.str "there")), (.ok (.str "seen")), (.ok (.str "never")), (.ok (.str "met")), (.ok (.str "apart"))]) >>= tupD) >>= boolD))) >>= fun z => if z = true then onlyR (retR (.ok (.bool false))) else ((orR (b2 neD (asL (comR ((sl3 (.ok law_thing_2) ((.ok (.int 1)) >>= partD) (.ok none)) >>= seqOf) (fun d_3 => cel (nt (((allR [(.ok d_3), (.ok (.int 0)), (.ok (.int 9))]) >>= F_law_number) >>= truD)) (.ok d_3)))) (asL ((allR []) >>= lstD)) >>= boolD) (b2 geD (b2 idxD (.ok law_thing_2) (.ok (.int 1))) (b2 idxD (.ok law_case_here_1) (.ok (.int 1))) >>= boolD)) >>= fun z => if z = true then onlyR (retR (.ok (.bool false))) else ((nt ((chainV (b2 idxD (.ok law_thing_2) (.ok (.int 3))) (b2 idxD (.ok law_thing_2) (.ok (.int 4))) (b2 idxD (.ok law_case_here_1) (.ok (.int 2))) leD leD) >>= boolD)) >>= fun z => if z = true then onlyR (retR (.ok (.bool false))) else ((b2 inD (b2 idxD (.ok law_thing_2) (.ok (.int 0))) ((allR [(.ok (.str "met")), (.ok (.str "apart"))]) >>= tupD) >>= boolD) >>= fun z => if z = true then onlyR (retR (andV (b2 ltD (b2 idxD (.ok law_thing_2) (.ok (.int 2))) (b2 idxD (.ok law_case_here_1) (.ok (.int 1)))) (b2 neD (b2 idxD (.ok law_thing_2) (.ok (.int 2))) (b2 idxD (.ok law_thing_2) (.ok (.int 1)))))) else (retR (b2 ltD (b2 idxD (.ok law_thing_2) (.ok (.int 2))) (b2 idxD (b2 idxD (.ok law_case_here_1) (.ok (.int 0))) (.ok (.int 0)))))))))
def g_law_is_telling : List PyData → Res (Out Empty)
  | [law_case_here_1, law_thing_2] => m_law_is_telling law_case_here_1 law_thing_2
  | _ => .stuck
def F_law_is_telling (ds : List PyData) : Res PyData := finR (g_law_is_telling ds)
theorem F_law_is_telling_eq (law_case_here_1 law_thing_2 : PyData) : F_law_is_telling [law_case_here_1, law_thing_2] = finR (m_law_is_telling law_case_here_1 law_thing_2) := rfl
def m_law_is_case (law_thing_1 : PyData) : Res (Out Empty) :=
  ((orR (nt (((.ok law_thing_1) >>= isiD "tuple") >>= truD)) (orR (b2 neD ((allR [(.ok law_thing_1)]) >>= lenC) (.ok (.int 4)) >>= boolD) (nt (((allR [(b2 idxD (.ok law_thing_1) (.ok (.int 0)))]) >>= F_law_is_town) >>= truD)))) >>= fun z => if z = true then onlyR (retR (.ok (.bool false))) else ((orR (nt (((allR [(b2 idxD (.ok law_thing_1) (.ok (.int 1))), (.ok (.int 1)), (.ok (.int 3))]) >>= F_law_number) >>= truD)) (nt (((allR [(b2 idxD (.ok law_thing_1) (.ok (.int 2))), (.ok (.int 0)), (.ok (.int 9))]) >>= F_law_number) >>= truD))) >>= fun z => if z = true then onlyR (retR (.ok (.bool false))) else ((orR (nt (((b2 idxD (.ok law_thing_1) (.ok (.int 3))) >>= isiD "tuple") >>= truD)) (b2 gtD ((allR [(b2 idxD (.ok law_thing_1) (.ok (.int 3)))]) >>= lenC) (.ok (.int 6)) >>= boolD)) >>= fun z => if z = true then onlyR (retR (.ok (.bool false))) else (retR (b2 eqD (asL (comR ((b2 idxD (.ok law_thing_1) (.ok (.int 3))) >>= seqOf) (fun d_2 => cel (nt (((allR [(.ok law_thing_1), (.ok d_2)]) >>= F_law_is_telling) >>= truD)) (.ok d_2)))) (asL ((allR []) >>= lstD)))))))
def g_law_is_case : List PyData → Res (Out Empty)
  | [law_thing_1] => m_law_is_case law_thing_1
  | _ => .stuck
def F_law_is_case (ds : List PyData) : Res PyData := finR (g_law_is_case ds)
theorem F_law_is_case_eq (law_thing_1 : PyData) : F_law_is_case [law_thing_1] = finR (m_law_is_case law_thing_1) := rfl
def m_law_spoilt (F_law_spoilt : List PyData → Res PyData) (law_script_1 law_at_2 law_thing_3 law_deep_4 : PyData) : Res (Out Empty) :=
  ((andR (b2 gtD (.ok law_deep_4) (.ok (.int 0)) >>= boolD) (andR (((.ok law_thing_3) >>= isiD "tuple") >>= truD) (andR (b2 neD (.ok law_thing_3) ((allR []) >>= tupD) >>= boolD) (b2 gtD ((allR [(.ok law_script_1), (.ok law_at_2), (.ok (.int 5))]) >>= F_law_drawn) (.ok (.int 0)) >>= boolD)))) >>= fun z => if z = true then onlyR (((allR [(.ok law_script_1), (b2 addD (.ok law_at_2) (.ok (.int 1))), ((allR [(.ok law_thing_3)]) >>= lenC)]) >>= F_law_drawn) >>= fun law_place_5 => (((allR [(.ok law_script_1), (b2 addD (.ok law_at_2) (.ok (.int 3))), (b2 idxD (.ok law_thing_3) (.ok law_place_5)), (b2 subD (.ok law_deep_4) (.ok (.int 1)))]) >>= F_law_spoilt) >>= fun law_part_6 => (retR (b2 addD (b2 addD (sl3 (.ok law_thing_3) (.ok none) ((.ok law_place_5) >>= partD)) ((allR [(.ok law_part_6)]) >>= tupD)) (sl3 (.ok law_thing_3) ((b2 addD (.ok law_place_5) (.ok (.int 1))) >>= partD) (.ok none)))))) else (((allR [(.ok .none), (.ok (.bool true)), (.ok (.bool false)), ((.ok (.int 1)) >>= negD), (.ok (.int 0)), (.ok (.int 1)), (.ok (.int 2)), (.ok (.int 3)), (.ok (.int 4)), (.ok (.int 5)), (.ok (.int 6)), (.ok (.int 9)), (.ok (.int 10)), (.ok (.str "1")), (.ok (.str "seen")), (.ok (.str "met")), (.ok (.str "there")), (.ok (.str "was")), ((allR []) >>= tupD), (asL ((allR []) >>= lstD)), ((allR [(.ok (.int 0)), (.ok (.int 1)), (.ok (.int 1))]) >>= tupD)]) >>= lstD) >>= fun law_some_7 => ((((.ok law_thing_3) >>= isiD "tuple") >>= truD) >>= fun z => seqR (if z = true then ((b2 addD (.ok (.list law_some_7)) (asL ((allR [(asL ((allR [(.ok law_thing_3)]) >>= listC)), ((.ok law_thing_3) >>= revB), (b2 addD (.ok law_thing_3) (.ok law_thing_3)), (sl3 (.ok law_thing_3) ((.ok (.int 1)) >>= partD) (.ok none)), (b2 addD (.ok law_thing_3) (sl3 (.ok law_thing_3) (((.ok (.int 1)) >>= negD) >>= partD) (.ok none)))]) >>= lstD))) >>= fun law_some_10 => (.ok (.nx law_some_10))) else (.ok (.nx (PyData.list law_some_7)))) fun (st_8 : PyData) => (retR (b2 idxD (.ok st_8) ((allR [(.ok law_script_1), (b2 addD (.ok law_at_2) (.ok (.int 2))), ((allR [(.ok st_8)]) >>= lenC)]) >>= F_law_drawn))))))
def g_law_spoilt (R : List PyData → Res PyData) : List PyData → Res (Out Empty)
  | [law_script_1, law_at_2, law_thing_3, law_deep_4] => m_law_spoilt R law_script_1 law_at_2 law_thing_3 law_deep_4
  | _ => .stuck
def R_law_spoilt : Nat → List PyData → Res PyData
  | 0 => fun _ => .stuck
  | j + 1 => fun ds => finR (g_law_spoilt (R_law_spoilt j) ds)
def F_law_spoilt : List PyData → Res PyData := R_law_spoilt 6
def m_law_bounds  : Res (Out Empty) :=
  (((allR [((allR [(.ok (.int 0)), (.ok (.int 1)), (.ok (.int 0))]) >>= tupD), ((allR [(.ok (.int 0)), (.ok (.int 1)), (.ok (.int 1))]) >>= tupD), ((allR [(.ok (.int 0)), (.ok (.int 1)), (.ok (.int 4))]) >>= tupD), ((allR [(.ok (.int 0)), (.ok (.int 1)), (.ok (.int 5))]) >>= tupD), ((allR [(.ok (.int 0)), (.ok (.int 2)), (.ok (.int 1))]) >>= tupD), ((allR [(.ok (.int 0)), (.ok (.int 3)), (.ok (.int 1))]) >>= tupD), ((allR [(.ok (.int 1)), (.ok (.int 1)), (.ok (.int 1))]) >>= tupD), ((allR [(.ok (.int 1)), (.ok (.int 0)), (.ok (.int 1))]) >>= tupD), ((allR [((.ok (.int 1)) >>= negD), (.ok (.int 1)), (.ok (.int 1))]) >>= tupD)]) >>= lstD) >>= fun law_ways_1 => ((b2 addD (asL (comR ((.ok (PyData.list law_ways_1)) >>= seqOf) (fun d_4 => cel (.ok true) ((allR [(.ok (.int 2)), ((allR [(.ok d_4)]) >>= tupD)]) >>= tupD)))) (asL ((allR [((allR [(.ok (.int 5)), ((allR []) >>= tupD)]) >>= tupD), ((allR [(.ok (.int 6)), ((allR []) >>= tupD)]) >>= tupD), ((allR [(.ok (.int 0)), ((allR []) >>= tupD)]) >>= tupD), ((allR [(.ok (.int 2)), ((allR [((allR [(.ok (.int 0)), (.ok (.int 1)), (.ok (.int 1))]) >>= tupD), ((allR [(.ok (.int 0)), (.ok (.int 1)), (.ok (.int 2))]) >>= tupD)]) >>= tupD)]) >>= tupD), ((allR [(.ok (.bool true)), ((allR []) >>= tupD)]) >>= tupD)]) >>= lstD))) >>= fun law_towns_3 => ((b2 neD (asL (comR ((.ok law_towns_3) >>= seqOf) (fun d_6 => cel (b2 neD ((allR [(.ok d_6)]) >>= F_is_town) ((allR [(.ok d_6)]) >>= F_law_is_town) >>= boolD) (.ok d_6)))) (asL ((allR []) >>= lstD)) >>= boolD) >>= fun z => if z = true then onlyR (retR (.ok (.bool false))) else (((allR [((allR [(.ok (.int 2)), ((allR [((allR [(.ok (.int 0)), (.ok (.int 1)), (.ok (.int 1))]) >>= tupD)]) >>= tupD)]) >>= tupD), (.ok (.int 2)), (.ok (.int 3)), ((allR []) >>= tupD)]) >>= tupD) >>= fun law_case_here_8 => (comR (((allR [((allR [(.ok (.int 0)), (.ok (.int 3))]) >>= tupD), ((allR [(.ok (.int 0)), (.ok (.int 4))]) >>= tupD), ((allR [((.ok (.int 1)) >>= negD), (.ok (.int 2))]) >>= tupD), ((allR [(.ok (.int 2)), (.ok (.int 1))]) >>= tupD), ((allR [(.ok (.int 3)), (.ok (.int 3))]) >>= tupD), ((allR [(.ok (.bool true)), (.ok (.int 2))]) >>= tupD), ((allR [(.ok (.int 0)), (.ok .none)]) >>= tupD)]) >>= tupD) >>= seqOf) (fun d_10 => cel (.ok true) (b2 addD ((allR [(.ok (.str "seen")), (.ok (.int 0)), (.ok (.int 1))]) >>= tupD) (.ok d_10))) >>= fun law_some_9 => ((((allR [(.ok (.str "there")), (.ok (.str "met")), (.ok (.str "was"))]) >>= tupD) >>= seqOf) >>= fun ds => seqR (forD ds (PyData.list law_some_9) fun d_13 (st_12 : PyData) => ((((allR [((.ok (.int 1)) >>= negD), (.ok (.int 0)), (.ok (.int 1)), (.ok (.int 2))]) >>= tupD) >>= seqOf) >>= fun ds => seqR (forD ds st_12 fun d_23 (st_22 : PyData) => ((b2 addD (.ok st_22) (asL (comR (((allR [((.ok (.int 1)) >>= negD), (.ok (.int 1)), (.ok (.int 2))]) >>= tupD) >>= seqOf) (fun d_25 => cel (.ok true) ((allR [(.ok d_13), (.ok d_25), (.ok d_23), (.ok (.int 1)), (.ok (.int 2))]) >>= tupD))))) >>= fun law_some_24 => (.ok (.nx law_some_24)))) fun (st_22 : PyData) => (.ok (.nx st_22)))) fun (st_12 : PyData) => (retR (b2 eqD (asL (comR ((.ok st_12) >>= seqOf) (fun d_27 => cel (b2 neD ((allR [(.ok law_case_here_8), (.ok d_27)]) >>= F_is_telling) ((allR [(.ok law_case_here_8), (.ok d_27)]) >>= F_law_is_telling) >>= boolD) (.ok d_27)))) (asL ((allR []) >>= lstD))))))))))
def g_law_bounds : List PyData → Res (Out Empty)
  | [] => m_law_bounds 
  | _ => .stuck
def F_law_bounds (ds : List PyData) : Res PyData := finR (g_law_bounds ds)
theorem F_law_bounds_eq  : F_law_bounds [] = finR (m_law_bounds ) := rfl
def m_law (law_script_1 : PyData) : Res (Out Empty) :=
  (((allR [(.ok law_script_1), (.ok (.int 0)), (.ok (.int 4))]) >>= F_law_case) >>= fun law_case_here_2 => ((b2 eqD ((allR [(.ok law_script_1), (.ok (.int 80)), (.ok (.int 4))]) >>= F_law_drawn) (.ok (.int 0)) >>= boolD) >>= fun z => seqR (if z = true then (((allR [((allR [(.ok (.int 5)), (b2 addD (b2 idxD (b2 idxD (.ok law_case_here_2) (.ok (.int 0))) (.ok (.int 1))) ((allR [((allR [(.ok (.int 3)), (.ok (.int 4)), (.ok (.int 4))]) >>= tupD)]) >>= tupD))]) >>= tupD), (.ok (.int 3)), (.ok (.int 9)), (b2 addD (b2 idxD (.ok law_case_here_2) (.ok (.int 3))) ((allR [((allR [(.ok (.str "met")), (.ok (.int 2)), (.ok (.int 0)), (.ok (.int 0)), (.ok (.int 9))]) >>= tupD), ((allR [(.ok (.str "never")), (.ok (.int 2)), (.ok (.int 4)), (.ok (.int 9)), (.ok (.int 9))]) >>= tupD)]) >>= tupD))]) >>= tupD) >>= fun law_case_here_4 => (.ok (.nx law_case_here_4))) else (.ok (.nx law_case_here_2))) fun (st_3 : PyData) => ((orR (nt (((allR [(.ok st_3)]) >>= F_is_case) >>= truD)) (orR (nt (((allR [(.ok st_3)]) >>= F_law_is_case) >>= truD)) (nt (((allR [(b2 idxD (.ok st_3) (.ok (.int 0)))]) >>= F_is_town) >>= truD)))) >>= fun z => if z = true then onlyR (retR (.ok (.bool false))) else (((allR [(.ok (.int 5))]) >>= rng1) >>= fun ds => seqR (forD ds () fun d_6 (st_5 : Unit) => (((allR [(.ok law_script_1), (b2 addD (.ok (.int 90)) (b2 mulD (.ok (.int 20)) (.ok d_6))), (.ok st_3), (b2 addD (.ok (.int 1)) (b2 modD (.ok d_6) (.ok (.int 4))))]) >>= F_law_spoilt) >>= fun law_spoilt_here_7 => (((allR [(.ok law_spoilt_here_7)]) >>= F_is_case) >>= fun law_told_8 => ((orR (nt (((.ok law_told_8) >>= isiD "bool") >>= truD)) (b2 neD (.ok law_told_8) ((allR [(.ok law_spoilt_here_7)]) >>= F_law_is_case) >>= boolD)) >>= fun z => if z = true then onlyR (retR (.ok (.bool false))) else ((ite3 (andR (((.ok law_spoilt_here_7) >>= isiD "tuple") >>= truD) (b2 neD (.ok law_spoilt_here_7) ((allR []) >>= tupD) >>= boolD)) (b2 idxD (.ok law_spoilt_here_7) (.ok (.int 0))) (.ok law_spoilt_here_7)) >>= fun law_thing_9 => (((allR [(.ok law_thing_9)]) >>= F_is_town) >>= fun law_told_10 => ((orR (nt (((.ok law_told_10) >>= isiD "bool") >>= truD)) (b2 neD (.ok law_told_10) ((allR [(.ok law_thing_9)]) >>= F_law_is_town) >>= boolD)) >>= fun z => if z = true then onlyR (retR (.ok (.bool false))) else (((allR [(.ok law_script_1), (b2 addD (.ok (.int 200)) (b2 mulD (.ok (.int 10)) (.ok d_6))), ((allR [(.ok (.str "met")), (.ok (.int 0)), (.ok (.int 1)), (.ok (.int 0)), (b2 idxD (.ok st_3) (.ok (.int 2)))]) >>= tupD), (.ok (.int 1))]) >>= F_law_spoilt) >>= fun law_telling_here_11 => (((allR [(.ok st_3), (.ok law_telling_here_11)]) >>= F_is_telling) >>= fun law_told_12 => ((orR (nt (((.ok law_told_12) >>= isiD "bool") >>= truD)) (b2 neD (.ok law_told_12) ((allR [(.ok st_3), (.ok law_telling_here_11)]) >>= F_law_is_telling) >>= boolD)) >>= fun z => if z = true then onlyR (retR (.ok (.bool false))) else (.ok (.nx ())))))))))))) fun (st_5 : Unit) => ((nt (F_law_bounds [] >>= truD)) >>= fun z => if z = true then onlyR (retR (.ok (.bool false))) else (((allR [((allR [(.ok (.str "there")), (.ok (.int 0)), (.ok (.int 0)), (.ok (.int 0)), (.ok (.int 0))]) >>= tupD)]) >>= tupD) >>= fun law_row_13 => (retR (andV (notV ((allR [(b2 addD (sl3 (.ok st_3) (.ok none) ((.ok (.int 3)) >>= partD)) ((allR [(b2 mulD (.ok law_row_13) (.ok (.int 7)))]) >>= tupD))]) >>= F_is_case)) ((allR [(b2 addD (sl3 (.ok st_3) (.ok none) ((.ok (.int 3)) >>= partD)) ((allR [(b2 mulD (.ok law_row_13) (.ok (.int 6)))]) >>= tupD))]) >>= F_is_case)))))))))
def g_law : List PyData → Res (Out Empty)
  | [law_script_1] => m_law law_script_1
  | _ => .stuck
def F_law (ds : List PyData) : Res PyData := finR (g_law ds)
theorem F_law_eq (law_script_1 : PyData) : F_law [law_script_1] = finR (m_law law_script_1) := rfl
structure Tx (K : PySem.W.Frag) (mg : Str → Option Value) : Prop where
  z_all : mg "all" = none
  z_bool : mg "bool" = none
  c_MOST_MOMENT : Gcon K mg "MOST_MOMENT" (.int 9)
  c_MOST_PERSONS : Gcon K mg "MOST_PERSONS" (.int 3)
  c_MOST_PLACES : Gcon K mg "MOST_PLACES" (.int 5)
  c_MOST_TELLINGS : Gcon K mg "MOST_TELLINGS" (.int 6)
  c_MOST_TIME : Gcon K mg "MOST_TIME" (.int 4)
  c_OF_TWO : Gcon K mg "OF_TWO" (.tuple ([("met" : Str), ("apart" : Str)].map PyData.str))
  c_WORDS : Gcon K mg "WORDS" (.tuple ([("there" : Str), ("seen" : Str), ("never" : Str), ("met" : Str), ("apart" : Str)].map PyData.str))
  z_int : mg "int" = none
  z_isinstance : mg "isinstance" = none
  z_len : mg "len" = none
  z_list : mg "list" = none
  x_NoCase : Xcl K mg "NoCase"
  z_range : mg "range" = none
  z_set : mg "set" = none
  z_sorted : mg "sorted" = none
  z_str : mg "str" = none
  z_tuple : mg "tuple" = none
  z_zip : mg "zip" = none
section
variable {P : Program} {w : World} {K : PySem.W.Frag} {mg : Str → Option Value} {base : Heap}
abbrev s_is_number : Stmt := topS 11
abbrev N_is_number : List Str := ["thing", "low", "high"]
theorem sc_is_number : FnScope N_is_number ["thing", "low", "high"] (defScope s_is_number) := ⟨rfl, rfl, rfl, by decide +kernel, rfl, by decide +kernel, by decide +kernel⟩
set_option maxHeartbeats 4000000 in
theorem ok_is_number {f : Addr} {fd : FuncData} (T : Tx K mg) (F : Fun K "is_number" "is_number" s_is_number f fd)  :
    FnOk P w K mg base (L2.CX P w) 1 f fd ["thing", "low", "high"] (spF ⟨P, w, K⟩ mg F_is_number) := by
  refine def_ok (sh := fun (z : Empty) => nomatch z) F sc_is_number g_is_number (fun ds h => ?_) (fun cdv A outer s H E X hX hr ds hl => ?_)
  · match ds, h with
    | [], _ => rfl
    | [_], _ => rfl
    | [_, _], _ => rfl
    | [_, _, _], h => exact absurd rfl h
    | _ :: _ :: _ :: _ :: _, _ => rfl
  · subst hX
    have b := bd_of sc_is_number hr
    match ds, hl with
    | [thing_1, low_2, high_3], _ =>
    show GSs _ E _ [.fz thing_1, .fz low_2, .fz high_3] _ (m_is_number thing_1 low_2 high_3)
    exact gss_ret (ge_and (ge_isi (T := "int") (GE.w (ge_var (i := 0) (pv 0))) T.z_isinstance T.z_int) (ge_and (ge_not (ge_isi (T := "bool") (GE.w (ge_var (i := 0) (pv 0))) T.z_isinstance T.z_bool)) (ge_one (ge_chain (le_ok) (le_ok) (GE.w (ge_var (i := 1) (pv 1))) (GE.w (ge_var (i := 0) (pv 0))) (GE.w (ge_var (i := 2) (pv 2)))))))
abbrev s_is_way : Stmt := topS 12
abbrev N_is_way : List Str := ["places", "thing"]
theorem sc_is_way : FnScope N_is_way ["places", "thing"] (defScope s_is_way) := ⟨rfl, rfl, rfl, by decide +kernel, rfl, by decide +kernel, by decide +kernel⟩
set_option maxHeartbeats 4000000 in
theorem ok_is_way {f : Addr} {fd : FuncData} (T : Tx K mg) (F : Fun K "is_way" "is_way" s_is_way f fd) (c_is_number : Cal P w K mg base 1 "is_number" F_is_number) :
    FnOk P w K mg base (L2.CX P w) 2 f fd ["places", "thing"] (spF ⟨P, w, K⟩ mg F_is_way) := by
  refine def_ok (sh := fun (z : Empty) => nomatch z) F sc_is_way g_is_way (fun ds h => ?_) (fun cdv A outer s H E X hX hr ds hl => ?_)
  · match ds, h with
    | [], _ => rfl
    | [_], _ => rfl
    | [_, _], h => exact absurd rfl h
    | _ :: _ :: _ :: _, _ => rfl
  · subst hX
    have b := bd_of sc_is_way hr
    match ds, hl with
    | [places_1, thing_2], _ =>
    show GSs _ E _ [.fz places_1, .fz thing_2] _ (m_is_way places_1 thing_2)
    refine gss_if1 (se := fun z => nomatch z) (gt_w (gtw_or (gt_not (gt_val (GE.w (ge_isi (T := "tuple") (GE.w (ge_var (i := 1) (pv 1))) T.z_isinstance T.z_tuple)))) (gtw_or (gt_cmp (ne_ok b.u64) (GE.w (ge_callB len_ok rfl T.z_len bt_len (gaw_cons (GE.w (ge_var (i := 1) (pv 1))) gaw_nil))) (GE.w ge_int)) (gtw_or1 (gt_not (gt_val (GE.w (ge_call c_is_number b.hr (by decide) b.hx (ga_cons (ge_idx (GE.w (ge_var (i := 1) (pv 1))) (GE.w ge_int)) (ga_cons ge_int (ga_cons (ge_bin sub_ok (GE.w (ge_var (i := 0) (pv 0))) (GE.w ge_int)) ga_nil))))))))))) ?_ ?_
    · exact gss_ret ge_bl
    exact gss_ret (ge_and (ge_call c_is_number b.hr (by decide) b.hx (ga_cons (ge_idx (GE.w (ge_var (i := 1) (pv 1))) (GE.w ge_int)) (ga_cons (ge_bin add_ok (GE.w (ge_idx (GE.w (ge_var (i := 1) (pv 1))) (GE.w ge_int))) (GE.w ge_int)) (ga_cons (ge_bin sub_ok (GE.w (ge_var (i := 0) (pv 0))) (GE.w ge_int)) ga_nil)))) (ge_one (ge_call c_is_number b.hr (by decide) b.hx (ga_cons (ge_idx (GE.w (ge_var (i := 1) (pv 1))) (GE.w ge_int)) (ga_cons ge_int (ga_cons (ge_glob T.c_MOST_TIME) ga_nil))))))
abbrev s_is_town : Stmt := topS 13
abbrev N_is_town : List Str := ["thing", "other", "one"]
theorem sc_is_town : FnScope N_is_town ["thing"] (defScope s_is_town) := ⟨rfl, rfl, rfl, by decide +kernel, rfl, by decide +kernel, by decide +kernel⟩
set_option maxHeartbeats 4000000 in
theorem ok_is_town {f : Addr} {fd : FuncData} (T : Tx K mg) (F : Fun K "is_town" "is_town" s_is_town f fd) (c_is_number : Cal P w K mg base 1 "is_number" F_is_number) (c_is_way : Cal P w K mg base 2 "is_way" F_is_way) :
    FnOk P w K mg base (L2.CX P w) 3 f fd ["thing"] (spF ⟨P, w, K⟩ mg F_is_town) := by
  refine def_ok (sh := fun (z : Empty) => nomatch z) F sc_is_town g_is_town (fun ds h => ?_) (fun cdv A outer s H E X hX hr ds hl => ?_)
  · match ds, h with
    | [], _ => rfl
    | [_], h => exact absurd rfl h
    | _ :: _ :: _, _ => rfl
  · subst hX
    have b := bd_of sc_is_town hr
    match ds, hl with
    | [thing_1], _ =>
    show GSs _ E _ [.fz thing_1, .no, .no] _ (m_is_town thing_1)
    refine gss_if1 (se := fun z => nomatch z) (gt_w (gtw_or (gt_not (gt_val (GE.w (ge_isi (T := "tuple") (GE.w (ge_var (i := 0) (pv 0))) T.z_isinstance T.z_tuple)))) (gtw_or (gt_cmp (ne_ok b.u64) (GE.w (ge_callB len_ok rfl T.z_len bt_len (gaw_cons (GE.w (ge_var (i := 0) (pv 0))) gaw_nil))) (GE.w ge_int)) (gtw_or1 (gt_not (gt_val (GE.w (ge_call c_is_number b.hr (by decide) b.hx (ga_cons (ge_idx (GE.w (ge_var (i := 0) (pv 0))) (GE.w ge_int)) (ga_cons ge_int (ga_cons (ge_glob T.c_MOST_PLACES) ga_nil))))))))))) ?_ ?_
    · exact gss_ret ge_bl
    refine gss_if1 (se := fun z => nomatch z) (gt_w (gtw_or (gt_not (gt_val (GE.w (ge_isi (T := "tuple") (GE.w (ge_idx (GE.w (ge_var (i := 0) (pv 0))) (GE.w ge_int))) T.z_isinstance T.z_tuple)))) (gtw_or1 (gt_not (gt_val (GE.w (ge_callB (all_ok rfl) rfl T.z_all bt_all (gaw_cons (GE.w (GO.ge (go_comp (own := [("one", 2)]) rfl b.nd (blkOk_by (N := N_is_town) (sc := defScope s_is_town) (by decide +kernel)) (gi_seq (ge_idx (GE.w (ge_var (i := 0) (pv 0))) (GE.w ge_int))) (fun d_2 => gc_name (i := 2) (fun _ _ _ _ _ => pg_name (i := 2) b.nd rfl (Or.inl rfl)) (by decide) (fun _ _ _ _ _ => gts_nil) (fun _ _ _ _ _ => (ge_call c_is_way b.hr (by decide) passL (ga_cons (ge_idx (GE.w (ge_var (i := 0) (pv 0))) (GE.w ge_int)) (ga_cons (ge_var (i := 2) (pv 2)) ga_nil)))))))) gaw_nil)))))))) ?_ ?_
    · exact gss_ret ge_bl
    exact gss_ret (ge_callB (all_ok rfl) rfl T.z_all bt_all (gaw_cons (GE.w (GO.ge (go_comp (own := [("one", 2), ("other", 1)]) rfl b.nd (blkOk_by (N := N_is_town) (sc := defScope s_is_town) (by decide +kernel)) (gi_zip rfl T.z_zip (ga_cons (ge_idx (GE.w (ge_var (i := 0) (pv 0))) (GE.w ge_int)) (ga_cons (ge_slice (GE.w (ge_idx (GE.w (ge_var (i := 0) (pv 0))) (GE.w ge_int))) (gp_some (GE.w ge_int)) gp_none) ga_nil))) (fun d_4 => gc_tup2 (i := 2) (j := 1) (fun _ _ _ _ _ => pg_tup rfl (pgs_cons (pg_name (i := 2) b.nd rfl (Or.inl rfl)) (pgs_cons (pg_name (i := 1) b.nd rfl (Or.inl rfl)) pgs_nil))) (by decide) (by decide) (fun one_5 other_6 _ _ _ _ _ => gts_nil) (fun one_5 other_6 _ _ _ _ _ => (ge_cmp (lt_ok b.u0) (GE.w (ge_slice (GE.w (ge_var (i := 2) (pv 2))) gp_none (gp_some (GE.w ge_int)))) (GE.w (ge_slice (GE.w (ge_var (i := 1) (pv 1))) gp_none (gp_some (GE.w ge_int)))))))))) gaw_nil))
abbrev s_fits : Stmt := topS 14
abbrev N_fits : List Str := ["places", "persons", "last", "thing", "word", "who", "what", "first", "end"]
theorem sc_fits : FnScope N_fits ["places", "persons", "last", "thing"] (defScope s_fits) := ⟨rfl, rfl, rfl, by decide +kernel, rfl, by decide +kernel, by decide +kernel⟩
set_option maxHeartbeats 4000000 in
theorem ok_fits {f : Addr} {fd : FuncData} (T : Tx K mg) (F : Fun K "fits" "fits" s_fits f fd) (c_is_number : Cal P w K mg base 1 "is_number" F_is_number) :
    FnOk P w K mg base (L2.CX P w) 2 f fd ["places", "persons", "last", "thing"] (spF ⟨P, w, K⟩ mg F_fits) := by
  refine def_ok (sh := fun (z : Empty) => nomatch z) F sc_fits g_fits (fun ds h => ?_) (fun cdv A outer s H E X hX hr ds hl => ?_)
  · match ds, h with
    | [], _ => rfl
    | [_], _ => rfl
    | [_, _], _ => rfl
    | [_, _, _], _ => rfl
    | [_, _, _, _], h => exact absurd rfl h
    | _ :: _ :: _ :: _ :: _ :: _, _ => rfl
  · subst hX
    have b := bd_of sc_fits hr
    match ds, hl with
    | [places_1, persons_2, last_3, thing_4], _ =>
    show GSs _ E _ [.fz places_1, .fz persons_2, .fz last_3, .fz thing_4, .no, .no, .no, .no, .no] _ (m_fits places_1 persons_2 last_3 thing_4)
    refine gss_if1 (se := fun z => nomatch z) (gt_w (gtw_or (gt_not (gt_val (GE.w (ge_isi (T := "tuple") (GE.w (ge_var (i := 3) (pv 3))) T.z_isinstance T.z_tuple)))) (gtw_or (gt_cmp (ne_ok b.u64) (GE.w (ge_callB len_ok rfl T.z_len bt_len (gaw_cons (GE.w (ge_var (i := 3) (pv 3))) gaw_nil))) (GE.w ge_int)) (gtw_or (gt_not (gt_val (GE.w (ge_isi (T := "str") (GE.w (ge_idx (GE.w (ge_var (i := 3) (pv 3))) (GE.w ge_int))) T.z_isinstance T.z_str)))) (gtw_or1 (gt_cmp (notIn_ok b.u65) (GE.w (ge_idx (GE.w (ge_var (i := 3) (pv 3))) (GE.w ge_int))) (GE.w (ge_glob T.c_WORDS)))))))) ?_ ?_
    · exact gss_ret ge_bl
    refine gss_unp (ge_var (i := 3) (pv 3)) (fun d_5 => ?_)
    refine gb_tup5 (i := 4) (j := 5) (l := 6) (m := 7) (n := 8) b.nd rfl (fun word_6 who_7 what_8 first_9 end_10 => ?_)
    refine gss_if1 (se := fun z => nomatch z) (gt_w (gtw_or (gt_not (gt_val (GE.w (ge_call c_is_number b.hr (by decide) b.hx (ga_cons (ge_var (i := 5) (pv 5)) (ga_cons ge_int (ga_cons (ge_bin sub_ok (GE.w (ge_var (i := 1) (pv 1))) (GE.w ge_int)) ga_nil))))))) (gtw_or (gt_not (gt_val (GE.w (ge_call c_is_number b.hr (by decide) b.hx (ga_cons (ge_var (i := 7) (pv 7)) (ga_cons ge_int (ga_cons (ge_var (i := 2) (pv 2)) ga_nil))))))) (gtw_or1 (gt_not (gt_val (GE.w (ge_call c_is_number b.hr (by decide) b.hx (ga_cons (ge_var (i := 8) (pv 8)) (ga_cons (ge_var (i := 7) (pv 7)) (ga_cons (ge_var (i := 2) (pv 2)) ga_nil))))))))))) ?_ ?_
    · exact gss_ret ge_bl
    refine gss_if1 (se := fun z => nomatch z) (gt_cmp (in_ok b.u65) (GE.w (ge_var (i := 4) (pv 4))) (GE.w (ge_glob T.c_OF_TWO))) ?_ ?_
    · exact gss_ret (ge_and (ge_call c_is_number b.hr (by decide) b.hx (ga_cons (ge_var (i := 6) (pv 6)) (ga_cons ge_int (ga_cons (ge_bin sub_ok (GE.w (ge_var (i := 1) (pv 1))) (GE.w ge_int)) ga_nil)))) (ge_one (ge_cmp (ne_ok b.u64) (GE.w (ge_var (i := 6) (pv 6))) (GE.w (ge_var (i := 5) (pv 5))))))
    exact gss_ret (ge_call c_is_number b.hr (by decide) b.hx (ga_cons (ge_var (i := 6) (pv 6)) (ga_cons ge_int (ga_cons (ge_bin sub_ok (GE.w (ge_var (i := 0) (pv 0))) (GE.w ge_int)) ga_nil))))
abbrev s_is_case : Stmt := topS 15
abbrev N_is_case : List Str := ["thing", "town", "persons", "last", "tellings", "one"]
theorem sc_is_case : FnScope N_is_case ["thing"] (defScope s_is_case) := ⟨rfl, rfl, rfl, by decide +kernel, rfl, by decide +kernel, by decide +kernel⟩
set_option maxHeartbeats 4000000 in
theorem ok_is_case {f : Addr} {fd : FuncData} (T : Tx K mg) (F : Fun K "is_case" "is_case" s_is_case f fd) (c_fits : Cal P w K mg base 2 "fits" F_fits) (c_is_number : Cal P w K mg base 1 "is_number" F_is_number) (c_is_town : Cal P w K mg base 3 "is_town" F_is_town) :
    FnOk P w K mg base (L2.CX P w) 4 f fd ["thing"] (spF ⟨P, w, K⟩ mg F_is_case) := by
  refine def_ok (sh := fun (z : Empty) => nomatch z) F sc_is_case g_is_case (fun ds h => ?_) (fun cdv A outer s H E X hX hr ds hl => ?_)
  · match ds, h with
    | [], _ => rfl
    | [_], h => exact absurd rfl h
    | _ :: _ :: _, _ => rfl
  · subst hX
    have b := bd_of sc_is_case hr
    match ds, hl with
    | [thing_1], _ =>
    show GSs _ E _ [.fz thing_1, .no, .no, .no, .no, .no] _ (m_is_case thing_1)
    refine gss_if1 (se := fun z => nomatch z) (gt_w (gtw_or (gt_not (gt_val (GE.w (ge_isi (T := "tuple") (GE.w (ge_var (i := 0) (pv 0))) T.z_isinstance T.z_tuple)))) (gtw_or (gt_cmp (ne_ok b.u64) (GE.w (ge_callB len_ok rfl T.z_len bt_len (gaw_cons (GE.w (ge_var (i := 0) (pv 0))) gaw_nil))) (GE.w ge_int)) (gtw_or1 (gt_not (gt_val (GE.w (ge_call c_is_town b.hr (by decide) b.hx (ga_cons (ge_idx (GE.w (ge_var (i := 0) (pv 0))) (GE.w ge_int)) ga_nil))))))))) ?_ ?_
    · exact gss_ret ge_bl
    refine gss_unp (ge_var (i := 0) (pv 0)) (fun d_2 => ?_)
    refine gb_tup4 (i := 1) (j := 2) (l := 3) (m := 4) b.nd rfl (fun town_3 persons_4 last_5 tellings_6 => ?_)
    refine gss_if1 (se := fun z => nomatch z) (gt_w (gtw_or (gt_not (gt_val (GE.w (ge_call c_is_number b.hr (by decide) b.hx (ga_cons (ge_var (i := 2) (pv 2)) (ga_cons ge_int (ga_cons (ge_glob T.c_MOST_PERSONS) ga_nil))))))) (gtw_or1 (gt_not (gt_val (GE.w (ge_call c_is_number b.hr (by decide) b.hx (ga_cons (ge_var (i := 3) (pv 3)) (ga_cons ge_int (ga_cons (ge_glob T.c_MOST_MOMENT) ga_nil)))))))))) ?_ ?_
    · exact gss_ret ge_bl
    refine gss_if1 (se := fun z => nomatch z) (gt_w (gtw_or (gt_not (gt_val (GE.w (ge_isi (T := "tuple") (GE.w (ge_var (i := 4) (pv 4))) T.z_isinstance T.z_tuple)))) (gtw_or1 (gt_cmp (gt_ok) (GE.w (ge_callB len_ok rfl T.z_len bt_len (gaw_cons (GE.w (ge_var (i := 4) (pv 4))) gaw_nil))) (GE.w (ge_glob T.c_MOST_TELLINGS)))))) ?_ ?_
    · exact gss_ret ge_bl
    exact gss_ret (ge_callB (all_ok rfl) rfl T.z_all bt_all (gaw_cons (GE.w (GO.ge (go_comp (own := [("one", 5)]) rfl b.nd (blkOk_by (N := N_is_case) (sc := defScope s_is_case) (by decide +kernel)) (gi_seq (ge_var (i := 4) (pv 4))) (fun d_7 => gc_name (i := 5) (fun _ _ _ _ _ => pg_name (i := 5) b.nd rfl (Or.inl rfl)) (by decide) (fun _ _ _ _ _ => gts_nil) (fun _ _ _ _ _ => (ge_call c_fits b.hr (by decide) passL (ga_cons (ge_idx (GE.w (ge_var (i := 1) (pv 1))) (GE.w ge_int)) (ga_cons (ge_var (i := 2) (pv 2)) (ga_cons (ge_var (i := 3) (pv 3)) (ga_cons (ge_var (i := 5) (pv 5)) ga_nil)))))))))) gaw_nil))
abbrev s_need_case : Stmt := topS 16
abbrev N_need_case : List Str := ["case"]
theorem sc_need_case : FnScope N_need_case ["case"] (defScope s_need_case) := ⟨rfl, rfl, rfl, by decide +kernel, rfl, by decide +kernel, by decide +kernel⟩
set_option maxHeartbeats 4000000 in
theorem ok_need_case {f : Addr} {fd : FuncData} (T : Tx K mg) (F : Fun K "need_case" "need_case" s_need_case f fd) (c_is_case : Cal P w K mg base 4 "is_case" F_is_case) :
    FnOk P w K mg base (L2.CX P w) 5 f fd ["case"] (spF ⟨P, w, K⟩ mg F_need_case) := by
  refine def_ok (sh := fun (_ : Unit) => [.no]) F sc_need_case g_need_case (fun ds h => ?_) (fun cdv A outer s H E X hX hr ds hl => ?_)
  · match ds, h with
    | [], _ => rfl
    | [_], h => exact absurd rfl h
    | _ :: _ :: _, _ => rfl
  · subst hX
    have b := bd_of sc_need_case hr
    match ds, hl with
    | [case_1], _ =>
    show GSs _ E _ [.fz case_1] _ (m_need_case case_1)
    refine gss_if1 (se := fun z => nomatch z) (gt_not (gt_val (GE.w (ge_call c_is_case b.hr (by decide) b.hx (ga_cons (ge_var (i := 0) (pv 0)) ga_nil))))) ?_ ?_
    · exact gss_raiseX rfl b.tk T.x_NoCase
    exact gss_nil () (Le.n Le.nil)
abbrev s_is_telling : Stmt := topS 17
abbrev N_is_telling : List Str := ["case", "thing"]
theorem sc_is_telling : FnScope N_is_telling ["case", "thing"] (defScope s_is_telling) := ⟨rfl, rfl, rfl, by decide +kernel, rfl, by decide +kernel, by decide +kernel⟩
set_option maxHeartbeats 4000000 in
theorem ok_is_telling {f : Addr} {fd : FuncData} (T : Tx K mg) (F : Fun K "is_telling" "is_telling" s_is_telling f fd) (c_fits : Cal P w K mg base 2 "fits" F_fits) (c_need_case : Cal P w K mg base 5 "need_case" F_need_case) :
    FnOk P w K mg base (L2.CX P w) 6 f fd ["case", "thing"] (spF ⟨P, w, K⟩ mg F_is_telling) := by
  refine def_ok (sh := fun (z : Empty) => nomatch z) F sc_is_telling g_is_telling (fun ds h => ?_) (fun cdv A outer s H E X hX hr ds hl => ?_)
  · match ds, h with
    | [], _ => rfl
    | [_], _ => rfl
    | [_, _], h => exact absurd rfl h
    | _ :: _ :: _ :: _, _ => rfl
  · subst hX
    have b := bd_of sc_is_telling hr
    match ds, hl with
    | [case_1, thing_2], _ =>
    show GSs _ E _ [.fz case_1, .fz thing_2] _ (m_is_telling case_1 thing_2)
    refine gss_drop (GE.w (ge_call c_need_case b.hr (by decide) b.hx (ga_cons (ge_var (i := 0) (pv 0)) ga_nil))) ?_
    exact gss_ret (ge_call c_fits b.hr (by decide) b.hx (ga_cons (ge_idx (GE.w (ge_idx (GE.w (ge_var (i := 0) (pv 0))) (GE.w ge_int))) (GE.w ge_int)) (ga_cons (ge_idx (GE.w (ge_var (i := 0) (pv 0))) (GE.w ge_int)) (ga_cons (ge_idx (GE.w (ge_var (i := 0) (pv 0))) (GE.w ge_int)) (ga_cons (ge_var (i := 1) (pv 1)) ga_nil)))))
abbrev s_law_cell : Stmt := topS 19
abbrev N_law_cell : List Str := ["_law_script", "_law_k"]
theorem sc_law_cell : FnScope N_law_cell ["_law_script", "_law_k"] (defScope s_law_cell) := ⟨rfl, rfl, rfl, by decide +kernel, rfl, by decide +kernel, by decide +kernel⟩
set_option maxHeartbeats 4000000 in
theorem ok_law_cell {f : Addr} {fd : FuncData} (T : Tx K mg) (F : Fun K "_law_cell" "_law_cell" s_law_cell f fd)  :
    FnOk P w K mg base (L2.CX P w) 1 f fd ["_law_script", "_law_k"] (spF ⟨P, w, K⟩ mg F_law_cell) := by
  refine def_ok (sh := fun (z : Empty) => nomatch z) F sc_law_cell g_law_cell (fun ds h => ?_) (fun cdv A outer s H E X hX hr ds hl => ?_)
  · match ds, h with
    | [], _ => rfl
    | [_], _ => rfl
    | [_, _], h => exact absurd rfl h
    | _ :: _ :: _ :: _, _ => rfl
  · subst hX
    have b := bd_of sc_law_cell hr
    match ds, hl with
    | [law_script_1, law_k_2], _ =>
    show GSs _ E _ [.fz law_script_1, .fz law_k_2] _ (m_law_cell law_script_1 law_k_2)
    refine gss_if1 (se := fun z => nomatch z) (gt_cmp (nilS_ok b.u64) (GE.w (ge_var (i := 0) (pv 0))) (GE.w (GO.ge (go_lst ga_nil)))) ?_ ?_
    · exact gss_ret (ge_bin mul_ok (GE.w ge_int) (GE.w (ge_var (i := 1) (pv 1))))
    exact gss_ret (ge_bin add_ok (GE.w (ge_ixS (GE.w (ge_var (i := 0) (pv 0))) (GE.w (ge_bin mod_ok (GE.w (ge_var (i := 1) (pv 1))) (GE.w (ge_lenS rfl T.z_len (GE.w (ge_var (i := 0) (pv 0))))))))) (GE.w (ge_bin mul_ok (GE.w ge_int) (GE.w (ge_bin fdiv_ok (GE.w (ge_var (i := 1) (pv 1))) (GE.w (ge_lenS rfl T.z_len (GE.w (ge_var (i := 0) (pv 0))))))))))
abbrev s_law_drawn : Stmt := topS 20
abbrev N_law_drawn : List Str := ["_law_script", "_law_k", "_law_many", "_law_cell_here"]
theorem sc_law_drawn : FnScope N_law_drawn ["_law_script", "_law_k", "_law_many"] (defScope s_law_drawn) := ⟨rfl, rfl, rfl, by decide +kernel, rfl, by decide +kernel, by decide +kernel⟩
set_option maxHeartbeats 4000000 in
theorem ok_law_drawn {f : Addr} {fd : FuncData} (T : Tx K mg) (F : Fun K "_law_drawn" "_law_drawn" s_law_drawn f fd) (c_law_cell : Cal P w K mg base 1 "_law_cell" F_law_cell) :
    FnOk P w K mg base (L2.CX P w) 2 f fd ["_law_script", "_law_k", "_law_many"] (spF ⟨P, w, K⟩ mg F_law_drawn) := by
  refine def_ok (sh := fun (z : Empty) => nomatch z) F sc_law_drawn g_law_drawn (fun ds h => ?_) (fun cdv A outer s H E X hX hr ds hl => ?_)
  · match ds, h with
    | [], _ => rfl
    | [_], _ => rfl
    | [_, _], _ => rfl
    | [_, _, _], h => exact absurd rfl h
    | _ :: _ :: _ :: _ :: _, _ => rfl
  · subst hX
    have b := bd_of sc_law_drawn hr
    match ds, hl with
    | [law_script_1, law_k_2, law_many_3], _ =>
    show GSs _ E _ [.fz law_script_1, .fz law_k_2, .fz law_many_3, .no] _ (m_law_drawn law_script_1 law_k_2 law_many_3)
    refine gss_set (i := 3) b.nd (ge_bin mod_ok (GE.w (ge_bin add_ok (GE.w (ge_bin mul_ok (GE.w (ge_bin mod_ok (GE.w (ge_call c_law_cell b.hr (by decide) b.hx (ga_cons (ge_var (i := 0) (pv 0)) (ga_cons (ge_var (i := 1) (pv 1)) ga_nil)))) (GE.w ge_int))) (GE.w ge_int))) (GE.w (ge_bin mul_ok (GE.w ge_int) (GE.w (ge_bin add_ok (GE.w (ge_var (i := 1) (pv 1))) (GE.w ge_int))))))) (GE.w ge_int)) (fun law_cell_here_4 => ?_)
    refine gss_set (i := 3) b.nd (ge_bin mod_ok (GE.w (ge_bin add_ok (GE.w (ge_bin mul_ok (GE.w (ge_var (i := 3) (pv 3))) (GE.w (ge_var (i := 3) (pv 3))))) (GE.w (ge_bin fdiv_ok (GE.w (ge_var (i := 3) (pv 3))) (GE.w ge_int))))) (GE.w ge_int)) (fun law_cell_here_5 => ?_)
    exact gss_ret (ge_bin mod_ok (GE.w (ge_bin fdiv_ok (GE.w (ge_bin mod_ok (GE.w (ge_bin add_ok (GE.w (ge_bin mul_ok (GE.w (ge_var (i := 3) (pv 3))) (GE.w (ge_var (i := 3) (pv 3))))) (GE.w (ge_bin fdiv_ok (GE.w (ge_var (i := 3) (pv 3))) (GE.w ge_int))))) (GE.w ge_int))) (GE.w ge_int))) (GE.w (ge_var (i := 2) (pv 2))))
abbrev s_law_town : Stmt := topS 21
abbrev N_law_town : List Str := ["_law_script", "_law_at", "_law_most", "_law_many", "_law_ways", "_law_one", "_law_other"]
theorem sc_law_town : FnScope N_law_town ["_law_script", "_law_at", "_law_most"] (defScope s_law_town) := ⟨rfl, rfl, rfl, by decide +kernel, rfl, by decide +kernel, by decide +kernel⟩
set_option maxHeartbeats 4000000 in
theorem ok_law_town {f : Addr} {fd : FuncData} (T : Tx K mg) (F : Fun K "_law_town" "_law_town" s_law_town f fd) (c_law_drawn : Cal P w K mg base 2 "_law_drawn" F_law_drawn) :
    FnOk P w K mg base (L2.CX P w) 3 f fd ["_law_script", "_law_at", "_law_most"] (spF ⟨P, w, K⟩ mg F_law_town) := by
  refine def_ok (sh := fun (z : Empty) => nomatch z) F sc_law_town g_law_town (fun ds h => ?_) (fun cdv A outer s H E X hX hr ds hl => ?_)
  · match ds, h with
    | [], _ => rfl
    | [_], _ => rfl
    | [_, _], _ => rfl
    | [_, _, _], h => exact absurd rfl h
    | _ :: _ :: _ :: _ :: _, _ => rfl
  · subst hX
    have b := bd_of sc_law_town hr
    match ds, hl with
    | [law_script_1, law_at_2, law_most_3], _ =>
    show GSs _ E _ [.fz law_script_1, .fz law_at_2, .fz law_most_3, .no, .no, .no, .no] _ (m_law_town law_script_1 law_at_2 law_most_3)
    refine gss_set (i := 3) b.nd (ge_bin add_ok (GE.w ge_int) (GE.w (ge_call c_law_drawn b.hr (by decide) b.hx (ga_cons (ge_var (i := 0) (pv 0)) (ga_cons (ge_var (i := 1) (pv 1)) (ga_cons (ge_var (i := 2) (pv 2)) ga_nil)))))) (fun law_many_4 => ?_)
    refine gss_own (i := 4) b.nd (go_lst ga_nil) (fun law_ways_5 => ?_)
    refine gss_for (sb := fun (st_6 : List PyData) => [.fz law_script_1, .fz law_at_2, .no, .fz law_many_4, .ow (.list st_6), .no, .no]) law_ways_5 b.po rfl (gi_rng1 rfl T.z_range (ga_cons (ge_var (i := 3) (pv 3)) ga_nil)) (Le.e (Le.e (Le.n (Le.e (Le.e (Le.n (Le.n Le.nil))))))) (fun d_7 st_6 => ?_) (fun st_6 => ?_)
    · refine gb_name (i := 5) b.nd ?_
      refine gss_for (sb := fun (st_8 : List PyData) => [.fz law_script_1, .fz law_at_2, .no, .fz law_many_4, .ow (.list st_8), .fz d_7, .no]) st_6 b.po rfl (gi_rng2 rfl T.z_range (ga_cons (ge_bin add_ok (GE.w (ge_var (i := 5) (pv 5))) (GE.w ge_int)) (ga_cons (ge_var (i := 3) (pv 3)) ga_nil))) (Le.e (Le.e (Le.n (Le.e (Le.e (Le.e (Le.n Le.nil))))))) (fun d_9 st_8 => ?_) (fun st_8 => ?_)
      · refine gb_name (i := 6) b.nd ?_
        refine gss_if (sb := fun (st_10 : List PyData) => [.fz law_script_1, .fz law_at_2, .no, .fz law_many_4, .ow (.list st_10), .fz d_7, .fz d_9]) (gt_cmp (gt_ok) (GE.w (ge_call c_law_drawn b.hr (by decide) b.hx (ga_cons (ge_var (i := 0) (pv 0)) (ga_cons (ge_bin add_ok (GE.w (ge_bin add_ok (GE.w (ge_bin add_ok (GE.w (ge_var (i := 1) (pv 1))) (GE.w ge_int))) (GE.w (ge_bin mul_ok (GE.w ge_int) (GE.w (ge_var (i := 5) (pv 5))))))) (GE.w (ge_var (i := 6) (pv 6)))) (ga_cons ge_int ga_nil))))) (GE.w ge_int)) ?_ ?_ (fun st_10 => ?_)
        · refine gss_append (i := 4) (pv 4) (ge_tup (ga_cons (ge_var (i := 5) (pv 5)) (ga_cons (ge_var (i := 6) (pv 6)) (ga_cons (ge_idx (GE.w (GO.ge (go_lst (ga_cons ge_int (ga_cons ge_int (ga_cons ge_int ga_nil)))))) (GE.w (ge_call c_law_drawn b.hr (by decide) b.hx (ga_cons (ge_var (i := 0) (pv 0)) (ga_cons (ge_bin add_ok (GE.w (ge_bin add_ok (GE.w (ge_bin add_ok (GE.w (ge_var (i := 1) (pv 1))) (GE.w ge_int))) (GE.w (ge_bin mul_ok (GE.w ge_int) (GE.w (ge_var (i := 5) (pv 5))))))) (GE.w (ge_var (i := 6) (pv 6)))) (ga_cons ge_int ga_nil)))))) ga_nil)))) (fun law_ways_12 => ?_)
          exact gss_nil law_ways_12 (Le.e (Le.e (Le.n (Le.e (Le.e (Le.e (Le.e Le.nil)))))))
        · exact gss_nil st_8 (Le.e (Le.e (Le.n (Le.e (Le.e (Le.e (Le.e Le.nil)))))))
        exact gss_nil st_10 (Le.e (Le.e (Le.n (Le.e (Le.e (Le.e (Le.n Le.nil)))))))
      exact gss_nil st_8 (Le.e (Le.e (Le.n (Le.e (Le.e (Le.n (Le.n Le.nil)))))))
    exact gss_ret (ge_tup (ga_cons (ge_var (i := 3) (pv 3)) (ga_cons (ge_callT tup_ok rfl T.z_tuple bt_tuple (gaw_cons (gw_var (i := 4) (pv 4)) gaw_nil)) ga_nil)))
abbrev s_law_telling : Stmt := topS 22
abbrev N_law_telling : List Str := ["_law_script", "_law_at", "_law_many", "_law_persons", "_law_last", "_law_words", "_law_word", "_law_who", "_law_first", "_law_end", "_law_what"]
theorem sc_law_telling : FnScope N_law_telling ["_law_script", "_law_at", "_law_many", "_law_persons", "_law_last"] (defScope s_law_telling) := ⟨rfl, rfl, rfl, by decide +kernel, rfl, by decide +kernel, by decide +kernel⟩
set_option maxHeartbeats 4000000 in
theorem ok_law_telling {f : Addr} {fd : FuncData} (T : Tx K mg) (F : Fun K "_law_telling" "_law_telling" s_law_telling f fd) (c_law_drawn : Cal P w K mg base 2 "_law_drawn" F_law_drawn) :
    FnOk P w K mg base (L2.CX P w) 3 f fd ["_law_script", "_law_at", "_law_many", "_law_persons", "_law_last"] (spF ⟨P, w, K⟩ mg F_law_telling) := by
  refine def_ok (sh := fun (z : Empty) => nomatch z) F sc_law_telling g_law_telling (fun ds h => ?_) (fun cdv A outer s H E X hX hr ds hl => ?_)
  · match ds, h with
    | [], _ => rfl
    | [_], _ => rfl
    | [_, _], _ => rfl
    | [_, _, _], _ => rfl
    | [_, _, _, _], _ => rfl
    | [_, _, _, _, _], h => exact absurd rfl h
    | _ :: _ :: _ :: _ :: _ :: _ :: _, _ => rfl
  · subst hX
    have b := bd_of sc_law_telling hr
    match ds, hl with
    | [law_script_1, law_at_2, law_many_3, law_persons_4, law_last_5], _ =>
    show GSs _ E _ [.fz law_script_1, .fz law_at_2, .fz law_many_3, .fz law_persons_4, .fz law_last_5, .no, .no, .no, .no, .no, .no] _ (m_law_telling law_script_1 law_at_2 law_many_3 law_persons_4 law_last_5)
    refine gss_set (i := 5) b.nd (ge_slice (GE.w (GO.ge (go_lst (ga_cons ge_str (ga_cons ge_str (ga_cons ge_str (ga_cons ge_str (ga_cons ge_str (ga_cons ge_str ga_nil))))))))) gp_none (gp_some (GE.w (ge_bin add_ok (GE.w ge_int) (GE.w (ge_bin mul_ok (GE.w ge_int) (GE.w (ge_callT int_ok rfl T.z_int bt_int (gaw_cons (GE.w (ge_cmp (gt_ok) (GE.w (ge_var (i := 3) (pv 3))) (GE.w ge_int))) gaw_nil))))))))) (fun law_words_6 => ?_)
    refine gss_set (i := 6) b.nd (ge_idx (GE.w (ge_var (i := 5) (pv 5))) (GE.w (ge_call c_law_drawn b.hr (by decide) b.hx (ga_cons (ge_var (i := 0) (pv 0)) (ga_cons (ge_var (i := 1) (pv 1)) (ga_cons (ge_callB len_ok rfl T.z_len bt_len (gaw_cons (GE.w (ge_var (i := 5) (pv 5))) gaw_nil)) ga_nil)))))) (fun law_word_7 => ?_)
    refine gss_set (i := 7) b.nd (ge_call c_law_drawn b.hr (by decide) b.hx (ga_cons (ge_var (i := 0) (pv 0)) (ga_cons (ge_bin add_ok (GE.w (ge_var (i := 1) (pv 1))) (GE.w ge_int)) (ga_cons (ge_var (i := 3) (pv 3)) ga_nil)))) (fun law_who_8 => ?_)
    refine gss_set (i := 8) b.nd (ge_call c_law_drawn b.hr (by decide) b.hx (ga_cons (ge_var (i := 0) (pv 0)) (ga_cons (ge_bin add_ok (GE.w (ge_var (i := 1) (pv 1))) (GE.w ge_int)) (ga_cons (ge_bin add_ok (GE.w (ge_var (i := 4) (pv 4))) (GE.w ge_int)) ga_nil)))) (fun law_first_9 => ?_)
    refine gss_set (i := 9) b.nd (ge_bin add_ok (GE.w (ge_var (i := 8) (pv 8))) (GE.w (ge_call c_law_drawn b.hr (by decide) b.hx (ga_cons (ge_var (i := 0) (pv 0)) (ga_cons (ge_bin add_ok (GE.w (ge_var (i := 1) (pv 1))) (GE.w ge_int)) (ga_cons (ge_bin add_ok (GE.w (ge_bin sub_ok (GE.w (ge_var (i := 4) (pv 4))) (GE.w (ge_var (i := 8) (pv 8))))) (GE.w ge_int)) ga_nil)))))) (fun law_end_10 => ?_)
    refine gss_set (i := 10) b.nd (ge_call c_law_drawn b.hr (by decide) b.hx (ga_cons (ge_var (i := 0) (pv 0)) (ga_cons (ge_bin add_ok (GE.w (ge_var (i := 1) (pv 1))) (GE.w ge_int)) (ga_cons (ge_var (i := 2) (pv 2)) ga_nil)))) (fun law_what_11 => ?_)
    refine gss_if (sb := fun (st_12 : PyData) => [.fz law_script_1, .fz law_at_2, .fz law_many_3, .fz law_persons_4, .fz law_last_5, .fz law_words_6, .fz law_word_7, .fz law_who_8, .fz law_first_9, .fz law_end_10, .fz st_12]) (gt_cmp (in_ok b.u65) (GE.w (ge_var (i := 6) (pv 6))) (GE.w (ge_tup (ga_cons ge_str (ga_cons ge_str ga_nil))))) ?_ ?_ (fun st_12 => ?_)
    · refine gss_set (i := 10) b.nd (ge_bin mod_ok (GE.w (ge_bin add_ok (GE.w (ge_bin add_ok (GE.w (ge_var (i := 7) (pv 7))) (GE.w ge_int))) (GE.w (ge_call c_law_drawn b.hr (by decide) b.hx (ga_cons (ge_var (i := 0) (pv 0)) (ga_cons (ge_bin add_ok (GE.w (ge_var (i := 1) (pv 1))) (GE.w ge_int)) (ga_cons (ge_bin sub_ok (GE.w (ge_var (i := 3) (pv 3))) (GE.w ge_int)) ga_nil))))))) (GE.w (ge_var (i := 3) (pv 3)))) (fun law_what_13 => ?_)
      exact gss_nil law_what_13 (Le.e (Le.e (Le.e (Le.e (Le.e (Le.e (Le.e (Le.e (Le.e (Le.e (Le.e Le.nil)))))))))))
    · exact gss_nil law_what_11 (Le.e (Le.e (Le.e (Le.e (Le.e (Le.e (Le.e (Le.e (Le.e (Le.e (Le.e Le.nil)))))))))))
    exact gss_ret (ge_tup (ga_cons (ge_var (i := 6) (pv 6)) (ga_cons (ge_var (i := 7) (pv 7)) (ga_cons (ge_var (i := 10) (pv 10)) (ga_cons (ge_var (i := 8) (pv 8)) (ga_cons (ge_var (i := 9) (pv 9)) ga_nil))))))
abbrev s_law_case : Stmt := topS 23
abbrev N_law_case : List Str := ["_law_script", "_law_at", "_law_most", "_law_town_here", "_law_persons", "_law_last", "_law_tellings", "_law_k"]
theorem sc_law_case : FnScope N_law_case ["_law_script", "_law_at", "_law_most"] (defScope s_law_case) := ⟨rfl, rfl, rfl, by decide +kernel, rfl, by decide +kernel, by decide +kernel⟩
set_option maxHeartbeats 4000000 in
theorem ok_law_case {f : Addr} {fd : FuncData} (T : Tx K mg) (F : Fun K "_law_case" "_law_case" s_law_case f fd) (c_law_drawn : Cal P w K mg base 2 "_law_drawn" F_law_drawn) (c_law_telling : Cal P w K mg base 3 "_law_telling" F_law_telling) (c_law_town : Cal P w K mg base 3 "_law_town" F_law_town) :
    FnOk P w K mg base (L2.CX P w) 4 f fd ["_law_script", "_law_at", "_law_most"] (spF ⟨P, w, K⟩ mg F_law_case) := by
  refine def_ok (sh := fun (z : Empty) => nomatch z) F sc_law_case g_law_case (fun ds h => ?_) (fun cdv A outer s H E X hX hr ds hl => ?_)
  · match ds, h with
    | [], _ => rfl
    | [_], _ => rfl
    | [_, _], _ => rfl
    | [_, _, _], h => exact absurd rfl h
    | _ :: _ :: _ :: _ :: _, _ => rfl
  · subst hX
    have b := bd_of sc_law_case hr
    match ds, hl with
    | [law_script_1, law_at_2, law_most_3], _ =>
    show GSs _ E _ [.fz law_script_1, .fz law_at_2, .fz law_most_3, .no, .no, .no, .no, .no] _ (m_law_case law_script_1 law_at_2 law_most_3)
    refine gss_set (i := 3) b.nd (ge_call c_law_town b.hr (by decide) b.hx (ga_cons (ge_var (i := 0) (pv 0)) (ga_cons (ge_var (i := 1) (pv 1)) (ga_cons ge_int ga_nil)))) (fun law_town_here_4 => ?_)
    refine gss_set (i := 4) b.nd (ge_bin add_ok (GE.w ge_int) (GE.w (ge_call c_law_drawn b.hr (by decide) b.hx (ga_cons (ge_var (i := 0) (pv 0)) (ga_cons (ge_bin add_ok (GE.w (ge_var (i := 1) (pv 1))) (GE.w ge_int)) (ga_cons ge_int ga_nil)))))) (fun law_persons_5 => ?_)
    refine gss_set (i := 5) b.nd (ge_call c_law_drawn b.hr (by decide) b.hx (ga_cons (ge_var (i := 0) (pv 0)) (ga_cons (ge_bin add_ok (GE.w (ge_var (i := 1) (pv 1))) (GE.w ge_int)) (ga_cons (ge_bin sub_ok (GE.w ge_int) (GE.w (ge_var (i := 4) (pv 4)))) ga_nil)))) (fun law_last_6 => ?_)
    refine gss_own (i := 6) b.nd (go_lst ga_nil) (fun law_tellings_7 => ?_)
    refine gss_for (sb := fun (st_8 : List PyData) => [.fz law_script_1, .fz law_at_2, .no, .fz law_town_here_4, .fz law_persons_5, .fz law_last_6, .ow (.list st_8), .no]) law_tellings_7 b.po rfl (gi_rng1 rfl T.z_range (ga_cons (ge_call c_law_drawn b.hr (by decide) b.hx (ga_cons (ge_var (i := 0) (pv 0)) (ga_cons (ge_bin add_ok (GE.w (ge_var (i := 1) (pv 1))) (GE.w ge_int)) (ga_cons (ge_bin add_ok (GE.w (ge_var (i := 2) (pv 2))) (GE.w ge_int)) ga_nil)))) ga_nil)) (Le.e (Le.e (Le.n (Le.e (Le.e (Le.e (Le.e (Le.n Le.nil)))))))) (fun d_9 st_8 => ?_) (fun st_8 => ?_)
    · refine gb_name (i := 7) b.nd ?_
      refine gss_append (i := 6) (pv 6) (ge_call c_law_telling b.hr (by decide) b.hx (ga_cons (ge_var (i := 0) (pv 0)) (ga_cons (ge_bin add_ok (GE.w (ge_bin add_ok (GE.w (ge_var (i := 1) (pv 1))) (GE.w ge_int))) (GE.w (ge_bin mul_ok (GE.w ge_int) (GE.w (ge_var (i := 7) (pv 7)))))) (ga_cons (ge_idx (GE.w (ge_var (i := 3) (pv 3))) (GE.w ge_int)) (ga_cons (ge_var (i := 4) (pv 4)) (ga_cons (ge_var (i := 5) (pv 5)) ga_nil)))))) (fun law_tellings_11 => ?_)
      exact gss_nil law_tellings_11 (Le.e (Le.e (Le.n (Le.e (Le.e (Le.e (Le.e (Le.n Le.nil))))))))
    exact gss_ret (ge_tup (ga_cons (ge_var (i := 3) (pv 3)) (ga_cons (ge_var (i := 4) (pv 4)) (ga_cons (ge_var (i := 5) (pv 5)) (ga_cons (ge_callT tup_ok rfl T.z_tuple bt_tuple (gaw_cons (gw_var (i := 6) (pv 6)) gaw_nil)) ga_nil)))))
abbrev s_law_number : Stmt := topS 24
abbrev N_law_number : List Str := ["_law_thing", "_law_low", "_law_high"]
theorem sc_law_number : FnScope N_law_number ["_law_thing", "_law_low", "_law_high"] (defScope s_law_number) := ⟨rfl, rfl, rfl, by decide +kernel, rfl, by decide +kernel, by decide +kernel⟩
set_option maxHeartbeats 4000000 in
theorem ok_law_number {f : Addr} {fd : FuncData} (T : Tx K mg) (F : Fun K "_law_number" "_law_number" s_law_number f fd)  :
    FnOk P w K mg base (L2.CX P w) 1 f fd ["_law_thing", "_law_low", "_law_high"] (spF ⟨P, w, K⟩ mg F_law_number) := by
  refine def_ok (sh := fun (z : Empty) => nomatch z) F sc_law_number g_law_number (fun ds h => ?_) (fun cdv A outer s H E X hX hr ds hl => ?_)
  · match ds, h with
    | [], _ => rfl
    | [_], _ => rfl
    | [_, _], _ => rfl
    | [_, _, _], h => exact absurd rfl h
    | _ :: _ :: _ :: _ :: _, _ => rfl
  · subst hX
    have b := bd_of sc_law_number hr
    match ds, hl with
    | [law_thing_1, law_low_2, law_high_3], _ =>
    show GSs _ E _ [.fz law_thing_1, .fz law_low_2, .fz law_high_3] _ (m_law_number law_thing_1 law_low_2 law_high_3)
    exact gss_ret (ge_and (ge_isi (T := "int") (GE.w (ge_var (i := 0) (pv 0))) T.z_isinstance T.z_int) (ge_and (ge_not (ge_isi (T := "bool") (GE.w (ge_var (i := 0) (pv 0))) T.z_isinstance T.z_bool)) (ge_one (ge_chain (le_ok) (le_ok) (GE.w (ge_var (i := 1) (pv 1))) (GE.w (ge_var (i := 0) (pv 0))) (GE.w (ge_var (i := 2) (pv 2)))))))
abbrev s_law_is_town : Stmt := topS 25
abbrev N_law_is_town : List Str := ["_law_thing", "_law_pairs", "_law_way", "_law_one"]
theorem sc_law_is_town : FnScope N_law_is_town ["_law_thing"] (defScope s_law_is_town) := ⟨rfl, rfl, rfl, by decide +kernel, rfl, by decide +kernel, by decide +kernel⟩
set_option maxHeartbeats 4000000 in
theorem ok_law_is_town {f : Addr} {fd : FuncData} (T : Tx K mg) (F : Fun K "_law_is_town" "_law_is_town" s_law_is_town f fd) (c_law_number : Cal P w K mg base 1 "_law_number" F_law_number) :
    FnOk P w K mg base (L2.CX P w) 2 f fd ["_law_thing"] (spF ⟨P, w, K⟩ mg F_law_is_town) := by
  refine def_ok (sh := fun (z : Empty) => nomatch z) F sc_law_is_town g_law_is_town (fun ds h => ?_) (fun cdv A outer s H E X hX hr ds hl => ?_)
  · match ds, h with
    | [], _ => rfl
    | [_], h => exact absurd rfl h
    | _ :: _ :: _, _ => rfl
  · subst hX
    have b := bd_of sc_law_is_town hr
    match ds, hl with
    | [law_thing_1], _ =>
    show GSs _ E _ [.fz law_thing_1, .no, .no, .no] _ (m_law_is_town law_thing_1)
    refine gss_if1 (se := fun z => nomatch z) (gt_w (gtw_or (gt_not (gt_val (GE.w (ge_isi (T := "tuple") (GE.w (ge_var (i := 0) (pv 0))) T.z_isinstance T.z_tuple)))) (gtw_or (gt_cmp (ne_ok b.u64) (GE.w (ge_callB len_ok rfl T.z_len bt_len (gaw_cons (GE.w (ge_var (i := 0) (pv 0))) gaw_nil))) (GE.w ge_int)) (gtw_or1 (gt_not (gt_val (GE.w (ge_call c_law_number b.hr (by decide) b.hx (ga_cons (ge_idx (GE.w (ge_var (i := 0) (pv 0))) (GE.w ge_int)) (ga_cons ge_int (ga_cons ge_int ga_nil))))))))))) ?_ ?_
    · exact gss_ret ge_bl
    refine gss_if1 (se := fun z => nomatch z) (gt_not (gt_val (GE.w (ge_isi (T := "tuple") (GE.w (ge_idx (GE.w (ge_var (i := 0) (pv 0))) (GE.w ge_int))) T.z_isinstance T.z_tuple)))) ?_ ?_
    · exact gss_ret ge_bl
    refine gss_own (i := 1) b.nd (go_lst ga_nil) (fun law_pairs_2 => ?_)
    refine gss_for (sb := fun (st_3 : List PyData) => [.fz law_thing_1, .ow (.list st_3), .no, .no]) law_pairs_2 b.po rfl (gi_seq (ge_idx (GE.w (ge_var (i := 0) (pv 0))) (GE.w ge_int))) (Le.e (Le.e (Le.n (Le.n Le.nil)))) (fun d_4 st_3 => ?_) (fun st_3 => ?_)
    · refine gb_name (i := 2) b.nd ?_
      refine gss_if1 (se := fun z => nomatch z) (gt_w (gtw_or (gt_not (gt_val (GE.w (ge_isi (T := "tuple") (GE.w (ge_var (i := 2) (pv 2))) T.z_isinstance T.z_tuple)))) (gtw_or (gt_cmp (ne_ok b.u64) (GE.w (ge_callB len_ok rfl T.z_len bt_len (gaw_cons (GE.w (ge_var (i := 2) (pv 2))) gaw_nil))) (GE.w ge_int)) (gtw_or1 (gt_cmp (ne_ok b.u64) (GE.w (GO.ge (go_comp (own := [("_law_one", 3)]) rfl b.nd (blkOk_by (N := N_law_is_town) (sc := defScope s_law_is_town) (by decide +kernel)) (gi_seq (ge_var (i := 2) (pv 2))) (fun d_5 => gc_name (i := 3) (fun _ _ _ _ _ => pg_name (i := 3) b.nd rfl (Or.inl rfl)) (by decide) (fun _ _ _ _ _ => (gts_one (gt_not (gt_val (GE.w (ge_call c_law_number b.hr (by decide) passL (ga_cons (ge_var (i := 3) (pv 3)) (ga_cons ge_int (ga_cons ge_int ga_nil))))))))) (fun _ _ _ _ _ => (ge_var (i := 3) (pv 3))))))) (GE.w (GO.ge (go_lst ga_nil)))))))) ?_ ?_
      · exact gss_ret ge_bl
      refine gss_if1 (se := fun z => nomatch z) (gt_w (gtw_or (gt_not (gt_chain (lt_ok b.u0) (lt_ok b.u0) (GE.w (ge_idx (GE.w (ge_var (i := 2) (pv 2))) (GE.w ge_int))) (GE.w (ge_idx (GE.w (ge_var (i := 2) (pv 2))) (GE.w ge_int))) (GE.w (ge_idx (GE.w (ge_var (i := 0) (pv 0))) (GE.w ge_int))))) (gtw_or1 (gt_not (gt_chain (le_ok) (le_ok) (GE.w ge_int) (GE.w (ge_idx (GE.w (ge_var (i := 2) (pv 2))) (GE.w ge_int))) (GE.w ge_int)))))) ?_ ?_
      · exact gss_ret ge_bl
      refine gss_append (i := 1) (pv 1) (ge_slice (GE.w (ge_var (i := 2) (pv 2))) gp_none (gp_some (GE.w ge_int))) (fun law_pairs_8 => ?_)
      exact gss_nil law_pairs_8 (Le.e (Le.e (Le.n (Le.n Le.nil))))
    exact gss_ret (ge_cmp (eq_ok b.u64) (gw_var (i := 1) (pv 1)) (GE.w (GO.ge (go_sortset rfl b.u65 rfl T.z_sorted rfl T.z_set (gw_var (i := 1) (pv 1))))))
abbrev s_law_is_telling : Stmt := topS 26
abbrev N_law_is_telling : List Str := ["_law_case_here", "_law_thing", "_law_one"]
theorem sc_law_is_telling : FnScope N_law_is_telling ["_law_case_here", "_law_thing"] (defScope s_law_is_telling) := ⟨rfl, rfl, rfl, by decide +kernel, rfl, by decide +kernel, by decide +kernel⟩
set_option maxHeartbeats 4000000 in
theorem ok_law_is_telling {f : Addr} {fd : FuncData} (T : Tx K mg) (F : Fun K "_law_is_telling" "_law_is_telling" s_law_is_telling f fd) (c_law_number : Cal P w K mg base 1 "_law_number" F_law_number) :
    FnOk P w K mg base (L2.CX P w) 2 f fd ["_law_case_here", "_law_thing"] (spF ⟨P, w, K⟩ mg F_law_is_telling) := by
  refine def_ok (sh := fun (z : Empty) => nomatch z) F sc_law_is_telling g_law_is_telling (fun ds h => ?_) (fun cdv A outer s H E X hX hr ds hl => ?_)
  · match ds, h with
    | [], _ => rfl
    | [_], _ => rfl
    | [_, _], h => exact absurd rfl h
    | _ :: _ :: _ :: _, _ => rfl
  · subst hX
    have b := bd_of sc_law_is_telling hr
    match ds, hl with
    | [law_case_here_1, law_thing_2], _ =>
    show GSs _ E _ [.fz law_case_here_1, .fz law_thing_2, .no] _ (m_law_is_telling law_case_here_1 law_thing_2)
    refine gss_if1 (se := fun z => nomatch z) (gt_w (gtw_or (gt_not (gt_val (GE.w (ge_isi (T := "tuple") (GE.w (ge_var (i := 1) (pv 1))) T.z_isinstance T.z_tuple)))) (gtw_or (gt_cmp (ne_ok b.u64) (GE.w (ge_callB len_ok rfl T.z_len bt_len (gaw_cons (GE.w (ge_var (i := 1) (pv 1))) gaw_nil))) (GE.w ge_int)) (gtw_or1 (gt_cmp (notIn_ok b.u65) (GE.w (ge_idx (GE.w (ge_var (i := 1) (pv 1))) (GE.w ge_int))) (GE.w (ge_tup (ga_cons ge_str (ga_cons ge_str (ga_cons ge_str (ga_cons ge_str (ga_cons ge_str ga_nil)))))))))))) ?_ ?_
    · exact gss_ret ge_bl
    refine gss_if1 (se := fun z => nomatch z) (gt_w (gtw_or (gt_cmp (ne_ok b.u64) (GE.w (GO.ge (go_comp (own := [("_law_one", 2)]) rfl b.nd (blkOk_by (N := N_law_is_telling) (sc := defScope s_law_is_telling) (by decide +kernel)) (gi_seq (ge_slice (GE.w (ge_var (i := 1) (pv 1))) (gp_some (GE.w ge_int)) gp_none)) (fun d_3 => gc_name (i := 2) (fun _ _ _ _ _ => pg_name (i := 2) b.nd rfl (Or.inl rfl)) (by decide) (fun _ _ _ _ _ => (gts_one (gt_not (gt_val (GE.w (ge_call c_law_number b.hr (by decide) passL (ga_cons (ge_var (i := 2) (pv 2)) (ga_cons ge_int (ga_cons ge_int ga_nil))))))))) (fun _ _ _ _ _ => (ge_var (i := 2) (pv 2))))))) (GE.w (GO.ge (go_lst ga_nil)))) (gtw_or1 (gt_cmp (ge_ok) (GE.w (ge_idx (GE.w (ge_var (i := 1) (pv 1))) (GE.w ge_int))) (GE.w (ge_idx (GE.w (ge_var (i := 0) (pv 0))) (GE.w ge_int))))))) ?_ ?_
    · exact gss_ret ge_bl
    refine gss_if1 (se := fun z => nomatch z) (gt_not (gt_chain (le_ok) (le_ok) (GE.w (ge_idx (GE.w (ge_var (i := 1) (pv 1))) (GE.w ge_int))) (GE.w (ge_idx (GE.w (ge_var (i := 1) (pv 1))) (GE.w ge_int))) (GE.w (ge_idx (GE.w (ge_var (i := 0) (pv 0))) (GE.w ge_int))))) ?_ ?_
    · exact gss_ret ge_bl
    refine gss_if1 (se := fun z => nomatch z) (gt_cmp (in_ok b.u65) (GE.w (ge_idx (GE.w (ge_var (i := 1) (pv 1))) (GE.w ge_int))) (GE.w (ge_tup (ga_cons ge_str (ga_cons ge_str ga_nil))))) ?_ ?_
    · exact gss_ret (ge_and (ge_cmp (lt_ok b.u0) (GE.w (ge_idx (GE.w (ge_var (i := 1) (pv 1))) (GE.w ge_int))) (GE.w (ge_idx (GE.w (ge_var (i := 0) (pv 0))) (GE.w ge_int)))) (ge_one (ge_cmp (ne_ok b.u64) (GE.w (ge_idx (GE.w (ge_var (i := 1) (pv 1))) (GE.w ge_int))) (GE.w (ge_idx (GE.w (ge_var (i := 1) (pv 1))) (GE.w ge_int))))))
    exact gss_ret (ge_cmp (lt_ok b.u0) (GE.w (ge_idx (GE.w (ge_var (i := 1) (pv 1))) (GE.w ge_int))) (GE.w (ge_idx (GE.w (ge_idx (GE.w (ge_var (i := 0) (pv 0))) (GE.w ge_int))) (GE.w ge_int))))
abbrev s_law_is_case : Stmt := topS 27
abbrev N_law_is_case : List Str := ["_law_thing", "_law_one"]
theorem sc_law_is_case : FnScope N_law_is_case ["_law_thing"] (defScope s_law_is_case) := ⟨rfl, rfl, rfl, by decide +kernel, rfl, by decide +kernel, by decide +kernel⟩
set_option maxHeartbeats 4000000 in
theorem ok_law_is_case {f : Addr} {fd : FuncData} (T : Tx K mg) (F : Fun K "_law_is_case" "_law_is_case" s_law_is_case f fd) (c_law_is_telling : Cal P w K mg base 2 "_law_is_telling" F_law_is_telling) (c_law_is_town : Cal P w K mg base 2 "_law_is_town" F_law_is_town) (c_law_number : Cal P w K mg base 1 "_law_number" F_law_number) :
    FnOk P w K mg base (L2.CX P w) 3 f fd ["_law_thing"] (spF ⟨P, w, K⟩ mg F_law_is_case) := by
  refine def_ok (sh := fun (z : Empty) => nomatch z) F sc_law_is_case g_law_is_case (fun ds h => ?_) (fun cdv A outer s H E X hX hr ds hl => ?_)
  · match ds, h with
    | [], _ => rfl
    | [_], h => exact absurd rfl h
    | _ :: _ :: _, _ => rfl
  · subst hX
    have b := bd_of sc_law_is_case hr
    match ds, hl with
    | [law_thing_1], _ =>
    show GSs _ E _ [.fz law_thing_1, .no] _ (m_law_is_case law_thing_1)
    refine gss_if1 (se := fun z => nomatch z) (gt_w (gtw_or (gt_not (gt_val (GE.w (ge_isi (T := "tuple") (GE.w (ge_var (i := 0) (pv 0))) T.z_isinstance T.z_tuple)))) (gtw_or (gt_cmp (ne_ok b.u64) (GE.w (ge_callB len_ok rfl T.z_len bt_len (gaw_cons (GE.w (ge_var (i := 0) (pv 0))) gaw_nil))) (GE.w ge_int)) (gtw_or1 (gt_not (gt_val (GE.w (ge_call c_law_is_town b.hr (by decide) b.hx (ga_cons (ge_idx (GE.w (ge_var (i := 0) (pv 0))) (GE.w ge_int)) ga_nil))))))))) ?_ ?_
    · exact gss_ret ge_bl
    refine gss_if1 (se := fun z => nomatch z) (gt_w (gtw_or (gt_not (gt_val (GE.w (ge_call c_law_number b.hr (by decide) b.hx (ga_cons (ge_idx (GE.w (ge_var (i := 0) (pv 0))) (GE.w ge_int)) (ga_cons ge_int (ga_cons ge_int ga_nil))))))) (gtw_or1 (gt_not (gt_val (GE.w (ge_call c_law_number b.hr (by decide) b.hx (ga_cons (ge_idx (GE.w (ge_var (i := 0) (pv 0))) (GE.w ge_int)) (ga_cons ge_int (ga_cons ge_int ga_nil)))))))))) ?_ ?_
    · exact gss_ret ge_bl
    refine gss_if1 (se := fun z => nomatch z) (gt_w (gtw_or (gt_not (gt_val (GE.w (ge_isi (T := "tuple") (GE.w (ge_idx (GE.w (ge_var (i := 0) (pv 0))) (GE.w ge_int))) T.z_isinstance T.z_tuple)))) (gtw_or1 (gt_cmp (gt_ok) (GE.w (ge_callB len_ok rfl T.z_len bt_len (gaw_cons (GE.w (ge_idx (GE.w (ge_var (i := 0) (pv 0))) (GE.w ge_int))) gaw_nil))) (GE.w ge_int))))) ?_ ?_
    · exact gss_ret ge_bl
    exact gss_ret (ge_cmp (eq_ok b.u64) (GE.w (GO.ge (go_comp (own := [("_law_one", 1)]) rfl b.nd (blkOk_by (N := N_law_is_case) (sc := defScope s_law_is_case) (by decide +kernel)) (gi_seq (ge_idx (GE.w (ge_var (i := 0) (pv 0))) (GE.w ge_int))) (fun d_2 => gc_name (i := 1) (fun _ _ _ _ _ => pg_name (i := 1) b.nd rfl (Or.inl rfl)) (by decide) (fun _ _ _ _ _ => (gts_one (gt_not (gt_val (GE.w (ge_call c_law_is_telling b.hr (by decide) passL (ga_cons (ge_var (i := 0) (pv 0)) (ga_cons (ge_var (i := 1) (pv 1)) ga_nil)))))))) (fun _ _ _ _ _ => (ge_var (i := 1) (pv 1))))))) (GE.w (GO.ge (go_lst ga_nil))))
abbrev s_law_spoilt : Stmt := topS 28
abbrev N_law_spoilt : List Str := ["_law_script", "_law_at", "_law_thing", "_law_deep", "_law_place", "_law_part", "_law_some"]
theorem sc_law_spoilt : FnScope N_law_spoilt ["_law_script", "_law_at", "_law_thing", "_law_deep"] (defScope s_law_spoilt) := ⟨rfl, rfl, rfl, by decide +kernel, rfl, by decide +kernel, by decide +kernel⟩
set_option maxHeartbeats 4000000 in
theorem st_law_spoilt {f : Addr} {fd : FuncData} (T : Tx K mg) (F : Fun K "_law_spoilt" "_law_spoilt" s_law_spoilt f fd) (c_law_drawn : Cal P w K mg base 2 "_law_drawn" F_law_drawn) (k : Nat) (hk : 2 ≤ k) (R : List PyData → Res PyData) (c_law_spoilt : Cal P w K mg base k "_law_spoilt" R) :
    FnOk P w K mg base (L2.CX P w) (k + 1) f fd ["_law_script", "_law_at", "_law_thing", "_law_deep"] (spF ⟨P, w, K⟩ mg (fun ds => finR (g_law_spoilt R ds))) := by
  refine def_ok (sh := fun (z : Empty) => nomatch z) F sc_law_spoilt (g_law_spoilt R) (fun ds h => ?_) (fun cdv A outer s H E X hX hr ds hl => ?_)
  · match ds, h with
    | [], _ => rfl
    | [_], _ => rfl
    | [_, _], _ => rfl
    | [_, _, _], _ => rfl
    | [_, _, _, _], h => exact absurd rfl h
    | _ :: _ :: _ :: _ :: _ :: _, _ => rfl
  · subst hX
    have b := bd_of sc_law_spoilt hr
    match ds, hl with
    | [law_script_1, law_at_2, law_thing_3, law_deep_4], _ =>
    show GSs _ E _ [.fz law_script_1, .fz law_at_2, .fz law_thing_3, .fz law_deep_4, .no, .no, .no] _ (m_law_spoilt R law_script_1 law_at_2 law_thing_3 law_deep_4)
    refine gss_if1 (se := fun z => nomatch z) (gt_w (gtw_and (gt_cmp (gt_ok) (GE.w (ge_var (i := 3) (pv 3))) (GE.w ge_int)) (gtw_and (gt_val (GE.w (ge_isi (T := "tuple") (GE.w (ge_var (i := 2) (pv 2))) T.z_isinstance T.z_tuple))) (gtw_and (gt_cmp (ne_ok b.u64) (GE.w (ge_var (i := 2) (pv 2))) (GE.w (ge_tup ga_nil))) (gtw_and1 (gt_cmp (gt_ok) (GE.w (ge_call c_law_drawn b.hr (by omega) b.hx (ga_cons (ge_var (i := 0) (pv 0)) (ga_cons (ge_var (i := 1) (pv 1)) (ga_cons ge_int ga_nil))))) (GE.w ge_int))))))) ?_ ?_
    · refine gss_set (i := 4) b.nd (ge_call c_law_drawn b.hr (by omega) b.hx (ga_cons (ge_var (i := 0) (pv 0)) (ga_cons (ge_bin add_ok (GE.w (ge_var (i := 1) (pv 1))) (GE.w ge_int)) (ga_cons (ge_callB len_ok rfl T.z_len bt_len (gaw_cons (GE.w (ge_var (i := 2) (pv 2))) gaw_nil)) ga_nil)))) (fun law_place_5 => ?_)
      refine gss_set (i := 5) b.nd (ge_call c_law_spoilt b.hr (by omega) b.hx (ga_cons (ge_var (i := 0) (pv 0)) (ga_cons (ge_bin add_ok (GE.w (ge_var (i := 1) (pv 1))) (GE.w ge_int)) (ga_cons (ge_idx (GE.w (ge_var (i := 2) (pv 2))) (GE.w (ge_var (i := 4) (pv 4)))) (ga_cons (ge_bin sub_ok (GE.w (ge_var (i := 3) (pv 3))) (GE.w ge_int)) ga_nil))))) (fun law_part_6 => ?_)
      exact gss_ret (ge_bin add_ok (GE.w (ge_bin add_ok (GE.w (ge_slice (GE.w (ge_var (i := 2) (pv 2))) gp_none (gp_some (GE.w (ge_var (i := 4) (pv 4)))))) (GE.w (ge_tup (ga_cons (ge_var (i := 5) (pv 5)) ga_nil))))) (GE.w (ge_slice (GE.w (ge_var (i := 2) (pv 2))) (gp_some (GE.w (ge_bin add_ok (GE.w (ge_var (i := 4) (pv 4))) (GE.w ge_int)))) gp_none)))
    refine gss_own (i := 6) b.nd (go_lst (ga_cons ge_non (ga_cons ge_bl (ga_cons ge_bl (ga_cons (ge_un neg_ok (GE.w ge_int)) (ga_cons ge_int (ga_cons ge_int (ga_cons ge_int (ga_cons ge_int (ga_cons ge_int (ga_cons ge_int (ga_cons ge_int (ga_cons ge_int (ga_cons ge_int (ga_cons ge_str (ga_cons ge_str (ga_cons ge_str (ga_cons ge_str (ga_cons ge_str (ga_cons (ge_tup ga_nil) (ga_cons (GO.ge (go_lst ga_nil)) (ga_cons (ge_tup (ga_cons ge_int (ga_cons ge_int (ga_cons ge_int ga_nil)))) ga_nil)))))))))))))))))))))) (fun law_some_7 => ?_)
    refine gss_if (sb := fun (st_8 : PyData) => [.fz law_script_1, .fz law_at_2, .fz law_thing_3, .fz law_deep_4, .no, .no, .fz st_8]) (gt_val (GE.w (ge_isi (T := "tuple") (GE.w (ge_var (i := 2) (pv 2))) T.z_isinstance T.z_tuple))) ?_ ?_ (fun st_8 => ?_)
    · refine gss_set (i := 6) b.nd (ge_bin add_ok (gw_var (i := 6) (pv 6)) (GE.w (GO.ge (go_lst (ga_cons (GO.ge (go_callT list_ok rfl T.z_list bt_list (gaw_cons (GE.w (ge_var (i := 2) (pv 2))) gaw_nil))) (ga_cons (ge_revB (GE.w (ge_var (i := 2) (pv 2)))) (ga_cons (ge_bin add_ok (GE.w (ge_var (i := 2) (pv 2))) (GE.w (ge_var (i := 2) (pv 2)))) (ga_cons (ge_slice (GE.w (ge_var (i := 2) (pv 2))) (gp_some (GE.w ge_int)) gp_none) (ga_cons (ge_bin add_ok (GE.w (ge_var (i := 2) (pv 2))) (GE.w (ge_slice (GE.w (ge_var (i := 2) (pv 2))) (gp_some (GE.w (ge_un neg_ok (GE.w ge_int)))) gp_none))) ga_nil))))))))) (fun law_some_10 => ?_)
      exact gss_nil law_some_10 (Le.e (Le.e (Le.e (Le.e (Le.n (Le.n (Le.e Le.nil)))))))
    · exact gss_nil (PyData.list law_some_7) (Le.e (Le.e (Le.e (Le.e (Le.n (Le.n (Le.f Le.nil)))))))
    exact gss_ret (ge_idx (GE.w (ge_var (i := 6) (pv 6))) (GE.w (ge_call c_law_drawn b.hr (by omega) b.hx (ga_cons (ge_var (i := 0) (pv 0)) (ga_cons (ge_bin add_ok (GE.w (ge_var (i := 1) (pv 1))) (GE.w ge_int)) (ga_cons (ge_callB len_ok rfl T.z_len bt_len (gaw_cons (GE.w (ge_var (i := 6) (pv 6))) gaw_nil)) ga_nil))))))
theorem ok_law_spoilt {f : Addr} {fd : FuncData} (T : Tx K mg) (F : Fun K "_law_spoilt" "_law_spoilt" s_law_spoilt f fd) (c_law_drawn : Cal P w K mg base 2 "_law_drawn" F_law_drawn) (hm : mg "_law_spoilt" = some (.ref f)) (hk : PySem.W.keepIn K (.ref f) = true) (hb : Binds K fd ["_law_script", "_law_at", "_law_thing", "_law_deep"] []) : ∀ j, FnOk P w K mg base (L2.CX P w) (3 + j) f fd ["_law_script", "_law_at", "_law_thing", "_law_deep"] (spF ⟨P, w, K⟩ mg (R_law_spoilt j))
  | 0 => def_ok (α := Empty) (sh := fun z => nomatch z) F sc_law_spoilt (fun _ => .stuck) (fun _ _ => rfl) (fun _ _ _ _ _ _ _ _ _ _ _ _ _ _ _ _ _ _ q => q.elim)
  | j + 1 => st_law_spoilt T F c_law_drawn (3 + j) (by omega) (R_law_spoilt j) ⟨f, fd, _, ok_law_spoilt T F c_law_drawn hm hk hb j, hm, hk, hb⟩
abbrev s_law_bounds : Stmt := topS 29
abbrev N_law_bounds : List Str := ["_law_ways", "_law_towns", "_law_case_here", "_law_some", "_law_word", "_law_what", "_law_both", "_law_way", "_law_town_here", "_law_one", "_law_who"]
theorem sc_law_bounds : FnScope N_law_bounds [] (defScope s_law_bounds) := ⟨rfl, rfl, rfl, by decide +kernel, rfl, by decide +kernel, by decide +kernel⟩
set_option maxHeartbeats 4000000 in
theorem ok_law_bounds {f : Addr} {fd : FuncData} (T : Tx K mg) (F : Fun K "_law_bounds" "_law_bounds" s_law_bounds f fd) (c_law_is_telling : Cal P w K mg base 2 "_law_is_telling" F_law_is_telling) (c_law_is_town : Cal P w K mg base 2 "_law_is_town" F_law_is_town) (c_is_telling : Cal P w K mg base 6 "is_telling" F_is_telling) (c_is_town : Cal P w K mg base 3 "is_town" F_is_town) :
    FnOk P w K mg base (L2.CX P w) 7 f fd [] (spF ⟨P, w, K⟩ mg F_law_bounds) := by
  refine def_ok (sh := fun (z : Empty) => nomatch z) F sc_law_bounds g_law_bounds (fun ds h => ?_) (fun cdv A outer s H E X hX hr ds hl => ?_)
  · match ds, h with
    | [], h => exact absurd rfl h
    | _ :: _, _ => rfl
  · subst hX
    have b := bd_of sc_law_bounds hr
    match ds, hl with
    | [], _ =>
    show GSs _ E _ [.no, .no, .no, .no, .no, .no, .no, .no, .no, .no, .no] _ (m_law_bounds )
    refine gss_own (i := 0) b.nd (go_lst (ga_cons (ge_tup (ga_cons ge_int (ga_cons ge_int (ga_cons ge_int ga_nil)))) (ga_cons (ge_tup (ga_cons ge_int (ga_cons ge_int (ga_cons ge_int ga_nil)))) (ga_cons (ge_tup (ga_cons ge_int (ga_cons ge_int (ga_cons ge_int ga_nil)))) (ga_cons (ge_tup (ga_cons ge_int (ga_cons ge_int (ga_cons ge_int ga_nil)))) (ga_cons (ge_tup (ga_cons ge_int (ga_cons ge_int (ga_cons ge_int ga_nil)))) (ga_cons (ge_tup (ga_cons ge_int (ga_cons ge_int (ga_cons ge_int ga_nil)))) (ga_cons (ge_tup (ga_cons ge_int (ga_cons ge_int (ga_cons ge_int ga_nil)))) (ga_cons (ge_tup (ga_cons ge_int (ga_cons ge_int (ga_cons ge_int ga_nil)))) (ga_cons (ge_tup (ga_cons (ge_un neg_ok (GE.w ge_int)) (ga_cons ge_int (ga_cons ge_int ga_nil)))) ga_nil)))))))))) (fun law_ways_1 => ?_)
    refine gss_le (ρ' := [.fz (PyData.list law_ways_1), .no, .no, .no, .no, .no, .no, .no, .no, .no, .no]) (Le.f (Le.n (Le.n (Le.n (Le.n (Le.n (Le.n (Le.n (Le.n (Le.n (Le.n Le.nil))))))))))) ?_
    refine gss_set (i := 1) b.nd (ge_bin add_ok (GE.w (GO.ge (go_comp (own := [("_law_way", 7)]) rfl b.nd (blkOk_by (N := N_law_bounds) (sc := defScope s_law_bounds) (by decide +kernel)) (gi_seq (ge_var (i := 0) (pv 0))) (fun d_4 => gc_name (i := 7) (fun _ _ _ _ _ => pg_name (i := 7) b.nd rfl (Or.inl rfl)) (by decide) (fun _ _ _ _ _ => gts_nil) (fun _ _ _ _ _ => (ge_tup (ga_cons ge_int (ga_cons (ge_tup (ga_cons (ge_var (i := 7) (pv 7)) ga_nil)) ga_nil)))))))) (GE.w (GO.ge (go_lst (ga_cons (ge_tup (ga_cons ge_int (ga_cons (ge_tup ga_nil) ga_nil))) (ga_cons (ge_tup (ga_cons ge_int (ga_cons (ge_tup ga_nil) ga_nil))) (ga_cons (ge_tup (ga_cons ge_int (ga_cons (ge_tup ga_nil) ga_nil))) (ga_cons (ge_tup (ga_cons ge_int (ga_cons (ge_tup (ga_cons (ge_tup (ga_cons ge_int (ga_cons ge_int (ga_cons ge_int ga_nil)))) (ga_cons (ge_tup (ga_cons ge_int (ga_cons ge_int (ga_cons ge_int ga_nil)))) ga_nil))) ga_nil))) (ga_cons (ge_tup (ga_cons ge_bl (ga_cons (ge_tup ga_nil) ga_nil))) ga_nil))))))))) (fun law_towns_3 => ?_)
    refine gss_if1 (se := fun z => nomatch z) (gt_cmp (ne_ok b.u64) (GE.w (GO.ge (go_comp (own := [("_law_town_here", 8)]) rfl b.nd (blkOk_by (N := N_law_bounds) (sc := defScope s_law_bounds) (by decide +kernel)) (gi_seq (ge_var (i := 1) (pv 1))) (fun d_6 => gc_name (i := 8) (fun _ _ _ _ _ => pg_name (i := 8) b.nd rfl (Or.inl rfl)) (by decide) (fun _ _ _ _ _ => (gts_one (gt_cmp (ne_ok b.u64) (GE.w (ge_call c_is_town b.hr (by decide) passL (ga_cons (ge_var (i := 8) (pv 8)) ga_nil))) (GE.w (ge_call c_law_is_town b.hr (by decide) passL (ga_cons (ge_var (i := 8) (pv 8)) ga_nil)))))) (fun _ _ _ _ _ => (ge_var (i := 8) (pv 8))))))) (GE.w (GO.ge (go_lst ga_nil)))) ?_ ?_
    · exact gss_ret ge_bl
    refine gss_set (i := 2) b.nd (ge_tup (ga_cons (ge_tup (ga_cons ge_int (ga_cons (ge_tup (ga_cons (ge_tup (ga_cons ge_int (ga_cons ge_int (ga_cons ge_int ga_nil)))) ga_nil)) ga_nil))) (ga_cons ge_int (ga_cons ge_int (ga_cons (ge_tup ga_nil) ga_nil))))) (fun law_case_here_8 => ?_)
    refine gss_ownLc (own := [("_law_both", 6)]) (i := 3) rfl b.nd (blkOk_by (N := N_law_bounds) (sc := defScope s_law_bounds) (by decide +kernel)) (gi_seq (ge_tup (ga_cons (ge_tup (ga_cons ge_int (ga_cons ge_int ga_nil))) (ga_cons (ge_tup (ga_cons ge_int (ga_cons ge_int ga_nil))) (ga_cons (ge_tup (ga_cons (ge_un neg_ok (GE.w ge_int)) (ga_cons ge_int ga_nil))) (ga_cons (ge_tup (ga_cons ge_int (ga_cons ge_int ga_nil))) (ga_cons (ge_tup (ga_cons ge_int (ga_cons ge_int ga_nil))) (ga_cons (ge_tup (ga_cons ge_bl (ga_cons ge_int ga_nil))) (ga_cons (ge_tup (ga_cons ge_int (ga_cons ge_non ga_nil))) ga_nil))))))))) (fun d_10 => gc_name (i := 6) (fun _ _ _ _ _ => pg_name (i := 6) b.nd rfl (Or.inl rfl)) (by decide) (fun _ _ _ _ _ => gts_nil) (fun _ _ _ _ _ => (ge_bin add_ok (GE.w (ge_tup (ga_cons ge_str (ga_cons ge_int (ga_cons ge_int ga_nil))))) (GE.w (ge_var (i := 6) (pv 6)))))) (fun law_some_9 => ?_) (sw_true rfl rfl rfl (by decide +kernel))
    refine gss_for (sb := fun (st_12 : PyData) => [.no, .no, .fz law_case_here_8, .fz st_12, .no, .no, .no, .no, .no, .no, .no]) (PyData.list law_some_9) b.po rfl (gi_seq (ge_tup (ga_cons ge_str (ga_cons ge_str (ga_cons ge_str ga_nil))))) (Le.n (Le.n (Le.e (Le.f (Le.n (Le.n (Le.n (Le.n (Le.n (Le.n (Le.n Le.nil))))))))))) (fun d_13 st_12 => ?_) (fun st_12 => ?_)
    · refine gb_name (i := 4) b.nd ?_
      refine gss_for (sb := fun (st_22 : PyData) => [.no, .no, .fz law_case_here_8, .fz st_22, .fz d_13, .no, .no, .no, .no, .no, .no]) st_12 b.po rfl (gi_seq (ge_tup (ga_cons (ge_un neg_ok (GE.w ge_int)) (ga_cons ge_int (ga_cons ge_int (ga_cons ge_int ga_nil)))))) (Le.n (Le.n (Le.e (Le.e (Le.e (Le.n (Le.n (Le.n (Le.n (Le.n (Le.n Le.nil))))))))))) (fun d_23 st_22 => ?_) (fun st_22 => ?_)
      · refine gb_name (i := 5) b.nd ?_
        refine gss_set (i := 3) b.nd (ge_bin add_ok (GE.w (ge_var (i := 3) (pv 3))) (GE.w (GO.ge (go_comp (own := [("_law_who", 10)]) rfl b.nd (blkOk_by (N := N_law_bounds) (sc := defScope s_law_bounds) (by decide +kernel)) (gi_seq (ge_tup (ga_cons (ge_un neg_ok (GE.w ge_int)) (ga_cons ge_int (ga_cons ge_int ga_nil))))) (fun d_25 => gc_name (i := 10) (fun _ _ _ _ _ => pg_name (i := 10) b.nd rfl (Or.inl rfl)) (by decide) (fun _ _ _ _ _ => gts_nil) (fun _ _ _ _ _ => (ge_tup (ga_cons (ge_var (i := 4) (pv 4)) (ga_cons (ge_var (i := 10) (pv 10)) (ga_cons (ge_var (i := 5) (pv 5)) (ga_cons ge_int (ga_cons ge_int ga_nil)))))))))))) (fun law_some_24 => ?_)
        exact gss_nil law_some_24 (Le.n (Le.n (Le.e (Le.e (Le.e (Le.n (Le.n (Le.n (Le.n (Le.n (Le.n Le.nil)))))))))))
      exact gss_nil st_22 (Le.n (Le.n (Le.e (Le.e (Le.n (Le.n (Le.n (Le.n (Le.n (Le.n (Le.n Le.nil)))))))))))
    exact gss_ret (ge_cmp (eq_ok b.u64) (GE.w (GO.ge (go_comp (own := [("_law_one", 9)]) rfl b.nd (blkOk_by (N := N_law_bounds) (sc := defScope s_law_bounds) (by decide +kernel)) (gi_seq (ge_var (i := 3) (pv 3))) (fun d_27 => gc_name (i := 9) (fun _ _ _ _ _ => pg_name (i := 9) b.nd rfl (Or.inl rfl)) (by decide) (fun _ _ _ _ _ => (gts_one (gt_cmp (ne_ok b.u64) (GE.w (ge_call c_is_telling b.hr (by decide) passL (ga_cons (ge_var (i := 2) (pv 2)) (ga_cons (ge_var (i := 9) (pv 9)) ga_nil)))) (GE.w (ge_call c_law_is_telling b.hr (by decide) passL (ga_cons (ge_var (i := 2) (pv 2)) (ga_cons (ge_var (i := 9) (pv 9)) ga_nil))))))) (fun _ _ _ _ _ => (ge_var (i := 9) (pv 9))))))) (GE.w (GO.ge (go_lst ga_nil))))
abbrev s_law : Stmt := topS 30
abbrev N_law : List Str := ["_law_script", "_law_case_here", "_law_k", "_law_spoilt_here", "_law_told", "_law_thing", "_law_telling_here", "_law_row"]
theorem sc_law : FnScope N_law ["_law_script"] (defScope s_law) := ⟨rfl, rfl, rfl, by decide +kernel, rfl, by decide +kernel, by decide +kernel⟩
set_option maxHeartbeats 4000000 in
theorem ok_law {f : Addr} {fd : FuncData} (T : Tx K mg) (F : Fun K "law" "law" s_law f fd) (c_law_bounds : Cal P w K mg base 7 "_law_bounds" F_law_bounds) (c_law_case : Cal P w K mg base 4 "_law_case" F_law_case) (c_law_drawn : Cal P w K mg base 2 "_law_drawn" F_law_drawn) (c_law_is_case : Cal P w K mg base 3 "_law_is_case" F_law_is_case) (c_law_is_telling : Cal P w K mg base 2 "_law_is_telling" F_law_is_telling) (c_law_is_town : Cal P w K mg base 2 "_law_is_town" F_law_is_town) (c_law_spoilt : Cal P w K mg base 9 "_law_spoilt" F_law_spoilt) (c_is_case : Cal P w K mg base 4 "is_case" F_is_case) (c_is_telling : Cal P w K mg base 6 "is_telling" F_is_telling) (c_is_town : Cal P w K mg base 3 "is_town" F_is_town) :
    FnOk P w K mg base (L2.CX P w) 10 f fd ["_law_script"] (spF ⟨P, w, K⟩ mg F_law) := by
  refine def_ok (sh := fun (z : Empty) => nomatch z) F sc_law g_law (fun ds h => ?_) (fun cdv A outer s H E X hX hr ds hl => ?_)
  · match ds, h with
    | [], _ => rfl
    | [_], h => exact absurd rfl h
    | _ :: _ :: _, _ => rfl
  · subst hX
    have b := bd_of sc_law hr
    match ds, hl with
    | [law_script_1], _ =>
    show GSs _ E _ [.fz law_script_1, .no, .no, .no, .no, .no, .no, .no] _ (m_law law_script_1)
    refine gss_set (i := 1) b.nd (ge_call c_law_case b.hr (by decide) b.hx (ga_cons (ge_var (i := 0) (pv 0)) (ga_cons ge_int (ga_cons ge_int ga_nil)))) (fun law_case_here_2 => ?_)
    refine gss_if (sb := fun (st_3 : PyData) => [.fz law_script_1, .fz st_3, .no, .no, .no, .no, .no, .no]) (gt_cmp (eq_ok b.u64) (GE.w (ge_call c_law_drawn b.hr (by decide) b.hx (ga_cons (ge_var (i := 0) (pv 0)) (ga_cons ge_int (ga_cons ge_int ga_nil))))) (GE.w ge_int)) ?_ ?_ (fun st_3 => ?_)
    · refine gss_set (i := 1) b.nd (ge_tup (ga_cons (ge_tup (ga_cons ge_int (ga_cons (ge_bin add_ok (GE.w (ge_idx (GE.w (ge_idx (GE.w (ge_var (i := 1) (pv 1))) (GE.w ge_int))) (GE.w ge_int))) (GE.w (ge_tup (ga_cons (ge_tup (ga_cons ge_int (ga_cons ge_int (ga_cons ge_int ga_nil)))) ga_nil)))) ga_nil))) (ga_cons ge_int (ga_cons ge_int (ga_cons (ge_bin add_ok (GE.w (ge_idx (GE.w (ge_var (i := 1) (pv 1))) (GE.w ge_int))) (GE.w (ge_tup (ga_cons (ge_tup (ga_cons ge_str (ga_cons ge_int (ga_cons ge_int (ga_cons ge_int (ga_cons ge_int ga_nil)))))) (ga_cons (ge_tup (ga_cons ge_str (ga_cons ge_int (ga_cons ge_int (ga_cons ge_int (ga_cons ge_int ga_nil)))))) ga_nil))))) ga_nil))))) (fun law_case_here_4 => ?_)
      exact gss_nil law_case_here_4 (Le.e (Le.e (Le.n (Le.n (Le.n (Le.n (Le.n (Le.n Le.nil))))))))
    · exact gss_nil law_case_here_2 (Le.e (Le.e (Le.n (Le.n (Le.n (Le.n (Le.n (Le.n Le.nil))))))))
    refine gss_if1 (se := fun z => nomatch z) (gt_w (gtw_or (gt_not (gt_val (GE.w (ge_call c_is_case b.hr (by decide) b.hx (ga_cons (ge_var (i := 1) (pv 1)) ga_nil))))) (gtw_or (gt_not (gt_val (GE.w (ge_call c_law_is_case b.hr (by decide) b.hx (ga_cons (ge_var (i := 1) (pv 1)) ga_nil))))) (gtw_or1 (gt_not (gt_val (GE.w (ge_call c_is_town b.hr (by decide) b.hx (ga_cons (ge_idx (GE.w (ge_var (i := 1) (pv 1))) (GE.w ge_int)) ga_nil))))))))) ?_ ?_
    · exact gss_ret ge_bl
    refine gss_for (sb := fun (st_5 : Unit) => [.fz law_script_1, .fz st_3, .no, .no, .no, .no, .no, .no]) () b.po rfl (gi_rng1 rfl T.z_range (ga_cons ge_int ga_nil)) (Le.e (Le.e (Le.n (Le.n (Le.n (Le.n (Le.n (Le.n Le.nil)))))))) (fun d_6 st_5 => ?_) (fun st_5 => ?_)
    · refine gb_name (i := 2) b.nd ?_
      refine gss_set (i := 3) b.nd (ge_call c_law_spoilt b.hr (by decide) b.hx (ga_cons (ge_var (i := 0) (pv 0)) (ga_cons (ge_bin add_ok (GE.w ge_int) (GE.w (ge_bin mul_ok (GE.w ge_int) (GE.w (ge_var (i := 2) (pv 2)))))) (ga_cons (ge_var (i := 1) (pv 1)) (ga_cons (ge_bin add_ok (GE.w ge_int) (GE.w (ge_bin mod_ok (GE.w (ge_var (i := 2) (pv 2))) (GE.w ge_int)))) ga_nil))))) (fun law_spoilt_here_7 => ?_)
      refine gss_set (i := 4) b.nd (ge_call c_is_case b.hr (by decide) b.hx (ga_cons (ge_var (i := 3) (pv 3)) ga_nil)) (fun law_told_8 => ?_)
      refine gss_if1 (se := fun z => nomatch z) (gt_w (gtw_or (gt_not (gt_val (GE.w (ge_isi (T := "bool") (GE.w (ge_var (i := 4) (pv 4))) T.z_isinstance T.z_bool)))) (gtw_or1 (gt_cmp (ne_ok b.u64) (GE.w (ge_var (i := 4) (pv 4))) (GE.w (ge_call c_law_is_case b.hr (by decide) b.hx (ga_cons (ge_var (i := 3) (pv 3)) ga_nil))))))) ?_ ?_
      · exact gss_ret ge_bl
      refine gss_set (i := 5) b.nd (ge_if (gt_w (gtw_and (gt_val (GE.w (ge_isi (T := "tuple") (GE.w (ge_var (i := 3) (pv 3))) T.z_isinstance T.z_tuple))) (gtw_and1 (gt_cmp (ne_ok b.u64) (GE.w (ge_var (i := 3) (pv 3))) (GE.w (ge_tup ga_nil)))))) (ge_idx (GE.w (ge_var (i := 3) (pv 3))) (GE.w ge_int)) (ge_var (i := 3) (pv 3))) (fun law_thing_9 => ?_)
      refine gss_set (i := 4) b.nd (ge_call c_is_town b.hr (by decide) b.hx (ga_cons (ge_var (i := 5) (pv 5)) ga_nil)) (fun law_told_10 => ?_)
      refine gss_if1 (se := fun z => nomatch z) (gt_w (gtw_or (gt_not (gt_val (GE.w (ge_isi (T := "bool") (GE.w (ge_var (i := 4) (pv 4))) T.z_isinstance T.z_bool)))) (gtw_or1 (gt_cmp (ne_ok b.u64) (GE.w (ge_var (i := 4) (pv 4))) (GE.w (ge_call c_law_is_town b.hr (by decide) b.hx (ga_cons (ge_var (i := 5) (pv 5)) ga_nil))))))) ?_ ?_
      · exact gss_ret ge_bl
      refine gss_set (i := 6) b.nd (ge_call c_law_spoilt b.hr (by decide) b.hx (ga_cons (ge_var (i := 0) (pv 0)) (ga_cons (ge_bin add_ok (GE.w ge_int) (GE.w (ge_bin mul_ok (GE.w ge_int) (GE.w (ge_var (i := 2) (pv 2)))))) (ga_cons (ge_tup (ga_cons ge_str (ga_cons ge_int (ga_cons ge_int (ga_cons ge_int (ga_cons (ge_idx (GE.w (ge_var (i := 1) (pv 1))) (GE.w ge_int)) ga_nil)))))) (ga_cons ge_int ga_nil))))) (fun law_telling_here_11 => ?_)
      refine gss_set (i := 4) b.nd (ge_call c_is_telling b.hr (by decide) b.hx (ga_cons (ge_var (i := 1) (pv 1)) (ga_cons (ge_var (i := 6) (pv 6)) ga_nil))) (fun law_told_12 => ?_)
      refine gss_if1 (se := fun z => nomatch z) (gt_w (gtw_or (gt_not (gt_val (GE.w (ge_isi (T := "bool") (GE.w (ge_var (i := 4) (pv 4))) T.z_isinstance T.z_bool)))) (gtw_or1 (gt_cmp (ne_ok b.u64) (GE.w (ge_var (i := 4) (pv 4))) (GE.w (ge_call c_law_is_telling b.hr (by decide) b.hx (ga_cons (ge_var (i := 1) (pv 1)) (ga_cons (ge_var (i := 6) (pv 6)) ga_nil)))))))) ?_ ?_
      · exact gss_ret ge_bl
      exact gss_nil () (Le.e (Le.e (Le.n (Le.n (Le.n (Le.n (Le.n (Le.n Le.nil))))))))
    refine gss_if1 (se := fun z => nomatch z) (gt_not (gt_val (GE.w (ge_call0 c_law_bounds b.hr (by decide) b.hx)))) ?_ ?_
    · exact gss_ret ge_bl
    refine gss_set (i := 7) b.nd (ge_tup (ga_cons (ge_tup (ga_cons ge_str (ga_cons ge_int (ga_cons ge_int (ga_cons ge_int (ga_cons ge_int ga_nil)))))) ga_nil)) (fun law_row_13 => ?_)
    exact gss_ret (ge_and (ge_not (ge_call c_is_case b.hr (by decide) b.hx (ga_cons (ge_bin add_ok (GE.w (ge_slice (GE.w (ge_var (i := 1) (pv 1))) gp_none (gp_some (GE.w ge_int)))) (GE.w (ge_tup (ga_cons (ge_bin mul_ok (GE.w (ge_var (i := 7) (pv 7))) (GE.w ge_int)) ga_nil)))) ga_nil))) (ge_one (ge_call c_is_case b.hr (by decide) b.hx (ga_cons (ge_bin add_ok (GE.w (ge_slice (GE.w (ge_var (i := 1) (pv 1))) gp_none (gp_some (GE.w ge_int)))) (GE.w (ge_tup (ga_cons (ge_bin mul_ok (GE.w (ge_var (i := 7) (pv 7))) (GE.w ge_int)) ga_nil)))) ga_nil))))
set_option maxHeartbeats 4000000 in
theorem all_mk {P : Program} {w : World} {K : PySem.W.Frag} {h : Heap} {mg : Str → Option Value} {fa : Addr} (X : K.In h) (G : h.Ns mainGlobals mg) (hfa : mg "law" = some (.ref fa))
    {f0 : Addr} {od0 an0 : Option Addr} {sl0 : Array (Option Value)} {oc0 kV0 dc0 pm0 cd0 ct0 : Value} {f1 : Addr} {od1 an1 : Option Addr} {sl1 : Array (Option Value)} {oc1 kV1 dc1 pm1 cd1 ct1 : Value} {f2 : Addr} {od2 an2 : Option Addr} {sl2 : Array (Option Value)} {oc2 kV2 dc2 pm2 cd2 ct2 : Value} {f3 : Addr} {od3 an3 : Option Addr} {sl3 : Array (Option Value)} {oc3 kV3 dc3 pm3 cd3 ct3 : Value} {f4 : Addr} {od4 an4 : Option Addr} {sl4 : Array (Option Value)} {oc4 kV4 dc4 pm4 cd4 ct4 : Value} {f5 : Addr} {od5 an5 : Option Addr} {sl5 : Array (Option Value)} {oc5 kV5 dc5 pm5 cd5 ct5 : Value} {f6 : Addr} {od6 an6 : Option Addr} {sl6 : Array (Option Value)} {oc6 kV6 dc6 pm6 cd6 ct6 : Value} {f7 : Addr} {od7 an7 : Option Addr} {sl7 : Array (Option Value)} {oc7 kV7 dc7 pm7 cd7 ct7 : Value} {f8 : Addr} {od8 an8 : Option Addr} {sl8 : Array (Option Value)} {oc8 kV8 dc8 pm8 cd8 ct8 : Value} {f9 : Addr} {od9 an9 : Option Addr} {sl9 : Array (Option Value)} {oc9 kV9 dc9 pm9 cd9 ct9 : Value} {f10 : Addr} {od10 an10 : Option Addr} {sl10 : Array (Option Value)} {oc10 kV10 dc10 pm10 cd10 ct10 : Value} {f11 : Addr} {od11 an11 : Option Addr} {sl11 : Array (Option Value)} {oc11 kV11 dc11 pm11 cd11 ct11 : Value} {f12 : Addr} {od12 an12 : Option Addr} {sl12 : Array (Option Value)} {oc12 kV12 dc12 pm12 cd12 ct12 : Value} {f13 : Addr} {od13 an13 : Option Addr} {sl13 : Array (Option Value)} {oc13 kV13 dc13 pm13 cd13 ct13 : Value} {f14 : Addr} {od14 an14 : Option Addr} {sl14 : Array (Option Value)} {oc14 kV14 dc14 pm14 cd14 ct14 : Value} {f15 : Addr} {od15 an15 : Option Addr} {sl15 : Array (Option Value)} {oc15 kV15 dc15 pm15 cd15 ct15 : Value} {f16 : Addr} {od16 an16 : Option Addr} {sl16 : Array (Option Value)} {oc16 kV16 dc16 pm16 cd16 ct16 : Value} {f17 : Addr} {od17 an17 : Option Addr} {sl17 : Array (Option Value)} {oc17 kV17 dc17 pm17 cd17 ct17 : Value} {f18 : Addr} {od18 an18 : Option Addr} {sl18 : Array (Option Value)} {oc18 kV18 dc18 pm18 cd18 ct18 : Value} {t_MOST_MOMENT : Tok} {t_MOST_PERSONS : Tok} {t_MOST_PLACES : Tok} {t_MOST_TELLINGS : Tok} {t_MOST_TIME : Tok} {w_OF_TWO : Addr} {o_OF_TWO : Option Addr} {i_OF_TWO : List Value} {m_OF_TWO : Nat} {s_OF_TWO : Array (Option Value)} {w_WORDS : Addr} {o_WORDS : Option Addr} {i_WORDS : List Value} {m_WORDS : Nat} {s_WORDS : Array (Option Value)} {x_NoCase : Addr}
    (a0 : PySem.W.nsIn K mainGlobals "is_number" = some (some (.ref f0)))
    (l0 : K.lookup f0 = some ⟨oc0, od0, .func (PySem.W.fnOf "is_number" "is_number" (defArgs s_is_number) (defBody s_is_number) (defScope s_is_number) .none kV0 dc0 pm0 an0 cd0 ct0), sl0⟩)
    (c0 : PySem.W.codeIn K cd0 "is_number" = true)
    (k0 : PySem.W.keepIn K (.ref f0) = true)
    (a1 : PySem.W.nsIn K mainGlobals "is_way" = some (some (.ref f1)))
    (l1 : K.lookup f1 = some ⟨oc1, od1, .func (PySem.W.fnOf "is_way" "is_way" (defArgs s_is_way) (defBody s_is_way) (defScope s_is_way) .none kV1 dc1 pm1 an1 cd1 ct1), sl1⟩)
    (c1 : PySem.W.codeIn K cd1 "is_way" = true)
    (k1 : PySem.W.keepIn K (.ref f1) = true)
    (a2 : PySem.W.nsIn K mainGlobals "is_town" = some (some (.ref f2)))
    (l2 : K.lookup f2 = some ⟨oc2, od2, .func (PySem.W.fnOf "is_town" "is_town" (defArgs s_is_town) (defBody s_is_town) (defScope s_is_town) .none kV2 dc2 pm2 an2 cd2 ct2), sl2⟩)
    (c2 : PySem.W.codeIn K cd2 "is_town" = true)
    (k2 : PySem.W.keepIn K (.ref f2) = true)
    (a3 : PySem.W.nsIn K mainGlobals "fits" = some (some (.ref f3)))
    (l3 : K.lookup f3 = some ⟨oc3, od3, .func (PySem.W.fnOf "fits" "fits" (defArgs s_fits) (defBody s_fits) (defScope s_fits) .none kV3 dc3 pm3 an3 cd3 ct3), sl3⟩)
    (c3 : PySem.W.codeIn K cd3 "fits" = true)
    (k3 : PySem.W.keepIn K (.ref f3) = true)
    (a4 : PySem.W.nsIn K mainGlobals "is_case" = some (some (.ref f4)))
    (l4 : K.lookup f4 = some ⟨oc4, od4, .func (PySem.W.fnOf "is_case" "is_case" (defArgs s_is_case) (defBody s_is_case) (defScope s_is_case) .none kV4 dc4 pm4 an4 cd4 ct4), sl4⟩)
    (c4 : PySem.W.codeIn K cd4 "is_case" = true)
    (k4 : PySem.W.keepIn K (.ref f4) = true)
    (a5 : PySem.W.nsIn K mainGlobals "need_case" = some (some (.ref f5)))
    (l5 : K.lookup f5 = some ⟨oc5, od5, .func (PySem.W.fnOf "need_case" "need_case" (defArgs s_need_case) (defBody s_need_case) (defScope s_need_case) .none kV5 dc5 pm5 an5 cd5 ct5), sl5⟩)
    (c5 : PySem.W.codeIn K cd5 "need_case" = true)
    (k5 : PySem.W.keepIn K (.ref f5) = true)
    (a6 : PySem.W.nsIn K mainGlobals "is_telling" = some (some (.ref f6)))
    (l6 : K.lookup f6 = some ⟨oc6, od6, .func (PySem.W.fnOf "is_telling" "is_telling" (defArgs s_is_telling) (defBody s_is_telling) (defScope s_is_telling) .none kV6 dc6 pm6 an6 cd6 ct6), sl6⟩)
    (c6 : PySem.W.codeIn K cd6 "is_telling" = true)
    (k6 : PySem.W.keepIn K (.ref f6) = true)
    (a7 : PySem.W.nsIn K mainGlobals "_law_cell" = some (some (.ref f7)))
    (l7 : K.lookup f7 = some ⟨oc7, od7, .func (PySem.W.fnOf "_law_cell" "_law_cell" (defArgs s_law_cell) (defBody s_law_cell) (defScope s_law_cell) .none kV7 dc7 pm7 an7 cd7 ct7), sl7⟩)
    (c7 : PySem.W.codeIn K cd7 "_law_cell" = true)
    (k7 : PySem.W.keepIn K (.ref f7) = true)
    (a8 : PySem.W.nsIn K mainGlobals "_law_drawn" = some (some (.ref f8)))
    (l8 : K.lookup f8 = some ⟨oc8, od8, .func (PySem.W.fnOf "_law_drawn" "_law_drawn" (defArgs s_law_drawn) (defBody s_law_drawn) (defScope s_law_drawn) .none kV8 dc8 pm8 an8 cd8 ct8), sl8⟩)
    (c8 : PySem.W.codeIn K cd8 "_law_drawn" = true)
    (k8 : PySem.W.keepIn K (.ref f8) = true)
    (a9 : PySem.W.nsIn K mainGlobals "_law_town" = some (some (.ref f9)))
    (l9 : K.lookup f9 = some ⟨oc9, od9, .func (PySem.W.fnOf "_law_town" "_law_town" (defArgs s_law_town) (defBody s_law_town) (defScope s_law_town) .none kV9 dc9 pm9 an9 cd9 ct9), sl9⟩)
    (c9 : PySem.W.codeIn K cd9 "_law_town" = true)
    (k9 : PySem.W.keepIn K (.ref f9) = true)
    (a10 : PySem.W.nsIn K mainGlobals "_law_telling" = some (some (.ref f10)))
    (l10 : K.lookup f10 = some ⟨oc10, od10, .func (PySem.W.fnOf "_law_telling" "_law_telling" (defArgs s_law_telling) (defBody s_law_telling) (defScope s_law_telling) .none kV10 dc10 pm10 an10 cd10 ct10), sl10⟩)
    (c10 : PySem.W.codeIn K cd10 "_law_telling" = true)
    (k10 : PySem.W.keepIn K (.ref f10) = true)
    (a11 : PySem.W.nsIn K mainGlobals "_law_case" = some (some (.ref f11)))
    (l11 : K.lookup f11 = some ⟨oc11, od11, .func (PySem.W.fnOf "_law_case" "_law_case" (defArgs s_law_case) (defBody s_law_case) (defScope s_law_case) .none kV11 dc11 pm11 an11 cd11 ct11), sl11⟩)
    (c11 : PySem.W.codeIn K cd11 "_law_case" = true)
    (k11 : PySem.W.keepIn K (.ref f11) = true)
    (a12 : PySem.W.nsIn K mainGlobals "_law_number" = some (some (.ref f12)))
    (l12 : K.lookup f12 = some ⟨oc12, od12, .func (PySem.W.fnOf "_law_number" "_law_number" (defArgs s_law_number) (defBody s_law_number) (defScope s_law_number) .none kV12 dc12 pm12 an12 cd12 ct12), sl12⟩)
    (c12 : PySem.W.codeIn K cd12 "_law_number" = true)
    (k12 : PySem.W.keepIn K (.ref f12) = true)
    (a13 : PySem.W.nsIn K mainGlobals "_law_is_town" = some (some (.ref f13)))
    (l13 : K.lookup f13 = some ⟨oc13, od13, .func (PySem.W.fnOf "_law_is_town" "_law_is_town" (defArgs s_law_is_town) (defBody s_law_is_town) (defScope s_law_is_town) .none kV13 dc13 pm13 an13 cd13 ct13), sl13⟩)
    (c13 : PySem.W.codeIn K cd13 "_law_is_town" = true)
    (k13 : PySem.W.keepIn K (.ref f13) = true)
    (a14 : PySem.W.nsIn K mainGlobals "_law_is_telling" = some (some (.ref f14)))
    (l14 : K.lookup f14 = some ⟨oc14, od14, .func (PySem.W.fnOf "_law_is_telling" "_law_is_telling" (defArgs s_law_is_telling) (defBody s_law_is_telling) (defScope s_law_is_telling) .none kV14 dc14 pm14 an14 cd14 ct14), sl14⟩)
    (c14 : PySem.W.codeIn K cd14 "_law_is_telling" = true)
    (k14 : PySem.W.keepIn K (.ref f14) = true)
    (a15 : PySem.W.nsIn K mainGlobals "_law_is_case" = some (some (.ref f15)))
    (l15 : K.lookup f15 = some ⟨oc15, od15, .func (PySem.W.fnOf "_law_is_case" "_law_is_case" (defArgs s_law_is_case) (defBody s_law_is_case) (defScope s_law_is_case) .none kV15 dc15 pm15 an15 cd15 ct15), sl15⟩)
    (c15 : PySem.W.codeIn K cd15 "_law_is_case" = true)
    (k15 : PySem.W.keepIn K (.ref f15) = true)
    (a16 : PySem.W.nsIn K mainGlobals "_law_spoilt" = some (some (.ref f16)))
    (l16 : K.lookup f16 = some ⟨oc16, od16, .func (PySem.W.fnOf "_law_spoilt" "_law_spoilt" (defArgs s_law_spoilt) (defBody s_law_spoilt) (defScope s_law_spoilt) .none kV16 dc16 pm16 an16 cd16 ct16), sl16⟩)
    (c16 : PySem.W.codeIn K cd16 "_law_spoilt" = true)
    (k16 : PySem.W.keepIn K (.ref f16) = true)
    (a17 : PySem.W.nsIn K mainGlobals "_law_bounds" = some (some (.ref f17)))
    (l17 : K.lookup f17 = some ⟨oc17, od17, .func (PySem.W.fnOf "_law_bounds" "_law_bounds" (defArgs s_law_bounds) (defBody s_law_bounds) (defScope s_law_bounds) .none kV17 dc17 pm17 an17 cd17 ct17), sl17⟩)
    (c17 : PySem.W.codeIn K cd17 "_law_bounds" = true)
    (k17 : PySem.W.keepIn K (.ref f17) = true)
    (a18 : PySem.W.nsIn K mainGlobals "law" = some (some (.ref f18)))
    (l18 : K.lookup f18 = some ⟨oc18, od18, .func (PySem.W.fnOf "law" "law" (defArgs s_law) (defBody s_law) (defScope s_law) .none kV18 dc18 pm18 an18 cd18 ct18), sl18⟩)
    (c18 : PySem.W.codeIn K cd18 "law" = true)
    (k18 : PySem.W.keepIn K (.ref f18) = true)
    (z_all : PySem.W.nsIn K mainGlobals "all" = some none)
    (z_bool : PySem.W.nsIn K mainGlobals "bool" = some none)
    (n_MOST_MOMENT : PySem.W.nsIn K mainGlobals "MOST_MOMENT" = some (some (.int 9 t_MOST_MOMENT)))
    (n_MOST_PERSONS : PySem.W.nsIn K mainGlobals "MOST_PERSONS" = some (some (.int 3 t_MOST_PERSONS)))
    (n_MOST_PLACES : PySem.W.nsIn K mainGlobals "MOST_PLACES" = some (some (.int 5 t_MOST_PLACES)))
    (n_MOST_TELLINGS : PySem.W.nsIn K mainGlobals "MOST_TELLINGS" = some (some (.int 6 t_MOST_TELLINGS)))
    (n_MOST_TIME : PySem.W.nsIn K mainGlobals "MOST_TIME" = some (some (.int 4 t_MOST_TIME)))
    (n_OF_TWO : PySem.W.nsIn K mainGlobals "OF_TWO" = some (some (.ref w_OF_TWO)))
    (l_OF_TWO : K.lookup w_OF_TWO = some ⟨.type "tuple", o_OF_TWO, .seq i_OF_TWO.toArray m_OF_TWO, s_OF_TWO⟩)
    (v_OF_TWO : Vals ((["met", "apart"] : List Str).map V.str) i_OF_TWO)
    (n_WORDS : PySem.W.nsIn K mainGlobals "WORDS" = some (some (.ref w_WORDS)))
    (l_WORDS : K.lookup w_WORDS = some ⟨.type "tuple", o_WORDS, .seq i_WORDS.toArray m_WORDS, s_WORDS⟩)
    (v_WORDS : Vals ((["there", "seen", "never", "met", "apart"] : List Str).map V.str) i_WORDS)
    (z_int : PySem.W.nsIn K mainGlobals "int" = some none)
    (z_isinstance : PySem.W.nsIn K mainGlobals "isinstance" = some none)
    (z_len : PySem.W.nsIn K mainGlobals "len" = some none)
    (z_list : PySem.W.nsIn K mainGlobals "list" = some none)
    (n_NoCase : PySem.W.nsIn K mainGlobals "NoCase" = some (some (.ref x_NoCase)))
    (e_NoCase : PySem.W.excIn K x_NoCase [.type "ValueError", .type "Exception", .type "BaseException", .type "object"] "ValueError.__new__" = true)
    (k_NoCase : PySem.W.keepIn K (.ref x_NoCase) = true)
    (b_NoCase : PySem.W.subIn K (.ref x_NoCase) (.type "BaseException") = some true)
    (y_NoCase : PySem.W.typeIn K (.ref x_NoCase) = some (.type "type"))
    (z_range : PySem.W.nsIn K mainGlobals "range" = some none)
    (z_set : PySem.W.nsIn K mainGlobals "set" = some none)
    (z_sorted : PySem.W.nsIn K mainGlobals "sorted" = some none)
    (z_str : PySem.W.nsIn K mainGlobals "str" = some none)
    (z_tuple : PySem.W.nsIn K mainGlobals "tuple" = some none)
    (z_zip : PySem.W.nsIn K mainGlobals "zip" = some none) :
    ∃ fd : FuncData, (∀ (s : Shared) (v : Value), BindsTo s fd ⟨[v], []⟩ [("_law_script", v)]) ∧ ∀ base : Heap, K.In base → base.Ns mainGlobals mg → FnOk P w K mg base (L2.CX P w) 10 fa fd ["_law_script"] (spF ⟨P, w, K⟩ mg F_law) := by
  have e := hfa.symm.trans (PySem.W.mg_of X G a18)
  cases e
  have T : Tx K mg := { z_all := PySem.W.mg_none_of X G z_all, z_bool := PySem.W.mg_none_of X G z_bool, c_MOST_MOMENT := gcon_int (PySem.W.mg_of X G n_MOST_MOMENT), c_MOST_PERSONS := gcon_int (PySem.W.mg_of X G n_MOST_PERSONS), c_MOST_PLACES := gcon_int (PySem.W.mg_of X G n_MOST_PLACES), c_MOST_TELLINGS := gcon_int (PySem.W.mg_of X G n_MOST_TELLINGS), c_MOST_TIME := gcon_int (PySem.W.mg_of X G n_MOST_TIME), c_OF_TWO := gcon_strs ["met", "apart"] (PySem.W.mg_of X G n_OF_TWO) l_OF_TWO rfl rfl (by rw [List.size_toArray, ← v_OF_TWO.length]; decide) (by simpa using v_OF_TWO), c_WORDS := gcon_strs ["there", "seen", "never", "met", "apart"] (PySem.W.mg_of X G n_WORDS) l_WORDS rfl rfl (by rw [List.size_toArray, ← v_WORDS.length]; decide) (by simpa using v_WORDS), z_int := PySem.W.mg_none_of X G z_int, z_isinstance := PySem.W.mg_none_of X G z_isinstance, z_len := PySem.W.mg_none_of X G z_len, z_list := PySem.W.mg_none_of X G z_list, x_NoCase := ⟨x_NoCase, ⟨PySem.W.mg_of X G n_NoCase, e_NoCase, k_NoCase, b_NoCase, y_NoCase⟩⟩, z_range := PySem.W.mg_none_of X G z_range, z_set := PySem.W.mg_none_of X G z_set, z_sorted := PySem.W.mg_none_of X G z_sorted, z_str := PySem.W.mg_none_of X G z_str, z_tuple := PySem.W.mg_none_of X G z_tuple, z_zip := PySem.W.mg_none_of X G z_zip }
  have F0 := fun_mk (st := s_is_number) l0 c0 k0
  have F1 := fun_mk (st := s_is_way) l1 c1 k1
  have F2 := fun_mk (st := s_is_town) l2 c2 k2
  have F3 := fun_mk (st := s_fits) l3 c3 k3
  have F4 := fun_mk (st := s_is_case) l4 c4 k4
  have F5 := fun_mk (st := s_need_case) l5 c5 k5
  have F6 := fun_mk (st := s_is_telling) l6 c6 k6
  have F7 := fun_mk (st := s_law_cell) l7 c7 k7
  have F8 := fun_mk (st := s_law_drawn) l8 c8 k8
  have F9 := fun_mk (st := s_law_town) l9 c9 k9
  have F10 := fun_mk (st := s_law_telling) l10 c10 k10
  have F11 := fun_mk (st := s_law_case) l11 c11 k11
  have F12 := fun_mk (st := s_law_number) l12 c12 k12
  have F13 := fun_mk (st := s_law_is_town) l13 c13 k13
  have F14 := fun_mk (st := s_law_is_telling) l14 c14 k14
  have F15 := fun_mk (st := s_law_is_case) l15 c15 k15
  have F16 := fun_mk (st := s_law_spoilt) l16 c16 k16
  have F17 := fun_mk (st := s_law_bounds) l17 c17 k17
  have F18 := fun_mk (st := s_law) l18 c18 k18
  refine ⟨PySem.W.fnOf "law" "law" (defArgs s_law) (defBody s_law) (defScope s_law) .none kV18 dc18 pm18 an18 cd18 ct18, fun s v => .of_eq rfl, fun base _ _ => ?_⟩
  have b12 := F12.binds (ps := ["_law_thing", "_law_low", "_law_high"]) fun _ _ _ _ _ _ us hl => match us, hl with | [_, _, _], _ => rfl
  have C_law_number : Cal P w K mg base 1 "_law_number" F_law_number := ⟨_, _, _, ok_law_number T F12 , PySem.W.mg_of X G a12, k12, b12⟩
  have b14 := F14.binds (ps := ["_law_case_here", "_law_thing"]) fun _ _ _ _ _ _ us hl => match us, hl with | [_, _], _ => rfl
  have C_law_is_telling : Cal P w K mg base 2 "_law_is_telling" F_law_is_telling := ⟨_, _, _, ok_law_is_telling T F14 C_law_number, PySem.W.mg_of X G a14, k14, b14⟩
  have b13 := F13.binds (ps := ["_law_thing"]) fun _ _ _ _ _ _ us hl => match us, hl with | [_], _ => rfl
  have C_law_is_town : Cal P w K mg base 2 "_law_is_town" F_law_is_town := ⟨_, _, _, ok_law_is_town T F13 C_law_number, PySem.W.mg_of X G a13, k13, b13⟩
  have b0 := F0.binds (ps := ["thing", "low", "high"]) fun _ _ _ _ _ _ us hl => match us, hl with | [_, _, _], _ => rfl
  have C_is_number : Cal P w K mg base 1 "is_number" F_is_number := ⟨_, _, _, ok_is_number T F0 , PySem.W.mg_of X G a0, k0, b0⟩
  have b3 := F3.binds (ps := ["places", "persons", "last", "thing"]) fun _ _ _ _ _ _ us hl => match us, hl with | [_, _, _, _], _ => rfl
  have C_fits : Cal P w K mg base 2 "fits" F_fits := ⟨_, _, _, ok_fits T F3 C_is_number, PySem.W.mg_of X G a3, k3, b3⟩
  have b1 := F1.binds (ps := ["places", "thing"]) fun _ _ _ _ _ _ us hl => match us, hl with | [_, _], _ => rfl
  have C_is_way : Cal P w K mg base 2 "is_way" F_is_way := ⟨_, _, _, ok_is_way T F1 C_is_number, PySem.W.mg_of X G a1, k1, b1⟩
  have b2 := F2.binds (ps := ["thing"]) fun _ _ _ _ _ _ us hl => match us, hl with | [_], _ => rfl
  have C_is_town : Cal P w K mg base 3 "is_town" F_is_town := ⟨_, _, _, ok_is_town T F2 C_is_number C_is_way, PySem.W.mg_of X G a2, k2, b2⟩
  have b4 := F4.binds (ps := ["thing"]) fun _ _ _ _ _ _ us hl => match us, hl with | [_], _ => rfl
  have C_is_case : Cal P w K mg base 4 "is_case" F_is_case := ⟨_, _, _, ok_is_case T F4 C_fits C_is_number C_is_town, PySem.W.mg_of X G a4, k4, b4⟩
  have b5 := F5.binds (ps := ["case"]) fun _ _ _ _ _ _ us hl => match us, hl with | [_], _ => rfl
  have C_need_case : Cal P w K mg base 5 "need_case" F_need_case := ⟨_, _, _, ok_need_case T F5 C_is_case, PySem.W.mg_of X G a5, k5, b5⟩
  have b6 := F6.binds (ps := ["case", "thing"]) fun _ _ _ _ _ _ us hl => match us, hl with | [_, _], _ => rfl
  have C_is_telling : Cal P w K mg base 6 "is_telling" F_is_telling := ⟨_, _, _, ok_is_telling T F6 C_fits C_need_case, PySem.W.mg_of X G a6, k6, b6⟩
  have b17 := F17.binds (ps := []) fun _ _ _ _ _ _ us hl => match us, hl with | [], _ => rfl
  have C_law_bounds : Cal P w K mg base 7 "_law_bounds" F_law_bounds := ⟨_, _, _, ok_law_bounds T F17 C_law_is_telling C_law_is_town C_is_telling C_is_town, PySem.W.mg_of X G a17, k17, b17⟩
  have b7 := F7.binds (ps := ["_law_script", "_law_k"]) fun _ _ _ _ _ _ us hl => match us, hl with | [_, _], _ => rfl
  have C_law_cell : Cal P w K mg base 1 "_law_cell" F_law_cell := ⟨_, _, _, ok_law_cell T F7 , PySem.W.mg_of X G a7, k7, b7⟩
  have b8 := F8.binds (ps := ["_law_script", "_law_k", "_law_many"]) fun _ _ _ _ _ _ us hl => match us, hl with | [_, _, _], _ => rfl
  have C_law_drawn : Cal P w K mg base 2 "_law_drawn" F_law_drawn := ⟨_, _, _, ok_law_drawn T F8 C_law_cell, PySem.W.mg_of X G a8, k8, b8⟩
  have b10 := F10.binds (ps := ["_law_script", "_law_at", "_law_many", "_law_persons", "_law_last"]) fun _ _ _ _ _ _ us hl => match us, hl with | [_, _, _, _, _], _ => rfl
  have C_law_telling : Cal P w K mg base 3 "_law_telling" F_law_telling := ⟨_, _, _, ok_law_telling T F10 C_law_drawn, PySem.W.mg_of X G a10, k10, b10⟩
  have b9 := F9.binds (ps := ["_law_script", "_law_at", "_law_most"]) fun _ _ _ _ _ _ us hl => match us, hl with | [_, _, _], _ => rfl
  have C_law_town : Cal P w K mg base 3 "_law_town" F_law_town := ⟨_, _, _, ok_law_town T F9 C_law_drawn, PySem.W.mg_of X G a9, k9, b9⟩
  have b11 := F11.binds (ps := ["_law_script", "_law_at", "_law_most"]) fun _ _ _ _ _ _ us hl => match us, hl with | [_, _, _], _ => rfl
  have C_law_case : Cal P w K mg base 4 "_law_case" F_law_case := ⟨_, _, _, ok_law_case T F11 C_law_drawn C_law_telling C_law_town, PySem.W.mg_of X G a11, k11, b11⟩
  have b15 := F15.binds (ps := ["_law_thing"]) fun _ _ _ _ _ _ us hl => match us, hl with | [_], _ => rfl
  have C_law_is_case : Cal P w K mg base 3 "_law_is_case" F_law_is_case := ⟨_, _, _, ok_law_is_case T F15 C_law_is_telling C_law_is_town C_law_number, PySem.W.mg_of X G a15, k15, b15⟩
  have b16 := F16.binds (ps := ["_law_script", "_law_at", "_law_thing", "_law_deep"]) fun _ _ _ _ _ _ us hl => match us, hl with | [_, _, _, _], _ => rfl
  have C_law_spoilt : Cal P w K mg base 9 "_law_spoilt" F_law_spoilt := ⟨_, _, _, ok_law_spoilt T F16 C_law_drawn (PySem.W.mg_of X G a16) k16 b16 6, PySem.W.mg_of X G a16, k16, b16⟩
  exact ok_law T F18 C_law_bounds C_law_case C_law_drawn C_law_is_case C_law_is_telling C_law_is_town C_law_spoilt C_is_case C_is_telling C_is_town
end
end Lw

/-! plain laws of the mirrors -/
namespace Dt
open PySem PySem.Spec PyProof.Rows L2
theorem b2_ok (g : PyData → PyData → Res PyData) (a b : PyData) : b2 g (.ok a) (.ok b) = g a b := rfl
theorem allR_nil : allR [] = .ok [] := rfl
theorem allR_ok (d : PyData) (rs : List (Res PyData)) : allR (.ok d :: rs) = (allR rs >>= fun ds => .ok (d :: ds)) := rfl
theorem asL_ok (ds : List PyData) : asL (.ok ds) = .ok (.list ds) := rfl
theorem retR_ok {α : Type} (d : PyData) : (retR (.ok d) : Res (Out α)) = .ok (.rt d) := rfl
theorem boolD_bool (b : Bool) : boolD (.bool b) = .ok b := rfl
theorem truD_bool (b : Bool) : truD (.bool b) = .ok b := rfl
theorem forD_nil {α : Type} (a : α) (f : PyData → α → Res (Out α)) : forD [] a f = .ok (.nx a) := rfl
theorem forD_cons {α : Type} (d : PyData) (ds : List PyData) (a : α) (f : PyData → α → Res (Out α)) : forD (d :: ds) a f = seqR (f d a) fun a' => forD ds a' f := rfl
theorem nt_ok (b : Bool) : nt (.ok b) = .ok (!b) := rfl
theorem orR_ok (b : Bool) (u : Res Bool) : orR (.ok b) u = if b = true then .ok true else u := rfl
theorem andR_ok (b : Bool) (u : Res Bool) : andR (.ok b) u = if b = true then u else .ok false := rfl
theorem orR_t (u : Res Bool) : orR (.ok true) u = .ok true := rfl
theorem orR_f (u : Res Bool) : orR (.ok false) u = u := rfl
theorem andR_t (u : Res Bool) : andR (.ok true) u = u := rfl
theorem andR_f (u : Res Bool) : andR (.ok false) u = .ok false := rfl
theorem andV_bool (b : Bool) (u : Res PyData) : andV (.ok (.bool b)) u = if b = true then u else .ok (.bool false) := rfl
theorem andV_t (u : Res PyData) : andV (.ok (.bool true)) u = u := rfl
theorem andV_f (u : Res PyData) : andV (.ok (.bool false)) u = .ok (.bool false) := rfl
theorem orV_t (u : Res PyData) : orV (.ok (.bool true)) u = .ok (.bool true) := rfl
theorem orV_f (u : Res PyData) : orV (.ok (.bool false)) u = u := rfl
theorem notV_bool (b : Bool) : notV (.ok (.bool b)) = .ok (.bool (!b)) := rfl
theorem ite3_t (a b : Res PyData) : ite3 (.ok true) a b = a := rfl
theorem ite3_f (a b : Res PyData) : ite3 (.ok false) a b = b := rfl
theorem addI (i j : Int) : addD (.int i) (.int j) = .ok (.int (i + j)) := rfl
theorem subI (i j : Int) : subD (.int i) (.int j) = .ok (.int (i - j)) := rfl
theorem negI (i : Int) : negD (.int i) = .ok (.int (-i)) := rfl
theorem mul_small {i j : Int} (h : -(2 ^ 64) < i ∧ i < 2 ^ 64 ∨ -(2 ^ 64) < j ∧ j < 2 ^ 64) : mulD (.int i) (.int j) = .ok (.int (i * j)) := by
  show (if (smallI i || smallI j) = true then Res.ok (PyData.int (i * j)) else .stuck) = _
  rw [if_pos]
  unfold smallI
  simp only [Bool.or_eq_true, Bool.and_eq_true, decide_eq_true_eq]
  exact h
theorem mod_pos {i j : Int} (h : 0 < j) : modD (.int i) (.int j) = .ok (.int (i % j)) := by
  show (if 0 < j then Res.ok (PyData.int (i % j)) else .stuck) = _
  rw [if_pos h]
theorem fdiv_pos {i j : Int} (h : 0 < j) (h' : j < 1073741824) : fdivD (.int i) (.int j) = .ok (.int (i / j)) := by
  show (if 0 < j ∧ j < 1073741824 then Res.ok (PyData.int (i / j)) else .stuck) = _
  rw [if_pos ⟨h, h'⟩]
theorem leI (i j : Int) : leD (.int i) (.int j) = .ok (.bool (decide (i ≤ j))) := rfl
theorem gtI (i j : Int) : gtD (.int i) (.int j) = .ok (.bool (decide (j < i))) := rfl
theorem geI (i j : Int) : geD (.int i) (.int j) = .ok (.bool (decide (j ≤ i))) := rfl
theorem ltI (i j : Int) : ltD (.int i) (.int j) = .ok (.bool (decide (i < j))) := rfl
theorem shp_int (i : Int) : shp (.int i) = true := rfl
theorem shp_bool (i : Bool) : shp (.bool i) = true := rfl
theorem shp_none : shp .none = true := rfl
theorem eqI (i j : Int) : eqD (.int i) (.int j) = .ok (.bool (decide (i = j))) := by
  unfold eqD
  rw [shp_int, shp_int, if_pos (by rfl)]
  rfl
theorem neI (i j : Int) : neD (.int i) (.int j) = .ok (.bool (!decide (i = j))) := by
  unfold neD
  rw [shp_int, shp_int, if_pos (by rfl)]
  rfl
theorem eqB (i j : Bool) : eqD (.bool i) (.bool j) = .ok (.bool (decide (i = j))) := by
  unfold eqD
  rw [shp_bool, shp_bool, if_pos (by rfl)]
  cases i <;> cases j <;> rfl
theorem neB (i j : Bool) : neD (.bool i) (.bool j) = .ok (.bool (!decide (i = j))) := by
  unfold neD
  rw [shp_bool, shp_bool, if_pos (by rfl)]
  cases i <;> cases j <;> rfl
theorem lstD_ok {ds : List PyData} (h : ds.length ≤ sizeLine) : lstD ds = .ok ds := if_pos h
theorem tupD_ok {ds : List PyData} (h : ds.length ≤ sizeLine) : Dt.tupD ds = .ok (.tuple ds) := if_pos h
theorem appR_ok {ds : List PyData} {d : PyData} (h : ds.length < sizeLine) : appR ds d = .ok (ds ++ [d]) := if_pos h
/-! loops -/
theorem forD_inv {α : Type} {f : PyData → α → Res (Out α)} (I : Nat → α → Prop) : ∀ (ds : List PyData) (k : Nat) (a : α), I k a → (∀ (i : Nat) (d : PyData) (a : α), ds[i]? = some d → I (k + i) a → ∃ a', f d a = .ok (.nx a') ∧ I (k + i + 1) a') →
    ∃ a', forD ds a f = .ok (.nx a') ∧ I (k + ds.length) a'
  | [], k, a, h, _ => ⟨a, rfl, h⟩
  | d :: ds, k, a, h, s => by
    obtain ⟨a1, e1, h1⟩ := s 0 d a rfl h
    obtain ⟨a2, e2, h2⟩ := forD_inv I ds (k + 1) a1 h1 fun i d' a' e q => by
      have := s (i + 1) d' a' (by simpa using e) (by rw [show k + (i + 1) = k + 1 + i by omega]; exact q)
      rw [show k + (i + 1) + 1 = k + 1 + i + 1 by omega] at this
      exact this
    refine ⟨a2, by rw [forD_cons, e1, seqR_nx, e2], ?_⟩
    rw [List.length_cons, show k + (ds.length + 1) = k + 1 + ds.length by omega]
    exact h2
/-- over range(lo, lo + n) -/
theorem forD_range {α : Type} {f : PyData → α → Res (Out α)} (I : Int → α → Prop) (lo : Int) (n : Nat) (a : α) (h : I lo a) (s : ∀ (i : Int) (a : α), lo ≤ i → i < lo + n → I i a → ∃ a', f (.int i) a = .ok (.nx a') ∧ I (i + 1) a') :
    ∃ a', forD (rangeL lo n) a f = .ok (.nx a') ∧ I (lo + n) a' := by
  have hl : (rangeL lo n).length = n := by unfold rangeL; simp
  obtain ⟨a', e, h'⟩ := forD_inv (f := f) (fun k a => I (lo + (k : Nat)) a) (rangeL lo n) 0 a (by simpa using h) fun i d a e q => by
    have hi : i < n := by
      have := (List.getElem?_eq_some_iff.mp e).1
      omega
    have ed : d = .int (lo + (i : Nat)) := by
      unfold rangeL at e
      rw [List.getElem?_map, List.getElem?_range hi] at e
      exact (Option.some.inj e).symm
    subst ed
    rw [Nat.zero_add] at q
    obtain ⟨a', e1, e2⟩ := s (lo + (i : Nat)) a (by omega) (by omega) q
    refine ⟨a', e1, ?_⟩
    have : (lo + ((0 + i + 1 : Nat) : Int)) = lo + (i : Nat) + 1 := by omega
    rw [this]
    exact e2
  rw [Nat.zero_add, hl] at h'
  exact ⟨a', e, h'⟩
/-- all turns hand on, and nothing is kept -/
theorem forD_unit {f : PyData → Unit → Res (Out Unit)} : ∀ (ds : List PyData), (∀ d ∈ ds, f d () = .ok (.nx ())) → forD ds () f = .ok (.nx ())
  | [], _ => rfl
  | d :: ds, h => by
    rw [forD_cons, h d List.mem_cons_self, seqR_nx]
    exact forD_unit ds fun e he => h e (List.mem_cons_of_mem _ he)
/-! comprehensions -/
theorem compF_all {g : PyData → Res (Option PyData)} {h : PyData → Option PyData} : ∀ (ds : List PyData), (∀ d ∈ ds, g d = .ok (h d)) → compF ds g = .ok (ds.filterMap h)
  | [], _ => rfl
  | d :: ds, e => by
    have e1 := e d List.mem_cons_self
    have e2 := compF_all ds fun z hz => e z (List.mem_cons_of_mem _ hz)
    show (hard (g d) >>= fun o => compF ds g >>= fun ys => Res.ok (match o with | some y => y :: ys | none => ys)) = _
    rw [e1, e2]
    show Res.ok _ = Res.ok _
    rw [List.filterMap_cons]
    cases h d <;> rfl
theorem compD_all {g : PyData → Res (Option PyData)} {h : PyData → Option PyData} {ds : List PyData} (hl : ds.length ≤ sizeLine) (e : ∀ d ∈ ds, g d = .ok (h d)) : compD ds g = .ok (ds.filterMap h) := by
  unfold compD
  rw [if_pos hl]
  exact compF_all ds e
theorem cel_t (d : PyData) : cel (.ok true) (.ok d) = .ok (some d) := rfl
theorem cel_f (r : Res PyData) : cel (.ok false) r = .ok none := rfl
end Dt

/-! data that are small and flat enough; strictly sorted pairs -/
namespace Dt
open PySem PySem.Spec PyProof.Rows L2
def gd (n : Nat) : Nat → PyData → Bool
  | _, .none => true
  | _, .bool _ => true
  | _, .int _ => true
  | _, .str x => PyData.canLay0 (.str x)
  | 0, _ => false
  | k + 1, .list xs => decide (xs.length ≤ n) && xs.all (gd n k)
  | k + 1, .tuple xs => decide (xs.length ≤ n) && xs.all (gd n k)
  | _ + 1, .dict _ => false
theorem lay_of_all : ∀ {xs : List PyData}, (∀ x ∈ xs, PyData.canLay0 x = true) → PyData.canLayAll0 xs = true
  | [], _ => by simp [PyData.canLayAll0]
  | x :: xs, h => by simp [PyData.canLayAll0, h x List.mem_cons_self, lay_of_all fun y hy => h y (List.mem_cons_of_mem _ hy)]
theorem depth_of_all {k : Nat} : ∀ {xs : List PyData}, (∀ x ∈ xs, PyData.depth x ≤ k) → PyData.depthAll xs ≤ k
  | [], _ => by simp [PyData.depthAll]
  | x :: xs, h => by
    have h1 := h x List.mem_cons_self
    have h2 := depth_of_all fun y hy => h y (List.mem_cons_of_mem _ hy)
    simp only [PyData.depthAll]
    omega
theorem gd_all {n k : Nat} {xs : List PyData} : (decide (xs.length ≤ n) && xs.all (gd n k)) = true ↔ xs.length ≤ n ∧ ∀ x ∈ xs, gd n k x = true := by
  rw [Bool.and_eq_true, decide_eq_true_eq, List.all_eq_true]
theorem gd_tup {n k : Nat} {xs : List PyData} : gd n (k + 1) (.tuple xs) = true ↔ xs.length ≤ n ∧ ∀ x ∈ xs, gd n k x = true := gd_all
theorem gd_lst {n k : Nat} {xs : List PyData} : gd n (k + 1) (.list xs) = true ↔ xs.length ≤ n ∧ ∀ x ∈ xs, gd n k x = true := gd_all
theorem gd_ok {n : Nat} : ∀ {k : Nat} {d : PyData}, gd n k d = true → d.canLay0 = true ∧ d.depth ≤ k
  | k, .none, _ => ⟨rfl, Nat.zero_le _⟩
  | k, .bool _, _ => ⟨rfl, Nat.zero_le _⟩
  | k, .int _, _ => ⟨rfl, Nat.zero_le _⟩
  | 0, .str x, h => ⟨h, Nat.zero_le _⟩
  | k + 1, .str x, h => ⟨h, Nat.zero_le _⟩
  | 0, .list xs, h => by cases h
  | 0, .tuple xs, h => by cases h
  | 0, .dict xs, h => by cases h
  | k + 1, .dict xs, h => by cases h
  | k + 1, .list xs, h => by
    obtain ⟨h1, h2⟩ := gd_lst.mp h
    refine ⟨by simp only [PyData.canLay0]; exact lay_of_all fun x hx => (gd_ok (h2 x hx)).1, ?_⟩
    have := depth_of_all fun x hx => (gd_ok (h2 x hx)).2
    simp only [PyData.depth]
    omega
  | k + 1, .tuple xs, h => by
    obtain ⟨h1, h2⟩ := gd_tup.mp h
    refine ⟨by simp only [PyData.canLay0]; exact lay_of_all fun x hx => (gd_ok (h2 x hx)).1, ?_⟩
    have := depth_of_all fun x hx => (gd_ok (h2 x hx)).2
    simp only [PyData.depth]
    omega
theorem gd_shp {n k : Nat} {d : PyData} (h : gd n k d = true) (hk : k ≤ 64) : shp d = true := by
  obtain ⟨h1, h2⟩ := gd_ok h
  unfold shp SeqAt.shaped
  rw [h1, Bool.true_and]
  exact decide_eq_true (Nat.le_trans h2 hk)
theorem gd_mono {n m : Nat} (hn : n ≤ m) : ∀ {k j : Nat} {d : PyData}, k ≤ j → gd n k d = true → gd m j d = true
  | _, 0, .none, _, _ => rfl
  | _, _ + 1, .none, _, _ => rfl
  | _, 0, .bool _, _, _ => rfl
  | _, _ + 1, .bool _, _, _ => rfl
  | _, 0, .int _, _, _ => rfl
  | _, _ + 1, .int _, _, _ => rfl
  | 0, 0, .str _, _, h => h
  | 0, _ + 1, .str _, _, h => h
  | _ + 1, 0, .str _, _, h => h
  | _ + 1, _ + 1, .str _, _, h => h
  | 0, _, .list xs, _, h => by cases h
  | 0, _, .tuple xs, _, h => by cases h
  | 0, _, .dict xs, _, h => by cases h
  | _ + 1, _, .dict xs, _, h => by cases h
  | k + 1, 0, _, e, _ => by omega
  | k + 1, j + 1, .list xs, e, h => by
    obtain ⟨h1, h2⟩ := gd_lst.mp h
    exact gd_lst.mpr ⟨by omega, fun x hx => gd_mono hn (by omega) (h2 x hx)⟩
  | k + 1, j + 1, .tuple xs, e, h => by
    obtain ⟨h1, h2⟩ := gd_tup.mp h
    exact gd_tup.mpr ⟨by omega, fun x hx => gd_mono hn (by omega) (h2 x hx)⟩
/-! isinstance -/
def isTup : PyData → Bool
  | .tuple _ => true
  | _ => false
def isInt : PyData → Bool
  | .int _ => true
  | .bool _ => true
  | _ => false
def isBool : PyData → Bool
  | .bool _ => true
  | _ => false
def isStr : PyData → Bool
  | .str _ => true
  | _ => false
def notDic : PyData → Bool
  | .dict _ => false
  | _ => true
theorem gd_notDic {n k : Nat} {d : PyData} (h : gd n k d = true) : notDic d = true := by
  cases d with
  | dict _ => cases k <;> cases h
  | _ => rfl
theorem isi_tuple {d : PyData} (h : notDic d = true) : isiD "tuple" d = .ok (.bool (isTup d)) := by
  cases d <;> first | rfl | (cases h)
theorem isi_int {d : PyData} (h : notDic d = true) : isiD "int" d = .ok (.bool (isInt d)) := by
  cases d <;> first | rfl | (cases h)
theorem isi_bool {d : PyData} (h : notDic d = true) : isiD "bool" d = .ok (.bool (isBool d)) := by
  cases d <;> first | rfl | (cases h)
theorem isi_str {d : PyData} (h : notDic d = true) : isiD "str" d = .ok (.bool (isStr d)) := by
  cases d <;> first | rfl | (cases h)
def numOk (lo hi : Int) : PyData → Bool
  | .int i => decide (lo ≤ i) && decide (i ≤ hi)
  | _ => false
theorem num_eval {d : PyData} (h : notDic d = true) (lo hi : Int) : andV ((.ok d) >>= isiD "int") (andV (notV ((.ok d) >>= isiD "bool")) (chainV (.ok (.int lo)) (.ok d) (.ok (.int hi)) leD leD)) = .ok (.bool (numOk lo hi d)) := by
  rw [ok_bind, ok_bind, isi_int h, isi_bool h]
  cases d with
  | int i =>
    show (Res.ok (PyData.bool (decide (lo ≤ i))) >>= fun z => boolD z >>= fun k => if k = true then Res.ok (PyData.bool (decide (i ≤ hi))) else .ok (.bool false)) = .ok (.bool (decide (lo ≤ i) && decide (i ≤ hi)))
    rw [ok_bind, boolD_bool, ok_bind]
    cases decide (lo ≤ i) <;> rfl
  | _ => rfl
/-! pairs in order -/
def pairOk (x : List Int) : Prop := ∃ a b, x = [a, b] ∧ (0 ≤ a ∧ a < 4096) ∧ 0 ≤ b ∧ b < 4096
theorem code2 (a b : Int) : _root_.TS.code 4096 [a, b] = a * 4096 + b := by
  show a * 4096 ^ 1 + (b * 4096 ^ 0 + 0) = _
  have e1 : (4096 : Int) ^ 1 = 4096 := by decide
  have e0 : (4096 : Int) ^ 0 = 1 := by decide
  rw [e1, e0]
  omega
theorem lex_code {x y : List Int} (hx : pairOk x) (hy : pairOk y) : HT.lexLt x y = decide (_root_.TS.code 4096 x < _root_.TS.code 4096 y) := by
  obtain ⟨a, b, rfl, h1, h2⟩ := hx
  obtain ⟨c, d, rfl, h3, h4⟩ := hy
  rw [code2, code2, HT.lexLt_cons, HT.lexLt_cons, HT.lexLt_nil_nil]
  by_cases e : a = c
  · rw [if_pos e]
    subst e
    by_cases e2 : b = d
    · rw [if_pos e2]; exact (decide_eq_false (by omega)).symm
    · rw [if_neg e2]; exact decide_eq_decide.mpr (by omega)
  · rw [if_neg e]; exact decide_eq_decide.mpr (by omega)
/-- each is less than the next -/
def incr : List (List Int) → Bool
  | x :: y :: r => HT.lexLt x y && incr (y :: r)
  | _ => true
theorem incr_pw : ∀ {l : List (List Int)}, (∀ x ∈ l, pairOk x) → (incr l = true ↔ l.Pairwise fun x y => _root_.TS.code 4096 x < _root_.TS.code 4096 y)
  | [], _ => by simp [incr]
  | [x], _ => by simp [incr]
  | x :: y :: r, h => by
    have ih := incr_pw (l := y :: r) fun z hz => h z (List.mem_cons_of_mem _ hz)
    show (HT.lexLt x y && incr (y :: r)) = true ↔ _
    rw [Bool.and_eq_true, ih, lex_code (h x List.mem_cons_self) (h y (List.mem_cons_of_mem _ List.mem_cons_self)), decide_eq_true_eq, List.pairwise_cons (a := x) (l := y :: r)]
    constructor
    · rintro ⟨h1, h2⟩
      refine ⟨fun z hz => ?_, h2⟩
      rcases List.mem_cons.mp hz with e | e
      · rw [e]; exact h1
      · exact Int.lt_trans h1 ((List.pairwise_cons.mp h2).1 z e)
    · rintro ⟨h1, h2⟩
      exact ⟨h1 y List.mem_cons_self, h2⟩
theorem pairOk_bd {x : List Int} (h : pairOk x) : x.length = 2 ∧ _root_.TS.Bd 4096 x := by
  obtain ⟨a, b, rfl, h1, h2⟩ := h
  refine ⟨rfl, fun m hm => ?_⟩
  rcases List.mem_cons.mp hm with e | e
  · rw [e]; exact h1
  · rw [List.mem_singleton.mp e]; exact h2
theorem sortI_fix {l : List (List Int)} (h : ∀ x ∈ l, pairOk x) : l = sortI l ↔ incr l = true := by
  rw [incr_pw h]
  constructor
  · intro e
    have p1 : (sortI l).Perm (dedup l) := List.mergeSort_perm _ _
    have nd : (sortI l).Nodup := p1.nodup_iff.mpr (dedup_nodup l)
    have hs : (sortI l).Pairwise fun x y => _root_.TS.code 4096 x ≤ _root_.TS.code 4096 y := (List.pairwise_mergeSort (le := codeLe) (fun a b c h1 h2 => by unfold codeLe at *; simp only [decide_eq_true_eq] at *; omega) (fun a b => by unfold codeLe; simp only [Bool.or_eq_true, decide_eq_true_eq]; omega) _).imp fun h => of_decide_eq_true h
    rw [← e] at nd hs
    have q := nd.and hs
    refine List.Pairwise.imp_of_mem (fun {x y} hx hy z => ?_) q
    rcases Int.lt_or_eq_of_le z.2 with z2 | z2
    · exact z2
    · obtain ⟨b1, b2⟩ := pairOk_bd (h x hx)
      obtain ⟨b3, b4⟩ := pairOk_bd (h y hy)
      exact absurd (code_inj b1 b3 b2 b4 z2) z.1
  · intro hp
    refine sortI_uniq (d := 2) (fun x hx => pairOk_bd (h x hx)) (hp.imp fun z e => ?_) (fun x => Iff.rfl) (hp.imp fun z => Int.le_of_lt z)
    rw [e] at z
    exact absurd z (Int.lt_irrefl _)
/-! eq of lists of tuples of ints -/
theorem eqv_int (i j : Int) : PyData.eqv (.int i) (.int j) = decide (i = j) := rfl
theorem eqvAll_ints : ∀ (x y : List Int), PyData.eqvAll (x.map PyData.int) (y.map PyData.int) = decide (x = y)
  | [], [] => rfl
  | [], _ :: _ => rfl
  | _ :: _, [] => rfl
  | a :: x, b :: y => by
    show (PyData.eqv (.int a) (.int b) && PyData.eqvAll (x.map PyData.int) (y.map PyData.int)) = _
    rw [eqvAll_ints x y, eqv_int, ← Bool.decide_and]
    exact decide_eq_decide.mpr (by rw [List.cons.injEq])
theorem eqvAll_ofInts : ∀ (x y : List (List Int)), PyData.eqvAll (x.map ofInts) (y.map ofInts) = decide (x = y)
  | [], [] => rfl
  | [], _ :: _ => rfl
  | _ :: _, [] => rfl
  | a :: x, b :: y => by
    show (PyData.eqvAll (a.map PyData.int) (b.map PyData.int) && PyData.eqvAll (x.map ofInts) (y.map ofInts)) = _
    rw [eqvAll_ofInts x y, eqvAll_ints, ← Bool.decide_and]
    exact decide_eq_decide.mpr (by rw [List.cons.injEq])
theorem shp_ofInts (l : List (List Int)) : shp (.list (l.map ofInts)) = true := by
  unfold shp SeqAt.shaped
  rw [Bool.and_eq_true]
  have h1 : ∀ x ∈ l.map ofInts, PyData.canLay0 x = true := fun x hx => by
    obtain ⟨y, _, rfl⟩ := List.mem_map.mp hx
    simp [ofInts, PyData.canLay0, lay_ints]
  have h2 : ∀ x ∈ l.map ofInts, PyData.depth x ≤ 2 := fun x hx => by
    obtain ⟨y, _, rfl⟩ := List.mem_map.mp hx
    have := depth_ints y
    simp only [ofInts, PyData.depth]
    omega
  refine ⟨by simp [PyData.canLay0, lay_of_all h1], decide_eq_true ?_⟩
  have := depth_of_all h2
  simp only [PyData.depth]
  omega
end Dt

namespace Dt
open PySem PySem.Spec PyProof.Rows L2
theorem big60 : 60 ≤ sizeLine := by rw [sizeLine_eq]; decide
theorem compD_map {g : PyData → Res (Option PyData)} {f : PyData → PyData} {ds : List PyData} (hl : ds.length ≤ sizeLine) (e : ∀ d ∈ ds, g d = .ok (some (f d))) : compD ds g = .ok (ds.map f) := by
  rw [compD_all (h := fun d => some (f d)) hl e]
  congr 1
  induction ds with
  | nil => rfl
  | cons d ds ih => simp
theorem comR_map {g : PyData → Res (Option PyData)} {f : PyData → PyData} {ds : List PyData} (hl : ds.length ≤ sizeLine) (e : ∀ d ∈ ds, g d = .ok (some (f d))) : comR (.ok ds) g = .ok (ds.map f) := compD_map hl e
theorem comR_fil {g : PyData → Res (Option PyData)} {p : PyData → Bool} {ds : List PyData} (hl : ds.length ≤ sizeLine) (e : ∀ d ∈ ds, g d = .ok (if p d = true then some d else none)) : comR (.ok ds) g = .ok (ds.filter p) := by
  show compD ds g = _
  rw [compD_all (h := fun d => if p d = true then some d else none) hl e]
  congr 1
  clear e hl
  induction ds with
  | nil => rfl
  | cons d ds ih =>
    rw [List.filterMap_cons, List.filter_cons, ih]
    cases p d <;> rfl
theorem bools_map {p : PyData → Bool} : ∀ (xs : List PyData), boolsOf (xs.map fun d => .bool (p d)) = some (xs.map p)
  | [] => rfl
  | x :: xs => by
    show (boolsOf (xs.map fun d => .bool (p d))).map (p x :: ·) = _
    rw [bools_map xs]
    rfl
theorem all_map (p : PyData → Bool) (xs : List PyData) : (allR [asL (.ok (xs.map fun d => .bool (p d)))] >>= allC) = .ok (.bool (xs.all p)) := by
  show allC [.list (xs.map fun d => .bool (p d))] = _
  unfold allC
  dsimp only
  rw [bools_map]
  dsimp only
  congr 2
  rw [List.all_map]
  rfl
theorem any_map (p : PyData → Bool) (xs : List PyData) : (allR [asL (.ok (xs.map fun d => .bool (p d)))] >>= anyC) = .ok (.bool (xs.any p)) := by
  show anyC [.list (xs.map fun d => .bool (p d))] = _
  unfold anyC
  dsimp only
  rw [bools_map]
  dsimp only
  congr 2
  rw [List.any_map]
  rfl
theorem cut_from (xs : List PyData) (k : Nat) (j : Int) (e : j = (k : Nat)) : cutD xs (some j) none = xs.drop k := by
  subst e
  unfold cutD
  rw [HT.sIx_nat, HT.sIx_none]
  by_cases h : k ≤ xs.length
  · rw [Nat.min_eq_left h]
    exact List.take_of_length_le (by rw [List.length_drop]; omega)
  · rw [Nat.min_eq_right (by omega), List.drop_length, List.take_nil, List.drop_eq_nil_of_le (by omega)]
theorem cut_to (xs : List PyData) (k : Nat) (j : Int) (e : j = (k : Nat)) : cutD xs none (some j) = xs.take k := by
  subst e
  unfold cutD
  rw [HT.sIx_nat, HT.sIx_none, List.drop_zero, Nat.sub_zero]
  by_cases h : k ≤ xs.length
  · rw [Nat.min_eq_left h]
  · rw [Nat.min_eq_right (by omega), List.take_length, List.take_of_length_le (by omega)]
theorem part_int (i : Int) : ((Res.ok (PyData.int i)) >>= partD) = .ok (some i) := rfl
theorem sl_from (xs : List PyData) (k : Nat) (j : Int) (e : j = (k : Nat)) : sl3 (.ok (.tuple xs)) ((.ok (.int j)) >>= partD) (.ok none) = .ok (.tuple (xs.drop k)) := by
  show Res.ok (PyData.tuple (cutD xs (some j) none)) = _
  rw [cut_from xs k j e]
theorem sl_to (xs : List PyData) (k : Nat) (j : Int) (e : j = (k : Nat)) : sl3 (.ok (.tuple xs)) (.ok none) ((.ok (.int j)) >>= partD) = .ok (.tuple (xs.take k)) := by
  show Res.ok (PyData.tuple (cutD xs none (some j))) = _
  rw [cut_to xs k j e]
theorem slL_to (xs : List PyData) (k : Nat) (j : Int) (e : j = (k : Nat)) : sl3 (.ok (.list xs)) (.ok none) ((.ok (.int j)) >>= partD) = .ok (.list (xs.take k)) := by
  show Res.ok (PyData.list (cutD xs none (some j))) = _
  rw [cut_to xs k j e]
theorem mem_zip {d : PyData} : ∀ {xs ys : List PyData}, d ∈ zipL xs ys → ∃ x y, d = .tuple [x, y] ∧ x ∈ xs ∧ y ∈ ys
  | [], _, h => by cases h
  | _ :: _, [], h => by cases h
  | x :: xs, y :: ys, h => by
    rcases List.mem_cons.mp h with e | e
    · exact ⟨x, y, e, List.mem_cons_self, List.mem_cons_self⟩
    · obtain ⟨a, b, e1, e2, e3⟩ := mem_zip (xs := xs) (ys := ys) e
      exact ⟨a, b, e1, List.mem_cons_of_mem _ e2, List.mem_cons_of_mem _ e3⟩
theorem zip_len (xs ys : List PyData) : (zipL xs ys).length ≤ xs.length := by
  unfold zipL
  rw [List.length_zipWith]
  omega
theorem tD0 : Dt.tupD [] = .ok (.tuple []) := tupD_ok (Nat.le_trans (show 0 ≤ 60 by decide) big60)
theorem lD0 : lstD [] = .ok [] := lstD_ok (Nat.le_trans (show 0 ≤ 60 by decide) big60)
theorem tD1 (a : PyData) : Dt.tupD [a] = .ok (.tuple [a]) := tupD_ok (Nat.le_trans (show 1 ≤ 60 by decide) big60)
theorem lD1 (a : PyData) : lstD [a] = .ok [a] := lstD_ok (Nat.le_trans (show 1 ≤ 60 by decide) big60)
theorem tD2 (a b : PyData) : Dt.tupD [a, b] = .ok (.tuple [a, b]) := tupD_ok (Nat.le_trans (show 2 ≤ 60 by decide) big60)
theorem lD2 (a b : PyData) : lstD [a, b] = .ok [a, b] := lstD_ok (Nat.le_trans (show 2 ≤ 60 by decide) big60)
theorem tD3 (a b c : PyData) : Dt.tupD [a, b, c] = .ok (.tuple [a, b, c]) := tupD_ok (Nat.le_trans (show 3 ≤ 60 by decide) big60)
theorem lD3 (a b c : PyData) : lstD [a, b, c] = .ok [a, b, c] := lstD_ok (Nat.le_trans (show 3 ≤ 60 by decide) big60)
theorem tD4 (a b c d : PyData) : Dt.tupD [a, b, c, d] = .ok (.tuple [a, b, c, d]) := tupD_ok (Nat.le_trans (show 4 ≤ 60 by decide) big60)
theorem lD4 (a b c d : PyData) : lstD [a, b, c, d] = .ok [a, b, c, d] := lstD_ok (Nat.le_trans (show 4 ≤ 60 by decide) big60)
theorem tD5 (a b c d e : PyData) : Dt.tupD [a, b, c, d, e] = .ok (.tuple [a, b, c, d, e]) := tupD_ok (Nat.le_trans (show 5 ≤ 60 by decide) big60)
theorem lD5 (a b c d e : PyData) : lstD [a, b, c, d, e] = .ok [a, b, c, d, e] := lstD_ok (Nat.le_trans (show 5 ≤ 60 by decide) big60)
theorem tD6 (a b c d e f : PyData) : Dt.tupD [a, b, c, d, e, f] = .ok (.tuple [a, b, c, d, e, f]) := tupD_ok (Nat.le_trans (show 6 ≤ 60 by decide) big60)
theorem lD6 (a b c d e f : PyData) : lstD [a, b, c, d, e, f] = .ok [a, b, c, d, e, f] := lstD_ok (Nat.le_trans (show 6 ≤ 60 by decide) big60)
end Dt

namespace Lw
open PySem PySem.Spec PyProof.Rows L2 Dt

theorem cell_ok (ns : List Int) (hl : ns.length ≤ 63) (k : Int) : ∃ c, F_law_cell [scrD ns, .int k] = .ok (.int c) := by
  rw [F_law_cell_eq]
  unfold m_law_cell
  cases ns with
  | nil =>
    refine ⟨7 * k, ?_⟩
    have e : nilS (scrD []) (.list []) = .ok (.bool true) := rfl
    simp only [b2, asL, allR, lstD, ok_bind, List.length_nil, Nat.zero_le, if_true, e, boolD, onlyR, retR]
    rw [mul_small (.inl (by decide))]
    rfl
  | cons n ns =>
    have e : nilS (scrD (n :: ns)) (.list []) = .ok (.bool false) := rfl
    have hp : (0 : Int) < ((n :: ns).length : Nat) := by simp only [List.length_cons]; omega
    have hm : (((n :: ns).map PyData.int).length : Int) = ((n :: ns).length : Nat) := by rw [List.length_map]
    have h0 := Int.emod_nonneg k (Int.ne_of_gt hp)
    have h1 := Int.emod_lt_of_pos k hp
    have hlt : (k % ((n :: ns).length : Nat)).toNat < (n :: ns).length := by omega
    have e2 : lenS (scrD (n :: ns)) = .ok (.int ((n :: ns).length : Nat)) := by
      unfold lenS
      rw [scrV_D]
      show Res.ok (PyData.int (((n :: ns).map PyData.int).length : Int)) = _
      rw [hm]
    have e3 : ixS (scrD (n :: ns)) (.int (k % ((n :: ns).length : Nat))) = .ok (.int ((n :: ns)[(k % ((n :: ns).length : Nat)).toNat])) := by
      unfold ixS
      rw [scrV_D]
      dsimp only
      rw [if_pos h0, List.getElem?_map, List.getElem?_eq_getElem hlt]
      rfl
    refine ⟨(n :: ns)[(k % ((n :: ns).length : Nat)).toNat] + 6553 * (k / ((n :: ns).length : Nat)), ?_⟩
    simp only [b2, asL, allR, lstD, ok_bind, List.length_nil, Nat.zero_le, if_true, e, boolD, retR, e2]
    rw [mod_pos hp, fdiv_pos hp (by omega)]
    simp only [ok_bind, e3, if_false, Bool.false_eq_true]
    rw [mul_small (.inl (by decide))]
    rfl
theorem drawn_ok (ns : List Int) (hl : ns.length ≤ 63) (k m : Int) (hm : 0 < m) : ∃ d, F_law_drawn [scrD ns, .int k, .int m] = .ok (.int d) ∧ 0 ≤ d ∧ d < m := by
  obtain ⟨c, hc⟩ := cell_ok ns hl k
  rw [F_law_drawn_eq]
  unfold m_law_drawn
  simp only [b2, allR, ok_bind, hc, retR]
  rw [mod_pos (by decide)]
  simp only [ok_bind]
  rw [mul_small (.inr (by decide)), ]
  simp only [ok_bind]
  have ea : ∀ i j : Int, addD (.int i) (.int j) = .ok (.int (i + j)) := fun _ _ => rfl
  rw [ea]
  simp only [ok_bind]
  rw [mul_small (.inl (by decide))]
  simp only [ok_bind, ea]
  rw [mod_pos (by decide)]
  generalize hx : (c % 2147483563 * 69069 + 104723 * (k + 1)) % 2147483563 = x
  have x0 : 0 ≤ x ∧ x < 2147483563 := by rw [← hx]; exact ⟨Int.emod_nonneg _ (by decide), Int.emod_lt_of_pos _ (by decide)⟩
  simp only [ok_bind]
  rw [mul_small (.inl (by omega)), fdiv_pos (by decide) (by decide)]
  simp only [ok_bind, ea]
  rw [mod_pos (by decide)]
  generalize hy : (x * x + x / 3) % 2147483399 = y
  have y0 : 0 ≤ y ∧ y < 2147483399 := by rw [← hy]; exact ⟨Int.emod_nonneg _ (by decide), Int.emod_lt_of_pos _ (by decide)⟩
  simp only [ok_bind]
  rw [mul_small (.inl (by omega)), fdiv_pos (by decide) (by decide)]
  simp only [ok_bind, ea]
  rw [mod_pos (by decide)]
  simp only [ok_bind]
  rw [fdiv_pos (by decide) (by decide)]
  simp only [ok_bind]
  rw [mod_pos hm]
  exact ⟨_, rfl, Int.emod_nonneg _ (Int.ne_of_gt hm), Int.emod_lt_of_pos _ hm⟩
end Lw

namespace Lw
open PySem PySem.Spec PyProof.Rows L2 Dt

theorem len_ne (xs : List PyData) (k : Nat) (j : Int) (e : j = (k : Nat)) : (b2 neD ((allR [(.ok (.tuple xs))]) >>= lenC) (.ok (.int j)) >>= boolD) = .ok (!decide (xs.length = k)) := by
  subst e
  show (neD (.int (xs.length : Nat)) (.int (k : Nat)) >>= boolD) = _
  rw [neI, ok_bind, boolD_bool]
  congr 2
  exact decide_eq_decide.mpr (by omega)
theorem idx_tup (xs : List PyData) (i : Nat) (j : Int) (e : j = (i : Nat)) {d : PyData} (h : xs[i]? = some d) : b2 idxD (.ok (.tuple xs)) (.ok (.int j)) = .ok d := by
  subst e
  rw [b2_ok]
  unfold idxD
  dsimp only
  rw [atI_nat h]
theorem len2 {xs : List PyData} (h : xs.length = 2) : ∃ a b, xs = [a, b] := by
  match xs, h with
  | [a, b], _ => exact ⟨a, b, rfl⟩
theorem len3 {xs : List PyData} (h : xs.length = 3) : ∃ a b c, xs = [a, b, c] := by
  match xs, h with
  | [a, b, c], _ => exact ⟨a, b, c, rfl⟩
theorem len4 {xs : List PyData} (h : xs.length = 4) : ∃ a b c d, xs = [a, b, c, d] := by
  match xs, h with
  | [a, b, c, d], _ => exact ⟨a, b, c, d, rfl⟩
theorem len5 {xs : List PyData} (h : xs.length = 5) : ∃ a b c d e, xs = [a, b, c, d, e] := by
  match xs, h with
  | [a, b, c, d, e], _ => exact ⟨a, b, c, d, e, rfl⟩
theorem is_number_ok {d : PyData} (h : notDic d = true) (lo hi : Int) : F_is_number [d, .int lo, .int hi] = .ok (.bool (numOk lo hi d)) := by
  rw [F_is_number_eq]
  unfold m_is_number
  rw [num_eval h]
  rfl
theorem law_number_ok {d : PyData} (h : notDic d = true) (lo hi : Int) : F_law_number [d, .int lo, .int hi] = .ok (.bool (numOk lo hi d)) := by
  rw [F_law_number_eq]
  unfold m_law_number
  rw [num_eval h]
  rfl
def wayOk (n : Int) : PyData → Bool
  | .tuple [a, b, c] => numOk 0 (n - 1) a && (numOk (intV a + 1) (n - 1) b && numOk 1 4 c)
  | _ => false
theorem num_int {lo hi : Int} {d : PyData} (h : numOk lo hi d = true) : ∃ i, d = .int i ∧ lo ≤ i ∧ i ≤ hi := by
  cases d with
  | int i =>
    unfold numOk at h
    rw [Bool.and_eq_true, decide_eq_true_eq, decide_eq_true_eq] at h
    exact ⟨i, rfl, h.1, h.2⟩
  | _ => cases h
theorem is_way_ok {n : Int} {d : PyData} {m k : Nat} (h : gd m k d = true) : F_is_way [.int n, d] = .ok (.bool (wayOk n d)) := by
  rw [F_is_way_eq]
  unfold m_is_way
  rw [ok_bind, isi_tuple (gd_notDic h), ok_bind, truD_bool, nt_ok]
  cases d with
  | tuple xs =>
    rw [show (!isTup (.tuple xs)) = false from rfl, orR_f, len_ne xs 3 3 rfl]
    by_cases e : xs.length = 3
    · obtain ⟨a, b, c, rfl⟩ := len3 e
      cases k with
      | zero => cases h
      | succ k =>
        obtain ⟨_, hg⟩ := gd_tup.mp h
        have ha := gd_notDic (hg a (by simp))
        have hb := gd_notDic (hg b (by simp))
        have hc := gd_notDic (hg c (by simp))
        rw [idx_tup [a, b, c] 0 0 rfl rfl, idx_tup [a, b, c] 1 1 rfl rfl, idx_tup [a, b, c] 2 2 rfl rfl]
        rw [show (!decide ([a, b, c].length = 3)) = false from rfl, orR_f]
        simp only [allR_ok, allR_nil, ok_bind, b2_ok, subI]
        rw [is_number_ok ha]
        simp only [ok_bind, truD_bool, nt_ok]
        show _ = Res.ok (PyData.bool (numOk 0 (n - 1) a && (numOk (intV a + 1) (n - 1) b && numOk 1 4 c)))
        by_cases q : numOk 0 (n - 1) a = true
        · obtain ⟨i, rfl, _, _⟩ := num_int q
          rw [q]
          simp only [addI, allR_ok, allR_nil, ok_bind, Bool.not_true, Bool.false_eq_true, if_false]
          rw [is_number_ok hb, is_number_ok hc, andV_bool]
          show finR (retR (if numOk (i + 1) (n - 1) b = true then _ else _)) = _
          show _ = Res.ok (PyData.bool (true && (numOk (i + 1) (n - 1) b && numOk 1 4 c)))
          cases numOk (i + 1) (n - 1) b <;> rfl
        · rw [Bool.not_eq_true] at q
          rw [q]
          rfl
    · rw [show decide (xs.length = 3) = false from decide_eq_false e]
      have : wayOk n (.tuple xs) = false := by
        unfold wayOk
        split
        · rename_i heq
          cases heq
          exact absurd rfl e
        · rfl
      rw [this]
      rfl
  | _ => rfl
end Lw

namespace Lw
open PySem PySem.Spec PyProof.Rows L2 Dt

def pairOf : PyData → List Int
  | .tuple (a :: b :: _) => [intV a, intV b]
  | _ => []
def townOk : PyData → Bool
  | .tuple [n, .tuple ws] => numOk 1 5 n && (ws.all (wayOk (intV n)) && incr (ws.map pairOf))
  | _ => false
theorem wayOk_inv {n : Int} {d : PyData} (h : wayOk n d = true) : ∃ a b c, d = .tuple [.int a, .int b, .int c] ∧ 0 ≤ a ∧ a < b ∧ b < n ∧ 1 ≤ c ∧ c ≤ 4 := by
  unfold wayOk at h
  split at h
  · rename_i a b c
    rw [Bool.and_eq_true, Bool.and_eq_true] at h
    obtain ⟨i, rfl, h1, h2⟩ := num_int h.1
    obtain ⟨j, rfl, h3, h4⟩ := num_int h.2.1
    obtain ⟨t, rfl, h5, h6⟩ := num_int h.2.2
    have h3 : i + 1 ≤ j := h3
    exact ⟨i, j, t, rfl, h1, by omega, by omega, h5, h6⟩
  · cases h
theorem incr_zip : ∀ ws : List PyData, ((zipL ws (ws.drop 1)).all fun d => match d with | .tuple [x, y] => HT.lexLt (pairOf x) (pairOf y) | _ => false) = incr (ws.map pairOf)
  | [] => rfl
  | [x] => rfl
  | x :: y :: r => by
    have ih := incr_zip (y :: r)
    show (HT.lexLt (pairOf x) (pairOf y) && ((zipL (y :: r) ((y :: r).drop 1)).all fun d => match d with | .tuple [x, y] => HT.lexLt (pairOf x) (pairOf y) | _ => false)) = (HT.lexLt (pairOf x) (pairOf y) && incr ((y :: r).map pairOf))
    rw [ih]
theorem is_town_ok {d : PyData} {m k : Nat} (hm : m ≤ 60) (h : gd m k d = true) : F_is_town [d] = .ok (.bool (townOk d)) := by
  rw [F_is_town_eq]
  unfold m_is_town
  rw [ok_bind, isi_tuple (gd_notDic h), ok_bind, truD_bool, nt_ok]
  cases d with
  | tuple xs =>
    rw [show (!isTup (.tuple xs)) = false from rfl, orR_f, len_ne xs 2 2 rfl]
    by_cases e : xs.length = 2
    · obtain ⟨a, b, rfl⟩ := len2 e
      cases k with
      | zero => cases h
      | succ k =>
        obtain ⟨_, hg⟩ := gd_tup.mp h
        have ga := hg a (by simp)
        have gb := hg b (by simp)
        rw [idx_tup [a, b] 0 0 rfl rfl, idx_tup [a, b] 1 1 rfl rfl]
        rw [show (!decide ([a, b].length = 2)) = false from rfl, orR_f]
        simp only [allR_ok, allR_nil, ok_bind]
        rw [is_number_ok (gd_notDic ga)]
        simp only [ok_bind, truD_bool, nt_ok]
        by_cases q : numOk 1 5 a = true
        · obtain ⟨n, rfl, n1, n2⟩ := num_int q
          rw [q]
          simp only [ok_bind, Bool.not_true, Bool.false_eq_true, if_false]
          rw [isi_tuple (gd_notDic gb)]
          simp only [ok_bind, truD_bool, nt_ok]
          cases b with
          | tuple ws =>
            cases k with
            | zero => cases gb
            | succ k =>
              obtain ⟨hl, hw⟩ := gd_tup.mp gb
              have hl' : ws.length ≤ sizeLine := Nat.le_trans hl (Nat.le_trans hm big60)
              rw [show (!isTup (.tuple ws)) = false from rfl, orR_f]
              rw [show seqOf (.tuple ws) = .ok ws from rfl, comR_map (f := fun d => .bool (wayOk n d)) hl' fun d hd => by rw [is_way_ok (hw d hd), cel_t]]
              have ea := all_map (wayOk n) ws
              simp only [asL_ok, allR_ok, allR_nil, ok_bind] at ea ⊢
              rw [ea]
              simp only [ok_bind, truD_bool, nt_ok]
              show _ = Res.ok (PyData.bool (numOk 1 5 (.int n) && (ws.all (wayOk n) && incr (ws.map pairOf))))
              rw [q]
              by_cases z : ws.all (wayOk n) = true
              · rw [z]
                simp only [Bool.not_true, Bool.false_eq_true, if_false]
                have hsl := sl_from ws 1 1 rfl
                simp only [ok_bind] at hsl
                rw [hsl]
                simp only [allR_ok, allR_nil, ok_bind]
                rw [show zip2 [.tuple ws, .tuple (ws.drop 1)] = .ok (zipL ws (ws.drop 1)) from rfl]
                rw [comR_map (f := fun d => .bool (match d with | .tuple [x, y] => HT.lexLt (pairOf x) (pairOf y) | _ => false)) (Nat.le_trans (zip_len _ _) hl') fun d hd => by
                  obtain ⟨x, y, rfl, hx, hy⟩ := mem_zip hd
                  have hy' : y ∈ ws := List.mem_of_mem_drop hy
                  obtain ⟨a1, b1, c1, rfl, _⟩ := wayOk_inv (List.all_eq_true.mp z x hx)
                  obtain ⟨a2, b2, c2, rfl, _⟩ := wayOk_inv (List.all_eq_true.mp z y hy')
                  rfl]
                have ez := all_map (fun d => match d with | .tuple [x, y] => HT.lexLt (pairOf x) (pairOf y) | _ => false) (zipL ws (ws.drop 1))
                simp only [asL_ok, allR_ok, allR_nil, ok_bind] at ez ⊢
                rw [ez, incr_zip]
                rfl
              · rw [Bool.not_eq_true] at z
                rw [z]
                rfl
          | _ => rfl
        · rw [Bool.not_eq_true] at q
          rw [q]
          have : townOk (.tuple [a, b]) = false := by
            unfold townOk
            split
            · rename_i heq
              cases heq
              rw [q, Bool.false_and]
            · rfl
          rw [this]
          rfl
    · rw [show decide (xs.length = 2) = false from decide_eq_false e]
      have : townOk (.tuple xs) = false := by
        unfold townOk
        split
        · rename_i heq
          cases heq
          exact absurd rfl e
        · rfl
      rw [this]
      rfl
  | _ => rfl
end Lw

namespace Lw
open PySem PySem.Spec PyProof.Rows L2 Dt

theorem ne_nil {ys : List PyData} (h : shp (.list ys) = true) : (b2 neD (.ok (.list ys)) (asL ((allR []) >>= lstD)) >>= boolD) = .ok (!ys.isEmpty) := by
  show (neD (.list ys) (.list []) >>= boolD) = _
  have h0 : shp (.list []) = true := by decide +kernel
  unfold neD
  rw [h, h0, if_pos (by rfl)]
  cases ys <;> rfl
theorem eq_nil {ys : List PyData} (h : shp (.list ys) = true) : b2 eqD (.ok (.list ys)) (asL ((allR []) >>= lstD)) = .ok (.bool ys.isEmpty) := by
  show eqD (.list ys) (.list []) = _
  have h0 : shp (.list []) = true := by decide +kernel
  unfold eqD
  rw [h, h0, if_pos (by rfl)]
  cases ys <;> rfl
theorem gd_sub {n k : Nat} {xs ys : List PyData} (h : gd n (k + 1) (.list xs) = true) (hl : ys.length ≤ xs.length) (hs : ∀ y ∈ ys, y ∈ xs) : gd n (k + 1) (.list ys) = true := by
  obtain ⟨h1, h2⟩ := gd_lst.mp h
  exact gd_lst.mpr ⟨by omega, fun y hy => h2 y (hs y hy)⟩
theorem gd_fil {n k : Nat} {xs : List PyData} (p : PyData → Bool) (hl : xs.length ≤ n) (h : ∀ x ∈ xs, gd n k x = true) : gd n (k + 1) (.list (xs.filter p)) = true :=
  gd_lst.mpr ⟨Nat.le_trans (List.length_filter_le _ _) hl, fun y hy => h y (List.mem_filter.mp hy).1⟩
/-- the numbers of a list that are no small ones -/
theorem bad_nums {n k : Nat} {xs : List PyData} (hn : n ≤ 60) (hk : k ≤ 60) (hl : xs.length ≤ n) (h : ∀ x ∈ xs, gd n k x = true) :
    (b2 neD (asL (comR (.ok xs) (fun d_5 => cel (nt (((allR [(.ok d_5), (.ok (.int 0)), (.ok (.int 9))]) >>= F_law_number) >>= truD)) (.ok d_5)))) (asL ((allR []) >>= lstD)) >>= boolD) = .ok (!xs.all (numOk 0 9)) := by
  rw [comR_fil (p := fun d => !numOk 0 9 d) (Nat.le_trans hl (Nat.le_trans hn big60)) fun d hd => by
    simp only [allR_ok, allR_nil, ok_bind]
    rw [law_number_ok (gd_notDic (h d hd))]
    simp only [ok_bind, truD_bool, nt_ok]
    cases numOk 0 9 d <;> rfl]
  rw [asL_ok, ne_nil (gd_shp (gd_fil _ hl h) (by omega))]
  congr 2
  clear h hl
  induction xs with
  | nil => rfl
  | cons x xs ih =>
    rw [List.filter_cons, List.all_cons]
    cases numOk 0 9 x
    · rfl
    · simpa using ih
def body_town (thing : PyData) (d_4 : PyData) (st_3 : List PyData) : Res (Out (List PyData)) :=
  ((orR (nt (((.ok d_4) >>= isiD "tuple") >>= truD)) (orR (b2 neD ((allR [(.ok d_4)]) >>= lenC) (.ok (.int 3)) >>= boolD) (b2 neD (asL (comR ((.ok d_4) >>= seqOf) (fun d_5 => cel (nt (((allR [(.ok d_5), (.ok (.int 0)), (.ok (.int 9))]) >>= F_law_number) >>= truD)) (.ok d_5)))) (asL ((allR []) >>= lstD)) >>= boolD))) >>= fun z => if z = true then onlyR (retR (.ok (.bool false))) else ((orR (nt ((chainV (b2 idxD (.ok d_4) (.ok (.int 0))) (b2 idxD (.ok d_4) (.ok (.int 1))) (b2 idxD (.ok thing) (.ok (.int 0))) ltD ltD) >>= boolD)) (nt ((chainV (.ok (.int 1)) (b2 idxD (.ok d_4) (.ok (.int 2))) (.ok (.int 4)) leD leD) >>= boolD))) >>= fun z => if z = true then onlyR (retR (.ok (.bool false))) else ((sl3 (.ok d_4) (.ok none) ((.ok (.int 2)) >>= partD)) >>= fun d_7 => appR st_3 d_7 >>= fun law_pairs_8 => (.ok (.nx law_pairs_8)))))
theorem chain_lt (i j n : Int) : chainV (.ok (.int i)) (.ok (.int j)) (.ok (.int n)) ltD ltD = .ok (.bool (decide (i < j) && decide (j < n))) := by
  show (Res.ok (PyData.bool (decide (i < j))) >>= fun z => boolD z >>= fun k => if k = true then Res.ok (PyData.bool (decide (j < n))) else .ok (.bool false)) = _
  rw [ok_bind, boolD_bool, ok_bind]
  cases decide (i < j) <;> rfl
theorem chain_le (i j n : Int) : chainV (.ok (.int i)) (.ok (.int j)) (.ok (.int n)) leD leD = .ok (.bool (decide (i ≤ j) && decide (j ≤ n))) := by
  show (Res.ok (PyData.bool (decide (i ≤ j))) >>= fun z => boolD z >>= fun k => if k = true then Res.ok (PyData.bool (decide (j ≤ n))) else .ok (.bool false)) = _
  rw [ok_bind, boolD_bool, ok_bind]
  cases decide (i ≤ j) <;> rfl
theorem body_town_ok {n : Int} {ws : PyData} {d : PyData} {st : List PyData} {m k : Nat} (hm : m ≤ 60) (hk : k ≤ 60) (n2 : n ≤ 5) (h : gd m k d = true) (hs : st.length < sizeLine) :
    body_town (.tuple [.int n, ws]) d st = if wayOk n d = true then .ok (.nx (st ++ [ofInts (pairOf d)])) else .ok (.rt (.bool false)) := by
  unfold body_town
  rw [ok_bind, isi_tuple (gd_notDic h), ok_bind, truD_bool, nt_ok]
  cases d with
  | tuple xs =>
    rw [show (!isTup (.tuple xs)) = false from rfl, orR_f, len_ne xs 3 3 rfl]
    by_cases e : xs.length = 3
    · obtain ⟨a, b, c, rfl⟩ := len3 e
      cases k with
      | zero => cases h
      | succ k =>
        obtain ⟨hl, hg⟩ := gd_tup.mp h
        rw [show (!decide ([a, b, c].length = 3)) = false from rfl, orR_f]
        rw [ok_bind, show seqOf (.tuple [a, b, c]) = .ok [a, b, c] from rfl]
        rw [bad_nums hm (by omega) hl hg, ok_bind]
        by_cases q : [a, b, c].all (numOk 0 9) = true
        · rw [q]
          simp only [List.all_cons, List.all_nil, Bool.and_true, Bool.and_eq_true] at q
          obtain ⟨i, rfl, i1, i2⟩ := num_int q.1
          obtain ⟨j, rfl, j1, j2⟩ := num_int q.2.1
          obtain ⟨t, rfl, t1, t2⟩ := num_int q.2.2
          rw [if_neg (by simp), idx_tup [.int i, .int j, .int t] 0 0 rfl rfl, idx_tup [.int i, .int j, .int t] 1 1 rfl rfl, idx_tup [.int i, .int j, .int t] 2 2 rfl rfl, idx_tup [.int n, ws] 0 0 rfl rfl, chain_lt, chain_le]
          simp only [ok_bind, boolD_bool, nt_ok]
          by_cases z : (i < j ∧ j < n) ∧ 1 ≤ t ∧ t ≤ 4
          · have w : wayOk n (.tuple [.int i, .int j, .int t]) = true := by
              show ((decide (0 ≤ i) && decide (i ≤ n - 1)) && ((decide (i + 1 ≤ j) && decide (j ≤ n - 1)) && (decide (1 ≤ t) && decide (t ≤ 4)))) = true
              simp only [Bool.and_eq_true, decide_eq_true_eq]
              exact ⟨⟨i1, by omega⟩, ⟨by omega, by omega⟩, z.2⟩
            rw [if_pos w]
            simp only [decide_eq_true z.1.1, decide_eq_true z.1.2, decide_eq_true z.2.1, decide_eq_true z.2.2, Bool.and_self, Bool.not_true, orR_f, ok_bind, Bool.false_eq_true, if_false]
            have hsl := sl_to [.int i, .int j, .int t] 2 2 rfl
            simp only [ok_bind] at hsl
            rw [hsl]
            simp only [ok_bind]
            rw [appR_ok hs]
            rfl
          · have w : ¬ wayOk n (.tuple [.int i, .int j, .int t]) = true := by
              show ¬ ((decide (0 ≤ i) && decide (i ≤ n - 1)) && ((decide (i + 1 ≤ j) && decide (j ≤ n - 1)) && (decide (1 ≤ t) && decide (t ≤ 4)))) = true
              simp only [Bool.and_eq_true, decide_eq_true_eq]
              exact fun y => z ⟨⟨by omega, by omega⟩, y.2.2.1, y.2.2.2⟩
            rw [if_neg w]
            by_cases z1 : i < j ∧ j < n
            · have z2 : (decide (1 ≤ t) && decide (t ≤ 4)) = false := by
                rw [← Bool.decide_and]
                exact decide_eq_false fun y => z ⟨z1, y⟩
              simp only [decide_eq_true z1.1, decide_eq_true z1.2, Bool.and_self, Bool.not_true, orR_f, z2, Bool.not_false, ok_bind, if_true]
              rfl
            · have z2 : (decide (i < j) && decide (j < n)) = false := by
                rw [← Bool.decide_and]
                exact decide_eq_false z1
              simp only [z2, Bool.not_false, orR_t, ok_bind, if_true]
              rfl
        · have w : ¬ wayOk n (.tuple [a, b, c]) = true := fun w => q (by
            obtain ⟨i, j, t, e, h1, h2, h3, h4, h5⟩ := wayOk_inv w
            cases e
            show ((decide (0 ≤ i) && decide (i ≤ 9)) && ((decide (0 ≤ j) && decide (j ≤ 9)) && ((decide (0 ≤ t) && decide (t ≤ 9)) && true))) = true
            simp only [Bool.and_eq_true, decide_eq_true_eq]
            exact ⟨⟨h1, by omega⟩, ⟨by omega, by omega⟩, ⟨by omega, by omega⟩, trivial⟩)
          rw [Bool.not_eq_true] at q
          rw [q, if_neg w]
          rfl
    · rw [show decide (xs.length = 3) = false from decide_eq_false e]
      have w : ¬ wayOk n (.tuple xs) = true := fun w => by
        obtain ⟨i, j, t, e1, _⟩ := wayOk_inv w
        cases e1
        exact e rfl
      rw [if_neg w]
      rfl
  | _ => rfl
theorem loop_town {n : Int} {ws : PyData} {m k : Nat} (hm : m ≤ 60) (hk : k ≤ 60) (n2 : n ≤ 5) : ∀ (ds st : List PyData), (∀ d ∈ ds, gd m k d = true) → st.length + ds.length ≤ 60 →
    forD ds st (body_town (.tuple [.int n, ws])) = if ds.all (wayOk n) = true then .ok (.nx (st ++ (ds.map pairOf).map ofInts)) else .ok (.rt (.bool false))
  | [], st, _, _ => by
    rw [List.all_nil, if_pos rfl]
    show Res.ok (Out.nx st) = _
    rw [List.map_nil, List.map_nil, List.append_nil]
  | d :: ds, st, h, hl => by
    rw [List.length_cons] at hl
    rw [forD_cons, body_town_ok hm hk n2 (h d List.mem_cons_self) (Nat.lt_of_lt_of_le (by omega) big60), List.all_cons]
    by_cases z : wayOk n d = true
    · rw [if_pos z, seqR_nx, loop_town hm hk n2 ds _ (fun e he => h e (List.mem_cons_of_mem _ he)) (by rw [List.length_append]; simp; omega), z, Bool.true_and]
      rw [List.map_cons, List.map_cons, List.append_assoc]
      rfl
    · rw [if_neg z, seqR_rt]
      rw [Bool.not_eq_true] at z
      rw [z, Bool.false_and, if_neg (by simp)]
theorem sort_pairs {l : List (List Int)} (h : ∀ x ∈ l, pairOk x) (hl : l.length ≤ 60) : b2 eqD (.ok (.list (l.map ofInts))) (asL ((.ok (.list (l.map ofInts))) >>= sortSetC)) = .ok (.bool (incr l)) := by
  have et : (l.map ofInts).map tupInts = l := by
    rw [List.map_map]
    have : (tupInts ∘ ofInts) = id := by
      funext x
      show (x.map PyData.int).map intV = x
      rw [List.map_map]
      have : (intV ∘ PyData.int) = id := rfl
      rw [this, List.map_id]
    rw [this, List.map_id]
  have e1 : (l.map ofInts).all isIT = true := List.all_eq_true.mpr fun x hx => by
    obtain ⟨y, hy, rfl⟩ := List.mem_map.mp hx
    obtain ⟨a, b, rfl, h1, h2⟩ := h y hy
    show (tinyI (.int a) && (tinyI (.int b) && true)) = true
    unfold tinyI
    simp only [Bool.and_true, Bool.and_eq_true, decide_eq_true_eq]
    exact ⟨h1, h2⟩
  have e2 : sameLen l = true := by
    cases l with
    | nil => rfl
    | cons x l =>
      obtain ⟨a, b, rfl, _⟩ := h x List.mem_cons_self
      show (decide (1 ≤ [a, b].length) && l.all fun y => decide (y.length = [a, b].length)) = true
      rw [show decide (1 ≤ [a, b].length) = true from rfl, Bool.true_and, List.all_eq_true]
      intro y hy
      obtain ⟨c, d, rfl, _⟩ := h y (List.mem_cons_of_mem _ hy)
      rfl
  have e3 : sortSetC (.list (l.map ofInts)) = .ok ((sortI l).map ofInts) := by
    unfold sortSetC
    dsimp only
    rw [et, e1, e2, List.length_map, decide_eq_true (show l.length < 64 by omega), if_pos (by rfl)]
  rw [ok_bind, e3, asL_ok, b2_ok]
  unfold eqD
  rw [shp_ofInts, shp_ofInts, if_pos (by rfl)]
  show Res.ok (PyData.bool (PyData.eqvAll (l.map ofInts) ((sortI l).map ofInts))) = _
  rw [eqvAll_ofInts]
  congr 2
  by_cases z : incr l = true
  · rw [z]; exact decide_eq_true ((sortI_fix h).mpr z)
  · rw [Bool.not_eq_true] at z
    rw [z]
    exact decide_eq_false fun y => by rw [(sortI_fix h).mp y] at z; cases z
theorem law_is_town_ok {d : PyData} {m k : Nat} (hm : m ≤ 60) (hk : k ≤ 60) (h : gd m k d = true) : F_law_is_town [d] = .ok (.bool (townOk d)) := by
  rw [F_law_is_town_eq]
  unfold m_law_is_town
  rw [ok_bind, isi_tuple (gd_notDic h), ok_bind, truD_bool, nt_ok]
  cases d with
  | tuple xs =>
    rw [show (!isTup (.tuple xs)) = false from rfl, orR_f, len_ne xs 2 2 rfl]
    by_cases e : xs.length = 2
    · obtain ⟨a, b, rfl⟩ := len2 e
      cases k with
      | zero => cases h
      | succ k =>
        obtain ⟨_, hg⟩ := gd_tup.mp h
        have ga := hg a (by simp)
        have gb := hg b (by simp)
        rw [idx_tup [a, b] 0 0 rfl rfl, idx_tup [a, b] 1 1 rfl rfl]
        rw [show (!decide ([a, b].length = 2)) = false from rfl, orR_f]
        simp only [allR_ok, allR_nil, ok_bind]
        rw [law_number_ok (gd_notDic ga)]
        simp only [ok_bind, truD_bool, nt_ok]
        by_cases q : numOk 1 5 a = true
        · obtain ⟨n, rfl, n1, n2⟩ := num_int q
          rw [q]
          simp only [ok_bind, Bool.not_true, Bool.false_eq_true, if_false]
          rw [isi_tuple (gd_notDic gb)]
          simp only [ok_bind, truD_bool, nt_ok]
          cases b with
          | tuple ws =>
            cases k with
            | zero => cases gb
            | succ k =>
              obtain ⟨hl, hw⟩ := gd_tup.mp gb
              rw [show (!isTup (.tuple ws)) = false from rfl]
              simp only [Bool.false_eq_true, if_false]
              rw [show lstD [] = .ok [] from rfl, ok_bind, show seqOf (.tuple ws) = .ok ws from rfl, ok_bind]
              have el := loop_town (ws := .tuple ws) hm (k := k) (by omega) n2 ws [] hw (by simp; omega)
              unfold body_town at el
              simp only [allR_ok, allR_nil, ok_bind] at el
              rw [show lstD [] = .ok [] from rfl] at el
              rw [idx_tup [.int n, .tuple ws] 0 0 rfl rfl] at el
              rw [el]
              show _ = Res.ok (PyData.bool (numOk 1 5 (.int n) && (ws.all (wayOk n) && incr (ws.map pairOf))))
              rw [q]
              by_cases z : ws.all (wayOk n) = true
              · rw [if_pos z, z, seqR_nx, List.nil_append]
                have sp := sort_pairs (l := ws.map pairOf) (fun x hx => by
                  obtain ⟨y, hy, rfl⟩ := List.mem_map.mp hx
                  obtain ⟨i, j, t, rfl, h1, h2, h3, h4, h5⟩ := wayOk_inv (List.all_eq_true.mp z y hy)
                  exact ⟨i, j, rfl, by omega, by omega⟩) (by rw [List.length_map]; omega)
                simp only [ok_bind] at sp
                rw [sp]
                rfl
              · rw [if_neg z, seqR_rt]
                rw [Bool.not_eq_true] at z
                rw [z]
                rfl
          | _ => rfl
        · rw [Bool.not_eq_true] at q
          rw [q]
          have : townOk (.tuple [a, b]) = false := by
            unfold townOk
            split
            · rename_i heq
              cases heq
              rw [q, Bool.false_and]
            · rfl
          rw [this]
          rfl
    · rw [show decide (xs.length = 2) = false from decide_eq_false e]
      have : townOk (.tuple xs) = false := by
        unfold townOk
        split
        · rename_i heq
          cases heq
          exact absurd rfl e
        · rfl
      rw [this]
      rfl
  | _ => rfl
end Lw

namespace Lw
open PySem PySem.Spec PyProof.Rows L2 Dt

def inW (xs : List Str) (d : PyData) : Bool := (xs.map PyData.str).any fun z => PyData.eqv z d
def W5 : List Str := ["there", "seen", "never", "met", "apart"]
def W2 : List Str := ["met", "apart"]
theorem inW_str {xs : List Str} {d : PyData} (h : inW xs d = true) : isStr d = true := by
  unfold inW at h
  obtain ⟨z, hz, e⟩ := List.any_eq_true.mp h
  obtain ⟨x, _, rfl⟩ := List.mem_map.mp hz
  cases d with
  | str y => rfl
  | _ => cases e
theorem in_eval {xs : List Str} {d : PyData} (h : shp d = true) (hx : shp (.tuple (xs.map PyData.str)) = true) : b2 inD (.ok d) (.ok (.tuple (xs.map PyData.str))) = .ok (.bool (inW xs d)) := by
  rw [b2_ok]
  show (if (shp d && shp (.tuple (xs.map PyData.str))) = true then Res.ok (PyData.bool (inW xs d)) else .stuck) = _
  rw [h, hx, if_pos (by rfl)]
theorem notIn_eval {xs : List Str} {d : PyData} (h : shp d = true) (hx : shp (.tuple (xs.map PyData.str)) = true) : b2 notInD (.ok d) (.ok (.tuple (xs.map PyData.str))) = .ok (.bool (!inW xs d)) := by
  rw [b2_ok]
  show (if (shp d && shp (.tuple (xs.map PyData.str))) = true then Res.ok (PyData.bool (!inW xs d)) else .stuck) = _
  rw [h, hx, if_pos (by rfl)]
theorem shp5 : shp (.tuple (W5.map PyData.str)) = true := by decide +kernel
theorem shp2 : shp (.tuple (W2.map PyData.str)) = true := by decide +kernel
theorem tupS (xs : List Str) (h : xs.length ≤ 60) : Dt.tupD (xs.map PyData.str) = .ok (.tuple (xs.map PyData.str)) := tupD_ok (by rw [List.length_map]; exact Nat.le_trans h big60)
theorem words5 : ((allR [(.ok (.str "there")), (.ok (.str "seen")), (.ok (.str "never")), (.ok (.str "met")), (.ok (.str "apart"))]) >>= Dt.tupD) = .ok (.tuple (W5.map PyData.str)) := tupS W5 (by decide)
theorem words2 : ((allR [(.ok (.str "met")), (.ok (.str "apart"))]) >>= Dt.tupD) = .ok (.tuple (W2.map PyData.str)) := tupS W2 (by decide)
def tellOk (n p l : Int) : PyData → Bool
  | .tuple [w, a, b, c, e] => inW W5 w && (numOk 0 (p - 1) a && (numOk 0 l c && (numOk (intV c) l e && (if inW W2 w = true then numOk 0 (p - 1) b && !decide (intV b = intV a) else numOk 0 (n - 1) b))))
  | _ => false
theorem tellOk_len {n p l : Int} {xs : List PyData} (h : xs.length ≠ 5) : tellOk n p l (.tuple xs) = false := by
  unfold tellOk
  split
  · rename_i heq
    cases heq
    exact absurd rfl h
  · rfl
theorem fits_ok {n p l : Int} {d : PyData} {m k : Nat} (hk : k ≤ 60) (h : gd m k d = true) : F_fits [.int n, .int p, .int l, d] = .ok (.bool (tellOk n p l d)) := by
  rw [F_fits_eq]
  unfold m_fits
  rw [ok_bind, isi_tuple (gd_notDic h), ok_bind, truD_bool, nt_ok]
  cases d with
  | tuple xs =>
    rw [show (!isTup (.tuple xs)) = false from rfl, orR_f, len_ne xs 5 5 rfl]
    by_cases e5 : xs.length = 5
    · obtain ⟨w, a, b, c, e, rfl⟩ := len5 e5
      cases k with
      | zero => cases h
      | succ k =>
        obtain ⟨_, hg⟩ := gd_tup.mp h
        have gw := hg w (by simp)
        have ha := gd_notDic (hg a (by simp))
        have hb := gd_notDic (hg b (by simp))
        have hc := gd_notDic (hg c (by simp))
        have he := gd_notDic (hg e (by simp))
        have sw := gd_shp gw (by omega)
        rw [idx_tup [w, a, b, c, e] 0 0 rfl rfl, ok_bind, isi_str (gd_notDic gw), ok_bind, truD_bool, nt_ok, show (!decide ([w, a, b, c, e].length = 5)) = false from rfl, orR_f]
        have n5 := notIn_eval sw shp5
        have n2 := in_eval sw shp2
        unfold W5 at n5
        unfold W2 at n2
        rw [n5]
        show _ = Res.ok (PyData.bool (inW W5 w && (numOk 0 (p - 1) a && (numOk 0 l c && (numOk (intV c) l e && (if inW W2 w = true then numOk 0 (p - 1) b && !decide (intV b = intV a) else numOk 0 (n - 1) b))))))
        by_cases q : inW W5 w = true
        · have hq : inW ["there", "seen", "never", "met", "apart"] w = true := q
          rw [inW_str q, q, hq]
          simp only [Bool.not_true, orR_f, ok_bind, boolD_bool, Bool.false_eq_true, if_false]
          show finR (do
            let z ← orR (nt (((allR [(.ok a), (.ok (.int 0)), (b2 subD (.ok (.int p)) (.ok (.int 1)))]) >>= F_is_number) >>= truD)) (orR (nt (((allR [(.ok c), (.ok (.int 0)), (.ok (.int l))]) >>= F_is_number) >>= truD)) (nt (((allR [(.ok e), (.ok c), (.ok (.int l))]) >>= F_is_number) >>= truD)))
            if z = true then onlyR (retR (.ok (.bool false))) else ((b2 inD (.ok w) (.ok (.tuple ([("met" : Str), ("apart" : Str)].map PyData.str))) >>= boolD) >>= fun z => if z = true then onlyR (retR (andV ((allR [(.ok b), (.ok (.int 0)), (b2 subD (.ok (.int p)) (.ok (.int 1)))]) >>= F_is_number) (b2 neD (.ok b) (.ok a)))) else (retR ((allR [(.ok b), (.ok (.int 0)), (b2 subD (.ok (.int n)) (.ok (.int 1)))]) >>= F_is_number)))) = _
          rw [n2]
          simp only [allR_ok, allR_nil, ok_bind, b2_ok, subI, boolD_bool]
          rw [is_number_ok ha, is_number_ok hc, is_number_ok hb, is_number_ok hb]
          simp only [ok_bind, truD_bool, nt_ok]
          by_cases q1 : numOk 0 (p - 1) a = true
          · obtain ⟨i, rfl, _, _⟩ := num_int q1
            by_cases q2 : numOk 0 l c = true
            · obtain ⟨j, rfl, _, _⟩ := num_int q2
              rw [is_number_ok he, q1, q2]
              simp only [ok_bind, truD_bool, nt_ok, Bool.not_true, orR_f, Bool.true_and]
              show finR ((if (!numOk j l e) = true then _ else _)) = Res.ok (PyData.bool (numOk j l e && _))
              by_cases q3 : numOk j l e = true
              · rw [q3]
                simp only [Bool.not_true, Bool.false_eq_true, if_false, Bool.true_and]
                show finR (if inW W2 w = true then _ else _) = _
                by_cases q4 : inW W2 w = true
                · rw [if_pos q4, if_pos q4, andV_bool]
                  by_cases q5 : numOk 0 (p - 1) b = true
                  · obtain ⟨t, rfl, _, _⟩ := num_int q5
                    rw [q5, neI]
                    rfl
                  · rw [Bool.not_eq_true] at q5
                    rw [q5]
                    rfl
                · rw [if_neg q4, if_neg q4]
                  rfl
              · rw [Bool.not_eq_true] at q3
                rw [q3]
                rfl
            · rw [Bool.not_eq_true] at q2
              rw [q1, q2]
              rfl
          · rw [Bool.not_eq_true] at q1
            rw [q1]
            rfl
        · rw [Bool.not_eq_true] at q
          have hq : inW ["there", "seen", "never", "met", "apart"] w = false := q
          rw [q, hq]
          cases isStr w <;> rfl
    · rw [show decide (xs.length = 5) = false from decide_eq_false e5, tellOk_len e5]
      rfl
  | _ => rfl
theorem ge_ints (i j : Int) : b2 geD (.ok (.int i)) (.ok (.int j)) = .ok (.bool (decide (j ≤ i))) := rfl
theorem law_is_telling_ok {n p l : Int} {r : List PyData} {x d : PyData} {m k : Nat} (hm : m ≤ 60) (hk : k ≤ 60) (h : gd m k d = true) (hn : n ≤ 10) (hp : p ≤ 10) (hl : l ≤ 9) :
    F_law_is_telling [.tuple [.tuple (.int n :: r), .int p, .int l, x], d] = .ok (.bool (tellOk n p l d)) := by
  rw [F_law_is_telling_eq]
  unfold m_law_is_telling
  rw [ok_bind, isi_tuple (gd_notDic h), ok_bind, truD_bool, nt_ok]
  cases d with
  | tuple xs =>
    rw [show (!isTup (.tuple xs)) = false from rfl, orR_f, len_ne xs 5 5 rfl]
    by_cases e5 : xs.length = 5
    · obtain ⟨w, a, b, c, e, rfl⟩ := len5 e5
      cases k with
      | zero => cases h
      | succ k =>
        obtain ⟨hlen, hg⟩ := gd_tup.mp h
        have gw := hg w (by simp)
        have sw := gd_shp gw (by omega)
        rw [words5, words2]
        rw [idx_tup [w, a, b, c, e] 0 0 rfl rfl, idx_tup [w, a, b, c, e] 1 1 rfl rfl, idx_tup [w, a, b, c, e] 2 2 rfl rfl, idx_tup [w, a, b, c, e] 3 3 rfl rfl, idx_tup [w, a, b, c, e] 4 4 rfl rfl, show (!decide ([w, a, b, c, e].length = 5)) = false from rfl, orR_f,
          idx_tup [.tuple (.int n :: r), .int p, .int l, x] 0 0 rfl rfl, idx_tup [.tuple (.int n :: r), .int p, .int l, x] 1 1 rfl rfl, idx_tup [.tuple (.int n :: r), .int p, .int l, x] 2 2 rfl rfl, idx_tup (.int n :: r) 0 0 rfl rfl]
        rw [notIn_eval sw shp5, in_eval sw shp2, sl_from [w, a, b, c, e] 1 1 rfl]
        show _ = Res.ok (PyData.bool (inW W5 w && (numOk 0 (p - 1) a && (numOk 0 l c && (numOk (intV c) l e && (if inW W2 w = true then numOk 0 (p - 1) b && !decide (intV b = intV a) else numOk 0 (n - 1) b))))))
        by_cases q : inW W5 w = true
        · rw [q]
          simp only [Bool.not_true, ok_bind, boolD_bool, Bool.false_eq_true, if_false, Bool.true_and]
          rw [show seqOf (.tuple (List.drop 1 [w, a, b, c, e])) = .ok [a, b, c, e] from rfl]
          rw [bad_nums hm (k := k) (by omega) (by simp at hlen ⊢; omega) fun y hy => hg y (List.mem_cons_of_mem _ hy)]
          by_cases q1 : [a, b, c, e].all (numOk 0 9) = true
          · rw [q1]
            simp only [List.all_cons, List.all_nil, Bool.and_true, Bool.and_eq_true] at q1
            obtain ⟨i, rfl, i1, i2⟩ := num_int q1.1
            obtain ⟨j, rfl, j1, j2⟩ := num_int q1.2.1
            obtain ⟨s, rfl, s1, s2⟩ := num_int q1.2.2.1
            obtain ⟨t, rfl, t1, t2⟩ := num_int q1.2.2.2
            rw [show (!true) = false from rfl, orR_f, ge_ints, chain_le]
            simp only [ok_bind, boolD_bool, nt_ok, b2_ok, ltI, neI, andV_bool]
            show _ = Res.ok (PyData.bool ((decide (0 ≤ i) && decide (i ≤ p - 1)) && ((decide (0 ≤ s) && decide (s ≤ l)) && ((decide (s ≤ t) && decide (t ≤ l)) && (if inW W2 w = true then (decide (0 ≤ j) && decide (j ≤ p - 1)) && !decide (j = i) else (decide (0 ≤ j) && decide (j ≤ n - 1)))))))
            rw [decide_eq_true i1, decide_eq_true j1, decide_eq_true s1]
            simp only [Bool.true_and]
            by_cases z1 : i ≤ p - 1
            · rw [decide_eq_true z1, decide_eq_false (show ¬ p ≤ i by omega)]
              simp only [Bool.false_eq_true, if_false, Bool.true_and]
              by_cases z2 : s ≤ t ∧ t ≤ l
              · rw [decide_eq_true z2.1, decide_eq_true z2.2, decide_eq_true (show s ≤ l by omega)]
                simp only [Bool.and_self, Bool.not_true, Bool.false_eq_true, if_false, Bool.true_and]
                by_cases q4 : inW W2 w = true
                · rw [if_pos q4, if_pos q4]
                  by_cases z3 : j ≤ p - 1
                  · rw [decide_eq_true z3, decide_eq_true (show j < p by omega)]
                    rfl
                  · rw [decide_eq_false z3, decide_eq_false (show ¬ j < p by omega)]
                    rfl
                · rw [if_neg q4, if_neg q4]
                  by_cases z3 : j ≤ n - 1
                  · rw [decide_eq_true z3, decide_eq_true (show j < n by omega)]
                    rfl
                  · rw [decide_eq_false z3, decide_eq_false (show ¬ j < n by omega)]
                    rfl
              · rw [show (decide (s ≤ t) && decide (t ≤ l)) = false by rw [← Bool.decide_and]; exact decide_eq_false z2]
                simp only [Bool.not_false, if_true, Bool.false_and, Bool.and_false]
                rfl
            · rw [decide_eq_false z1, decide_eq_true (show p ≤ i by omega)]
              rfl
          · have z : (numOk 0 (p - 1) a && (numOk 0 l c && (numOk (intV c) l e && (if inW W2 w = true then numOk 0 (p - 1) b && !decide (intV b = intV a) else numOk 0 (n - 1) b)))) = false := by
              rw [← Bool.not_eq_true]
              intro y
              simp only [Bool.and_eq_true] at y
              obtain ⟨y1, y2, y3, y4⟩ := y
              obtain ⟨i, rfl, _, _⟩ := num_int y1
              obtain ⟨s, rfl, _, _⟩ := num_int y2
              obtain ⟨t, rfl, t1, _⟩ := num_int y3
              have t1 : s ≤ t := t1
              have y5 : ∃ j, b = .int j ∧ 0 ≤ j ∧ j ≤ 9 := by
                split at y4
                · obtain ⟨j, e, h1, h2⟩ := num_int (Bool.and_eq_true_iff.mp y4).1
                  exact ⟨j, e, h1, by omega⟩
                · obtain ⟨j, e, h1, h2⟩ := num_int y4
                  exact ⟨j, e, h1, by omega⟩
              obtain ⟨j, rfl, _, _⟩ := y5
              apply q1
              show ((decide (0 ≤ i) && decide (i ≤ 9)) && ((decide (0 ≤ j) && decide (j ≤ 9)) && ((decide (0 ≤ s) && decide (s ≤ 9)) && ((decide (0 ≤ t) && decide (t ≤ 9)) && true)))) = true
              simp only [Bool.and_eq_true, decide_eq_true_eq]
              exact ⟨⟨by omega, by omega⟩, ⟨by omega, by omega⟩, ⟨by omega, by omega⟩, ⟨by omega, by omega⟩, trivial⟩
            rw [Bool.not_eq_true] at q1
            rw [q1, z]
            rfl
        · rw [Bool.not_eq_true] at q
          rw [q]
          rfl
    · rw [show decide (xs.length = 5) = false from decide_eq_false e5, tellOk_len e5]
      rfl
  | _ => rfl
end Lw

namespace Lw
open PySem PySem.Spec PyProof.Rows L2 Dt

def townN : PyData → Int
  | .tuple (n :: _) => intV n
  | _ => 0
def caseOk : PyData → Bool
  | .tuple [t, p, l, .tuple ts] => townOk t && ((numOk 1 3 p && numOk 0 9 l) && (decide (ts.length ≤ 6) && ts.all (tellOk (townN t) (intV p) (intV l))))
  | _ => false
theorem townOk_inv {d : PyData} (h : townOk d = true) : ∃ n ws, d = .tuple [.int n, .tuple ws] ∧ 1 ≤ n ∧ n ≤ 5 ∧ ws.all (wayOk n) = true ∧ incr (ws.map pairOf) = true := by
  unfold townOk at h
  split at h
  · rename_i n ws
    rw [Bool.and_eq_true, Bool.and_eq_true] at h
    obtain ⟨i, rfl, h1, h2⟩ := num_int h.1
    exact ⟨i, ws, rfl, h1, h2, h.2.1, h.2.2⟩
  · cases h
theorem caseOk_len {xs : List PyData} (h : xs.length ≠ 4) : caseOk (.tuple xs) = false := by
  unfold caseOk
  split
  · rename_i heq
    cases heq
    exact absurd rfl h
  · rfl
theorem gt6 (xs : List PyData) : (b2 gtD ((allR [(.ok (.tuple xs))]) >>= lenC) (.ok (.int 6)) >>= boolD) = .ok (!decide (xs.length ≤ 6)) := by
  show Res.ok (decide ((6 : Int) < (xs.length : Nat))) = _
  congr 1
  rw [← decide_not]
  exact decide_eq_decide.mpr (by omega)
theorem fil_empty (p : PyData → Bool) : ∀ xs : List PyData, (xs.filter fun d => !p d).isEmpty = xs.all p
  | [] => rfl
  | d :: ds => by
    rw [List.filter_cons, List.all_cons]
    cases p d
    · rfl
    · simpa using fil_empty p ds
theorem is_case_ok {d : PyData} {m k : Nat} (hm : m ≤ 60) (hk : k ≤ 60) (h : gd m k d = true) : F_is_case [d] = .ok (.bool (caseOk d)) := by
  rw [F_is_case_eq]
  unfold m_is_case
  rw [ok_bind, isi_tuple (gd_notDic h), ok_bind, truD_bool, nt_ok]
  cases d with
  | tuple xs =>
    rw [show (!isTup (.tuple xs)) = false from rfl, orR_f, len_ne xs 4 4 rfl]
    by_cases e4 : xs.length = 4
    · obtain ⟨t, p, l, ts, rfl⟩ := len4 e4
      cases k with
      | zero => cases h
      | succ k =>
        obtain ⟨_, hg⟩ := gd_tup.mp h
        have gt := hg t (by simp)
        have hp := gd_notDic (hg p (by simp))
        have hl := gd_notDic (hg l (by simp))
        have gs := hg ts (by simp)
        rw [idx_tup [t, p, l, ts] 0 0 rfl rfl, show (!decide ([t, p, l, ts].length = 4)) = false from rfl, orR_f]
        simp only [allR_ok, allR_nil, ok_bind]
        rw [is_town_ok hm gt]
        simp only [ok_bind, truD_bool, nt_ok]
        by_cases q : townOk t = true
        · obtain ⟨n, ws, rfl, n1, n2, _⟩ := townOk_inv q
          rw [q]
          simp only [Bool.not_true, Bool.false_eq_true, if_false]
          show finR (do
            let z ← orR (nt (F_is_number [p, .int 1, .int 3] >>= truD)) (nt (F_is_number [l, .int 0, .int 9] >>= truD))
            if z = true then onlyR (retR (.ok (.bool false))) else ((orR (nt (((.ok ts) >>= isiD "tuple") >>= truD)) (b2 gtD ((allR [(.ok ts)]) >>= lenC) (.ok (.int 6)) >>= boolD)) >>= fun z => if z = true then onlyR (retR (.ok (.bool false))) else (retR ((allR [(asL (comR ((.ok ts) >>= seqOf) (fun d_7 => cel (.ok true) ((allR [(b2 idxD (.ok (.tuple [.int n, .tuple ws])) (.ok (.int 0))), (.ok p), (.ok l), (.ok d_7)]) >>= F_fits))))]) >>= allC)))) = _
          have it : ((Res.ok ts) >>= isiD "tuple") = .ok (.bool (isTup ts)) := isi_tuple (gd_notDic gs)
          rw [is_number_ok hp, is_number_ok hl, it, idx_tup [.int n, .tuple ws] 0 0 rfl rfl]
          simp only [ok_bind, truD_bool, nt_ok]
          by_cases q1 : numOk 1 3 p = true
          · obtain ⟨i, rfl, _, _⟩ := num_int q1
            by_cases q2 : numOk 0 9 l = true
            · obtain ⟨j, rfl, _, _⟩ := num_int q2
              rw [q1, q2]
              simp only [Bool.not_true, orR_f, ok_bind, Bool.false_eq_true, if_false]
              cases ts with
              | tuple ts =>
                rw [show (!isTup (.tuple ts)) = false from rfl, orR_f, gt6]
                show _ = Res.ok (PyData.bool (townOk (.tuple [.int n, .tuple ws]) && ((numOk 1 3 (.int i) && numOk 0 9 (.int j)) && (decide (ts.length ≤ 6) && ts.all (tellOk n i j)))))
                rw [q, q1, q2]
                by_cases q3 : ts.length ≤ 6
                · rw [decide_eq_true q3]
                  simp only [Bool.not_true, ok_bind, Bool.false_eq_true, if_false, Bool.true_and]
                  cases k with
                  | zero => cases gs
                  | succ k =>
                    obtain ⟨hls, hgs⟩ := gd_tup.mp gs
                    rw [show seqOf (.tuple ts) = .ok ts from rfl, comR_map (f := fun d => .bool (tellOk n i j d)) (Nat.le_trans (by omega) big60) fun d hd => by
                      simp only [allR_ok, allR_nil, ok_bind]
                      rw [fits_ok (k := k) (by omega) (hgs d hd), cel_t]]
                    rw [all_map]
                    rfl
                · rw [decide_eq_false q3]
                  rfl
              | _ => rfl
            · rw [Bool.not_eq_true] at q2
              have : caseOk (.tuple [.tuple [.int n, .tuple ws], .int i, l, ts]) = false := by
                unfold caseOk
                split
                · rename_i heq
                  cases heq
                  rw [q2]
                  simp
                · rfl
              rw [q1, q2, this]
              rfl
          · rw [Bool.not_eq_true] at q1
            have : caseOk (.tuple [.tuple [.int n, .tuple ws], p, l, ts]) = false := by
              unfold caseOk
              split
              · rename_i heq
                cases heq
                rw [q1]
                simp
              · rfl
            rw [q1, this]
            rfl
        · rw [Bool.not_eq_true] at q
          have : caseOk (.tuple [t, p, l, ts]) = false := by
            unfold caseOk
            split
            · rename_i heq
              cases heq
              rw [q, Bool.false_and]
            · rfl
          rw [q, this]
          rfl
    · rw [show decide (xs.length = 4) = false from decide_eq_false e4, caseOk_len e4]
      rfl
  | _ => rfl
theorem law_is_case_ok {d : PyData} {m k : Nat} (hm : m ≤ 60) (hk : k ≤ 60) (h : gd m k d = true) : F_law_is_case [d] = .ok (.bool (caseOk d)) := by
  rw [F_law_is_case_eq]
  unfold m_law_is_case
  rw [ok_bind, isi_tuple (gd_notDic h), ok_bind, truD_bool, nt_ok]
  cases d with
  | tuple xs =>
    rw [show (!isTup (.tuple xs)) = false from rfl, orR_f, len_ne xs 4 4 rfl]
    by_cases e4 : xs.length = 4
    · obtain ⟨t, p, l, ts, rfl⟩ := len4 e4
      cases k with
      | zero => cases h
      | succ k =>
        obtain ⟨_, hg⟩ := gd_tup.mp h
        have gt := hg t (by simp)
        have hp := gd_notDic (hg p (by simp))
        have hl := gd_notDic (hg l (by simp))
        have gs := hg ts (by simp)
        rw [idx_tup [t, p, l, ts] 0 0 rfl rfl, idx_tup [t, p, l, ts] 1 1 rfl rfl, idx_tup [t, p, l, ts] 2 2 rfl rfl, idx_tup [t, p, l, ts] 3 3 rfl rfl, show (!decide ([t, p, l, ts].length = 4)) = false from rfl, orR_f]
        simp only [allR_ok, allR_nil, ok_bind]
        rw [law_is_town_ok hm (k := k) (by omega) gt]
        simp only [ok_bind, truD_bool, nt_ok]
        by_cases q : townOk t = true
        · obtain ⟨n, ws, rfl, n1, n2, _⟩ := townOk_inv q
          rw [q]
          simp only [Bool.not_true, Bool.false_eq_true, if_false]
          rw [law_number_ok hp, law_number_ok hl, isi_tuple (gd_notDic gs)]
          simp only [ok_bind, truD_bool, nt_ok]
          by_cases q1 : numOk 1 3 p = true
          · obtain ⟨i, rfl, _, _⟩ := num_int q1
            by_cases q2 : numOk 0 9 l = true
            · obtain ⟨j, rfl, _, _⟩ := num_int q2
              rw [q1, q2]
              simp only [Bool.not_true, orR_f, ok_bind, Bool.false_eq_true, if_false]
              cases ts with
              | tuple ts =>
                have g6 := gt6 ts
                simp only [allR_ok, allR_nil, ok_bind] at g6
                rw [show (!isTup (.tuple ts)) = false from rfl, orR_f, g6]
                show _ = Res.ok (PyData.bool (townOk (.tuple [.int n, .tuple ws]) && ((numOk 1 3 (.int i) && numOk 0 9 (.int j)) && (decide (ts.length ≤ 6) && ts.all (tellOk n i j)))))
                rw [q, q1, q2]
                by_cases q3 : ts.length ≤ 6
                · rw [decide_eq_true q3]
                  simp only [Bool.not_true, ok_bind, Bool.false_eq_true, if_false, Bool.true_and]
                  cases k with
                  | zero => cases gs
                  | succ k =>
                    obtain ⟨hls, hgs⟩ := gd_tup.mp gs
                    rw [show seqOf (.tuple ts) = .ok ts from rfl, comR_fil (p := fun d => !tellOk n i j d) (Nat.le_trans (by omega) big60) fun d hd => by
                      rw [law_is_telling_ok hm (k := k) (by omega) (hgs d hd) (by omega) (by omega) (by omega)]
                      simp only [ok_bind, truD_bool, nt_ok]
                      cases tellOk n i j d <;> rfl]
                    rw [asL_ok]
                    have en := eq_nil (gd_shp (gd_fil (fun d => !tellOk n i j d) hls hgs) (by omega))
                    simp only [allR_nil, ok_bind] at en
                    rw [en]
                    show Res.ok (PyData.bool (List.filter (fun d => !tellOk n i j d) ts).isEmpty) = _
                    rw [fil_empty]
                · rw [decide_eq_false q3]
                  rfl
              | _ => rfl
            · rw [Bool.not_eq_true] at q2
              have : caseOk (.tuple [.tuple [.int n, .tuple ws], .int i, l, ts]) = false := by
                unfold caseOk
                split
                · rename_i heq
                  cases heq
                  rw [q2]
                  simp
                · rfl
              rw [q1, q2, this]
              rfl
          · rw [Bool.not_eq_true] at q1
            have : caseOk (.tuple [.tuple [.int n, .tuple ws], p, l, ts]) = false := by
              unfold caseOk
              split
              · rename_i heq
                cases heq
                rw [q1]
                simp
              · rfl
            rw [q1, this]
            rfl
        · rw [Bool.not_eq_true] at q
          have : caseOk (.tuple [t, p, l, ts]) = false := by
            unfold caseOk
            split
            · rename_i heq
              cases heq
              rw [q, Bool.false_and]
            · rfl
          rw [q, this]
          rfl
    · rw [show decide (xs.length = 4) = false from decide_eq_false e4, caseOk_len e4]
      rfl
  | _ => rfl
end Lw

namespace Lw
open PySem PySem.Spec PyProof.Rows L2 Dt

/-! ### towns that are drawn -/
structure Ways (n : Int) (c : Int) (l : Nat) (ws : List PyData) : Prop where
  ok : ∀ w ∈ ws, wayOk n w = true
  inc : incr (ws.map pairOf) = true
  lt : ∀ w ∈ ws, _root_.TS.code 4096 (pairOf w) < c
  len : ws.length ≤ l
theorem way_pair {n : Int} {w : PyData} (h : wayOk n w = true) (h5 : n ≤ 5) : pairOk (pairOf w) := by
  obtain ⟨i, j, t, rfl, h1, h2, h3, h4, h5⟩ := wayOk_inv h
  exact ⟨i, j, rfl, by omega, by omega⟩
theorem Ways.add {n c c' : Int} {l : Nat} {ws : List PyData} {i j t : Int} (h : Ways n c l ws) (h5 : n ≤ 5) (hw : wayOk n (.tuple [.int i, .int j, .int t]) = true) (hc : c ≤ i * 4096 + j) (hc' : i * 4096 + j < c') :
    Ways n c' (l + 1) (ws ++ [.tuple [.int i, .int j, .int t]]) := by
  have pk : ∀ x ∈ ws.map pairOf, pairOk x := fun x hx => by
    obtain ⟨w, hw, rfl⟩ := List.mem_map.mp hx
    exact way_pair (h.ok w hw) h5
  have pn : pairOk [i, j] := way_pair hw h5
  refine ⟨fun w hw' => ?_, ?_, fun w hw' => ?_, by rw [List.length_append]; have := h.len; simp; omega⟩
  · rcases List.mem_append.mp hw' with e | e
    · exact h.ok w e
    · rw [List.mem_singleton.mp e]; exact hw
  · rw [List.map_append]
    show incr (ws.map pairOf ++ [[i, j]]) = true
    rw [incr_pw fun x hx => (List.mem_append.mp hx).elim (pk x) fun e => by rw [List.mem_singleton.mp e]; exact pn]
    refine List.pairwise_append.mpr ⟨(incr_pw pk).mp h.inc, List.pairwise_singleton _ _, fun x hx y hy => ?_⟩
    rw [List.mem_singleton.mp hy, code2]
    obtain ⟨w, hw, rfl⟩ := List.mem_map.mp hx
    exact Int.lt_of_lt_of_le (h.lt w hw) hc
  · rcases List.mem_append.mp hw' with e | e
    · have := h.lt w e
      omega
    · rw [List.mem_singleton.mp e]
      show _root_.TS.code 4096 [i, j] < c'
      rw [code2]
      exact hc'
theorem Ways.up {n c c' : Int} {l l' : Nat} {ws : List PyData} (h : Ways n c l ws) (hc : c ≤ c') (hl : l ≤ l') : Ways n c' l' ws :=
  ⟨h.ok, h.inc, fun w hw => Int.lt_of_lt_of_le (h.lt w hw) hc, Nat.le_trans h.len hl⟩
theorem one_of_three (d : Int) (h : 0 ≤ d ∧ d < 3) : ∃ t, b2 idxD (asL ((allR [(.ok (.int 1)), (.ok (.int 1)), (.ok (.int 2))]) >>= lstD)) (.ok (.int d)) = .ok (.int t) ∧ 1 ≤ t ∧ t ≤ 2 := by
  have e : asL ((allR [(.ok (.int 1)), (.ok (.int 1)), (.ok (.int 2))]) >>= lstD) = .ok (.list [.int 1, .int 1, .int 2]) := by
    show asL (lstD [.int 1, .int 1, .int 2]) = _
    rw [lstD_ok (Nat.le_trans (by decide) big60)]
    rfl
  rw [e, b2_ok]
  have hd : d = 0 ∨ d = 1 ∨ d = 2 := by omega
  rcases hd with rfl | rfl | rfl
  · exact ⟨1, rfl, by decide, by decide⟩
  · exact ⟨1, rfl, by decide, by decide⟩
  · exact ⟨2, rfl, by decide, by decide⟩
def town_in (scr at' one other : PyData) (st_8 : List PyData) : Res (Out (List PyData)) :=
  ((b2 gtD ((allR [(.ok scr), (b2 addD (b2 addD (b2 addD (.ok at') (.ok (.int 1))) (b2 mulD (.ok (.int 4)) (.ok one))) (.ok other)), (.ok (.int 4))]) >>= F_law_drawn) (.ok (.int 0)) >>= boolD) >>= fun z => seqR (if z = true then (((allR [(.ok one), (.ok other), (b2 idxD (asL ((allR [(.ok (.int 1)), (.ok (.int 1)), (.ok (.int 2))]) >>= lstD)) ((allR [(.ok scr), (b2 addD (b2 addD (b2 addD (.ok at') (.ok (.int 20))) (b2 mulD (.ok (.int 4)) (.ok one))) (.ok other)), (.ok (.int 3))]) >>= F_law_drawn))]) >>= Dt.tupD) >>= fun d_11 => appR st_8 d_11 >>= fun law_ways_12 => (.ok (.nx law_ways_12))) else (.ok (.nx st_8))) fun (st_10 : List PyData) => (.ok (.nx st_10)))
def town_out (scr at' many one : PyData) (st_6 : List PyData) : Res (Out (List PyData)) :=
  (((allR [(b2 addD (.ok one) (.ok (.int 1))), (.ok many)]) >>= rng2) >>= fun ds => seqR (forD ds st_6 fun d_9 (st_8 : List PyData) => town_in scr at' one d_9 st_8) fun (st_8 : List PyData) => (.ok (.nx st_8)))
theorem town_in_ok (ns : List Int) (hl : ns.length ≤ 63) (at' n i j : Int) {l : Nat} {ws : List PyData} (h : Ways n (i * 4096 + j) l ws) (h5 : n ≤ 5) (hi : 0 ≤ i) (hij : i < j) (hj : j < n) (hs : l < 60) :
    ∃ ws', town_in (scrD ns) (.int at') (.int i) (.int j) ws = .ok (.nx ws') ∧ Ways n (i * 4096 + (j + 1)) (l + 1) ws' := by
  unfold town_in
  obtain ⟨d1, e1, h1a, h1b⟩ := drawn_ok ns hl (at' + 1 + 4 * i + j) 4 (by decide)
  obtain ⟨d2, e2, h2a, h2b⟩ := drawn_ok ns hl (at' + 20 + 4 * i + j) 3 (by decide)
  obtain ⟨t, e3, t1, t2⟩ := one_of_three d2 ⟨h2a, h2b⟩
  simp only [b2_ok, addI, ok_bind]
  rw [mul_small (.inl (by decide))]
  simp only [ok_bind, b2_ok, addI, allR_ok, allR_nil, e1, e2, gtI, boolD_bool]
  simp only [allR_ok, allR_nil, ok_bind] at e3
  by_cases z : 0 < d1
  · rw [decide_eq_true z, if_pos (by rfl), e3]
    simp only [allR_ok, allR_nil, ok_bind, tD3]
    rw [appR_ok (Nat.lt_of_lt_of_le (Nat.lt_of_le_of_lt h.len hs) big60)]
    refine ⟨_, rfl, h.add h5 ?_ (Int.le_refl _) (by omega)⟩
    show ((decide (0 ≤ i) && decide (i ≤ n - 1)) && ((decide (i + 1 ≤ j) && decide (j ≤ n - 1)) && (decide (1 ≤ t) && decide (t ≤ 4)))) = true
    simp only [Bool.and_eq_true, decide_eq_true_eq]
    exact ⟨⟨hi, by omega⟩, ⟨by omega, by omega⟩, t1, by omega⟩
  · rw [decide_eq_false z, if_neg (by decide)]
    exact ⟨ws, rfl, h.up (by omega) (by omega)⟩
theorem town_out_ok (ns : List Int) (hl : ns.length ≤ 63) (at' n i : Int) {l : Nat} {ws : List PyData} (h : Ways n (i * 4096) l ws) (h5 : n ≤ 5) (hi : 0 ≤ i) (hn : i < n) (hs : l ≤ 50) :
    ∃ ws', town_out (scrD ns) (.int at') (.int n) (.int i) ws = .ok (.nx ws') ∧ Ways n ((i + 1) * 4096) (l + 5) ws' := by
  unfold town_out
  have er : rng2 [.int (i + 1), .int n] = .ok (rangeL (i + 1) (n - (i + 1)).toNat) := by
    show (if (-(2 ^ 62) ≤ (i + 1) ∧ (i + 1) < 2 ^ 62) ∧ -(2 ^ 62) ≤ n ∧ n < 2 ^ 62 then Res.ok (rangeL (i + 1) (n - (i + 1)).toNat) else .stuck) = _
    rw [if_pos (by omega)]
  simp only [b2_ok, addI, ok_bind, allR_ok, allR_nil, er]
  obtain ⟨ws', ew, hw⟩ := forD_range (f := fun d_9 (st_8 : List PyData) => town_in (scrD ns) (.int at') (.int i) d_9 st_8) (fun (j : Int) (ws : List PyData) => Ways n (i * 4096 + j) (l + (j - (i + 1)).toNat) ws) (i + 1) (n - (i + 1)).toNat ws (h.up (by omega) (by omega)) fun j ws2 j1 j2 h2 => by
    obtain ⟨ws3, e3, h3⟩ := town_in_ok ns hl at' n i j h2 h5 hi (by omega) (by omega) (by omega)
    exact ⟨ws3, e3, h3.up (by omega) (by omega)⟩
  rw [ew, seqR_nx]
  exact ⟨ws', rfl, hw.up (by omega) (by omega)⟩
theorem town_ok (ns : List Int) (hl : ns.length ≤ 63) (at' most : Int) (h0 : 0 < most) (h5 : most ≤ 5) :
    ∃ n ws, F_law_town [scrD ns, .int at', .int most] = .ok (.tuple [.int n, .tuple ws]) ∧ 1 ≤ n ∧ n ≤ most ∧ Ways n (n * 4096) (n.toNat * 5) ws := by
  rw [F_law_town_eq]
  unfold m_law_town
  obtain ⟨d0, e0, d0a, d0b⟩ := drawn_ok ns hl at' most h0
  simp only [allR_ok, allR_nil, ok_bind, e0, b2_ok, addI]
  rw [lstD_ok (Nat.zero_le _)]
  simp only [ok_bind]
  generalize hn : (1 + d0 : Int) = n
  have n1 : 1 ≤ n := by omega
  have n2 : n ≤ 5 := by omega
  have er : rng1 [.int n] = .ok (rangeL 0 n.toNat) := by
    show (if -(2 ^ 62) ≤ n ∧ n < 2 ^ 62 then Res.ok (rangeL 0 n.toNat) else .stuck) = _
    rw [if_pos (by omega)]
  rw [er]
  simp only [ok_bind]
  obtain ⟨ws, ew, hw⟩ := forD_range (f := fun d_7 (st_6 : List PyData) => town_out (scrD ns) (.int at') (.int n) d_7 st_6) (fun (i : Int) (ws : List PyData) => Ways n (i * 4096) (i.toNat * 5) ws)
    0 n.toNat [] ⟨fun w h => (by cases h), rfl, fun w h => (by cases h), Nat.zero_le _⟩ fun i ws2 h1 h2 h3 => by
    obtain ⟨ws3, e3, h3⟩ := town_out_ok ns hl at' n i h3 n2 h1 (by omega) (by omega)
    exact ⟨ws3, e3, h3.up (by omega) (by omega)⟩
  unfold town_out town_in at ew
  try simp only [allR_ok, allR_nil, ok_bind, b2_ok, addI] at ew
  rw [ew, seqR_nx]
  rw [show tupC [.list ws] = .ok (.tuple ws) from rfl]
  simp only [allR_ok, allR_nil, ok_bind, tD2]
  refine ⟨n, ws, rfl, n1, by omega, hw.up (by omega) (by omega)⟩
end Lw

namespace Lw
open PySem PySem.Spec PyProof.Rows L2 Dt

/-! ### tellings and cases that are drawn -/
def L6 : List PyData := [.str "there", .str "seen", .str "seen", .str "never", .str "met", .str "apart"]
theorem words_cut (p : Int) (h1 : 1 ≤ p) : (sl3 (asL ((allR [(.ok (.str "there")), (.ok (.str "seen")), (.ok (.str "seen")), (.ok (.str "never")), (.ok (.str "met")), (.ok (.str "apart"))]) >>= lstD)) (.ok none) ((b2 addD (.ok (.int 4)) (b2 mulD (.ok (.int 2)) ((allR [(b2 gtD (.ok (.int p)) (.ok (.int 1)))]) >>= intC))) >>= partD)) = .ok (.list (L6.take (if 1 < p then 6 else 4))) := by
  have e : asL ((allR [(.ok (.str "there")), (.ok (.str "seen")), (.ok (.str "seen")), (.ok (.str "never")), (.ok (.str "met")), (.ok (.str "apart"))]) >>= lstD) = .ok (.list L6) := by
    show asL (lstD L6) = _
    rw [lstD_ok (Nat.le_trans (show 6 ≤ 60 by decide) big60)]
    rfl
  rw [e]
  have e2 : b2 addD (.ok (.int 4)) (b2 mulD (.ok (.int 2)) ((allR [(b2 gtD (.ok (.int p)) (.ok (.int 1)))]) >>= intC)) = .ok (.int (((if 1 < p then 6 else 4 : Nat)) : Int)) := by
    by_cases z : 1 < p
    · have : b2 gtD (.ok (.int p)) (.ok (.int 1)) = .ok (.bool true) := by rw [b2_ok, gtI, decide_eq_true z]
      rw [this, if_pos z]
      rfl
    · have : b2 gtD (.ok (.int p)) (.ok (.int 1)) = .ok (.bool false) := by rw [b2_ok, gtI, decide_eq_false z]
      rw [this, if_neg z]
      rfl
  rw [e2]
  exact slL_to L6 _ _ rfl
theorem idx_mem (xs : List PyData) (d : Int) (h0 : 0 ≤ d) (h1 : d < (xs.length : Nat)) : ∃ w, b2 idxD (.ok (.list xs)) (.ok (.int d)) = .ok w ∧ w ∈ xs := by
  obtain ⟨k, rfl⟩ : ∃ k : Nat, d = k := ⟨d.toNat, by omega⟩
  have hlt : k < xs.length := by omega
  refine ⟨xs[k], ?_, List.getElem_mem hlt⟩
  rw [b2_ok]
  unfold idxD
  dsimp only
  rw [atI_nat (List.getElem?_eq_getElem hlt)]
theorem L6_str : ∀ w ∈ L6, ∃ s, w = .str s ∧ shp (.str s) = true ∧ inW W5 (.str s) = true := fun w hw => by
  have : ∀ s ∈ (["there", "seen", "seen", "never", "met", "apart"] : List Str), shp (.str s) = true ∧ inW W5 (.str s) = true := by decide +kernel
  unfold L6 at hw
  obtain ⟨s, hs, rfl⟩ : ∃ s ∈ (["there", "seen", "seen", "never", "met", "apart"] : List Str), w = .str s := by
    simp only [List.mem_cons, List.not_mem_nil, or_false] at hw
    rcases hw with rfl | rfl | rfl | rfl | rfl | rfl
    · exact ⟨_, by simp, rfl⟩
    · exact ⟨_, by simp, rfl⟩
    · exact ⟨_, by simp, rfl⟩
    · exact ⟨_, by simp, rfl⟩
    · exact ⟨_, by simp, rfl⟩
    · exact ⟨_, by simp, rfl⟩
  exact ⟨s, rfl, this s hs⟩
theorem L4_no : ∀ w ∈ L6.take 4, inW W2 w = false := fun w hw => by
  have : ∀ s ∈ (["there", "seen", "seen", "never"] : List Str), inW W2 (.str s) = false := by decide +kernel
  have e : L6.take 4 = [.str "there", .str "seen", .str "seen", .str "never"] := rfl
  rw [e] at hw
  simp only [List.mem_cons, List.not_mem_nil, or_false] at hw
  rcases hw with rfl | rfl | rfl | rfl
  · exact this _ (by simp)
  · exact this _ (by simp)
  · exact this _ (by simp)
  · exact this _ (by simp)
structure Tell (n p l : Int) (d : PyData) : Prop where
  ok : tellOk n p l d = true
  gd : gd 8 1 d = true
theorem telling_ok (ns : List Int) (hl : ns.length ≤ 63) (at' n p l : Int) (hn : 1 ≤ n) (hp : 1 ≤ p) (hp2 : p ≤ 2) (h0 : 0 ≤ l) :
    ∃ d, F_law_telling [scrD ns, .int at', .int n, .int p, .int l] = .ok d ∧ Tell n p l d := by
  rw [F_law_telling_eq]
  unfold m_law_telling
  rw [words_cut p hp]
  have hlen : ((L6.take (if 1 < p then 6 else 4)).length : Nat) = if 1 < p then 6 else 4 := by split <;> rfl
  have hsub : ∀ w ∈ L6.take (if 1 < p then 6 else 4), w ∈ L6 := fun w hw => List.mem_of_mem_take hw
  have hno : p = 1 → ∀ w ∈ L6.take (if 1 < p then 6 else 4), inW W2 w = false := fun e => by
    subst e
    exact L4_no
  generalize hL : L6.take (if 1 < p then 6 else 4) = L at hlen hsub hno
  have hpos : (0 : Int) < (L.length : Nat) := by rw [hlen]; split <;> omega
  obtain ⟨d0, e0, a0, b0⟩ := drawn_ok ns hl at' (L.length : Nat) hpos
  obtain ⟨w, ew, hw⟩ := idx_mem L d0 a0 b0
  obtain ⟨s, rfl, sw, w5⟩ := L6_str w (hsub w hw)
  obtain ⟨d1, e1, a1, b1⟩ := drawn_ok ns hl (at' + 1) p (by omega)
  obtain ⟨d3, e3, a3, b3⟩ := drawn_ok ns hl (at' + 3) (l + 1) (by omega)
  obtain ⟨d4, e4, a4, b4⟩ := drawn_ok ns hl (at' + 4) (l - d3 + 1) (by omega)
  obtain ⟨d2, e2, a2, b2'⟩ := drawn_ok ns hl (at' + 2) n (by omega)
  have elen : lenC [.list L] = .ok (.int (L.length : Nat)) := rfl
  rw [words2]
  simp only [ok_bind, allR_ok, allR_nil, elen, e0]
  rw [ew, ok_bind, in_eval sw shp2]
  simp only [b2_ok, ok_bind, allR_ok, allR_nil, addI, subI, e1, e2, e3, e4, boolD_bool]
  have fin : ∀ b : Int, (inW W2 (.str s) = true → 0 ≤ b ∧ b < p ∧ b ≠ d1) → (inW W2 (.str s) = false → 0 ≤ b ∧ b < n) → Tell n p l (.tuple [.str s, .int d1, .int b, .int d3, .int (d3 + d4)]) := fun b h1 h2 => by
    refine ⟨?_, ?_⟩
    · show (inW W5 (.str s) && ((decide (0 ≤ d1) && decide (d1 ≤ p - 1)) && ((decide (0 ≤ d3) && decide (d3 ≤ l)) && ((decide (d3 ≤ d3 + d4) && decide (d3 + d4 ≤ l)) && (if inW W2 (.str s) = true then (decide (0 ≤ b) && decide (b ≤ p - 1)) && !decide (b = d1) else (decide (0 ≤ b) && decide (b ≤ n - 1))))))) = true
      rw [w5, decide_eq_true a1, decide_eq_true (show d1 ≤ p - 1 by omega), decide_eq_true a3, decide_eq_true (show d3 ≤ l by omega), decide_eq_true (show d3 ≤ d3 + d4 by omega), decide_eq_true (show d3 + d4 ≤ l by omega)]
      simp only [Bool.and_self, Bool.true_and]
      by_cases q : inW W2 (.str s) = true
      · obtain ⟨x1, x2, x3⟩ := h1 q
        rw [if_pos q, decide_eq_true x1, decide_eq_true (show b ≤ p - 1 by omega), decide_eq_false x3]
        rfl
      · obtain ⟨x1, x2⟩ := h2 (by simpa using q)
        rw [if_neg q, decide_eq_true x1, decide_eq_true (show b ≤ n - 1 by omega)]
        rfl
    · refine gd_tup.mpr ⟨(show 5 ≤ 8 by decide), fun x hx => ?_⟩
      simp only [List.mem_cons, List.not_mem_nil, or_false] at hx
      rcases hx with rfl | rfl | rfl | rfl | rfl
      · exact shp_lay sw
      · rfl
      · rfl
      · rfl
      · rfl
  by_cases q : inW W2 (.str s) = true
  · have p2 : p = 2 := by
      rcases (by omega : p = 1 ∨ p = 2) with e | e
      · rw [hno e _ hw] at q; cases q
      · exact e
    subst p2
    obtain ⟨d5, e5, a5, b5⟩ := drawn_ok ns hl (at' + 2) (2 - 1) (by decide)
    rw [q, if_pos (by rfl), e5]
    simp only [ok_bind, b2_ok, addI]
    rw [mod_pos (by decide)]
    simp only [ok_bind, seqR_nx, tD5]
    exact ⟨_, rfl, fin _ (fun _ => by omega) fun z => by rw [q] at z; cases z⟩
  · rw [Bool.not_eq_true] at q
    rw [q, if_neg (by decide)]
    simp only [ok_bind, seqR_nx, allR_ok, allR_nil, tD5]
    exact ⟨_, rfl, fin _ (fun z => by rw [q] at z; cases z) fun _ => ⟨a2, b2'⟩⟩
/-- what is known of a case that is drawn -/
structure Case (d : PyData) (n p l : Int) (ws ts : List PyData) (most : Int) : Prop where
  eq : d = .tuple [.tuple [.int n, .tuple ws], .int p, .int l, .tuple ts]
  n1 : 1 ≤ n
  n3 : n ≤ 3
  p1 : 1 ≤ p
  p2 : p ≤ 2
  l0 : 0 ≤ l
  l4 : l + p ≤ 4
  ways : Ways n (n * 4096) (n.toNat * 5) ws
  tells : ∀ t ∈ ts, Tell n p l t
  len : (ts.length : Int) ≤ most
theorem case_ok (ns : List Int) (hl : ns.length ≤ 63) (at' most : Int) (hm : 0 ≤ most) (hm2 : most ≤ 50) :
    ∃ d n p l ws ts, F_law_case [scrD ns, .int at', .int most] = .ok d ∧ Case d n p l ws ts most := by
  rw [F_law_case_eq]
  unfold m_law_case
  obtain ⟨n, ws, et, n1, n3, hw⟩ := town_ok ns hl at' 3 (by decide) (by decide)
  obtain ⟨d1, e1, a1, b1⟩ := drawn_ok ns hl (at' + 40) 2 (by decide)
  obtain ⟨d2, e2, a2, b2'⟩ := drawn_ok ns hl (at' + 41) (5 - (1 + d1)) (by omega)
  obtain ⟨d3, e3, a3, b3⟩ := drawn_ok ns hl (at' + 42) (most + 1) (by omega)
  simp only [b2_ok, ok_bind, allR_ok, allR_nil, addI, subI, et, e1, e2, e3, lD0]
  have er : rng1 [.int d3] = .ok (rangeL 0 d3.toNat) := by
    show (if -(2 ^ 62) ≤ d3 ∧ d3 < 2 ^ 62 then Res.ok (rangeL 0 d3.toNat) else .stuck) = _
    rw [if_pos (by omega)]
  have ei := idx_tup [.int n, .tuple ws] 0 0 rfl rfl
  rw [b2_ok] at ei
  rw [er]
  simp only [ok_bind, ei]
  obtain ⟨ts, ew, h1, h2⟩ := forD_range (f := fun d_9 (st_8 : List PyData) => (do
      let ds ← mulD (.int 5) d_9 >>= fun y => addD (.int (at' + 43)) y >>= fun x => Res.ok [scrD ns, x, .int n, .int (1 + d1), .int d2]
      let d_10 ← F_law_telling ds
      let law_tellings_11 ← appR st_8 d_10
      Res.ok (Out.nx law_tellings_11)))
    (fun (i : Int) (ts : List PyData) => (ts.length : Int) = i ∧ ∀ t ∈ ts, Tell n (1 + d1) d2 t) 0 d3.toNat [] ⟨rfl, fun t h => (by cases h)⟩ fun i ts2 h1 h2 h3 => by
    obtain ⟨t, e4, h4⟩ := telling_ok ns hl (at' + 43 + 5 * i) n (1 + d1) d2 n1 (by omega) (by omega) a2
    refine ⟨ts2 ++ [t], ?_, ?_, fun x hx => ?_⟩
    · rw [mul_small (.inl (by decide))]
      simp only [ok_bind, addI, e4]
      rw [appR_ok (Nat.lt_of_lt_of_le (show ts2.length < 60 by omega) big60)]
      rfl
    · rw [List.length_append]
      simp
      omega
    · rcases List.mem_append.mp hx with e | e
      · exact h3.2 x e
      · rw [List.mem_singleton.mp e]; exact h4
  have ew2 := ew
  simp only [bind_assoc', ok_bind] at ew2
  rw [show (forD (rangeL 0 d3.toNat) [] _ : Res (Out (List PyData))) = .ok (.nx ts) from ?_]
  · rw [seqR_nx]
    rw [show tupC [.list ts] = .ok (.tuple ts) from rfl]
    simp only [allR_ok, allR_nil, ok_bind, tD4]
    exact ⟨_, n, 1 + d1, d2, ws, ts, rfl, ⟨rfl, n1, n3, by omega, by omega, a2, by omega, hw, h2, by omega⟩⟩
  · refine Eq.trans ?_ ew
    congr 1
    funext d_9 st_8
    cases mulD (.int 5) d_9 with
    | ok y =>
      simp only [b2_ok, ok_bind, allR_ok, allR_nil]
      cases addD (.int (at' + 43)) y <;> rfl
    | err c => rfl
    | stuck => rfl
end Lw

namespace Lw
open PySem PySem.Spec PyProof.Rows L2 Dt

/-! ### things spoilt -/
theorem cut_sub {xs : List PyData} {lo hi : Option Int} : (Dt.cutD xs lo hi).length ≤ xs.length ∧ ∀ x ∈ Dt.cutD xs lo hi, x ∈ xs := by
  unfold Dt.cutD
  refine ⟨by rw [List.length_take, List.length_drop]; omega, fun x hx => List.mem_of_mem_drop (List.mem_of_mem_take hx)⟩
def S21 : List PyData := [.none, .bool true, .bool false, .int (-1), .int 0, .int 1, .int 2, .int 3, .int 4, .int 5, .int 6, .int 9, .int 10, .str "1", .str "seen", .str "met", .str "there", .str "was", .tuple [], .list [], .tuple [.int 0, .int 1, .int 1]]
theorem S21_gd : ∀ d ∈ S21, gd 3 1 d = true := by
  have : S21.all (gd 3 1) = true := by decide +kernel
  exact List.all_eq_true.mp this
theorem add_tup {xs ys : List PyData} (h : xs.length + ys.length ≤ 200) : addD (.tuple xs) (.tuple ys) = .ok (.tuple (xs ++ ys)) := by
  show (if xs.length + ys.length ≤ sizeLine then Res.ok (PyData.tuple (xs ++ ys)) else .stuck) = _
  rw [if_pos (Nat.le_trans h (by rw [sizeLine_eq]; decide))]
theorem add_lst {xs ys : List PyData} (h : xs.length + ys.length ≤ 200) : addD (.list xs) (.list ys) = .ok (.list (xs ++ ys)) := by
  show (if xs.length + ys.length ≤ sizeLine then Res.ok (PyData.list (xs ++ ys)) else .stuck) = _
  rw [if_pos (Nat.le_trans h (by rw [sizeLine_eq]; decide))]
theorem ne_unit {d : PyData} (h : shp d = true) : (b2 neD (.ok d) ((allR []) >>= Dt.tupD) >>= boolD) = .ok (!PyData.eqv d (.tuple [])) := by
  rw [allR_nil, ok_bind, tD0, b2_ok]
  have h0 : shp (.tuple []) = true := by decide +kernel
  unfold neD
  rw [h, h0, if_pos (by rfl)]
  rfl
theorem spoilt_ok (ns : List Int) (hl : ns.length ≤ 63) : ∀ (j : Nat) (at' : Int) (thing : PyData) (deep : Nat) (n k : Nat), deep < j → gd n k thing = true → 3 ≤ n → n ≤ 30 → k ≤ 30 →
    ∃ d, R_law_spoilt j [scrD ns, .int at', thing, .int (deep : Nat)] = .ok d ∧ gd (2 * n) (k + 1) d = true
  | 0, _, _, _, _, _, h, _, _, _, _ => absurd h (Nat.not_lt_zero _)
  | j + 1, at', thing, deep, n, k, hd, hg, n3, n30, k30 => by
    show ∃ d, finR (m_law_spoilt (R_law_spoilt j) (scrD ns) (.int at') thing (.int (deep : Nat))) = .ok d ∧ _
    unfold m_law_spoilt
    have nd := gd_notDic hg
    have sh := gd_shp hg (by omega)
    have up : ∀ {d : PyData}, gd n k d = true → gd (2 * n) (k + 1) d = true := fun h => gd_mono (by omega) (by omega) h
    have s21 : ∀ d ∈ S21, gd (2 * n) (k + 1) d = true := fun d hd => gd_mono (by omega) (by omega) (S21_gd d hd)
    obtain ⟨d0, e0, a0, b0⟩ := drawn_ok ns hl at' 5 (by decide)
    have e21 : ((allR [(.ok .none), (.ok (.bool true)), (.ok (.bool false)), ((.ok (.int 1)) >>= negD), (.ok (.int 0)), (.ok (.int 1)), (.ok (.int 2)), (.ok (.int 3)), (.ok (.int 4)), (.ok (.int 5)), (.ok (.int 6)), (.ok (.int 9)), (.ok (.int 10)), (.ok (.str "1")), (.ok (.str "seen")), (.ok (.str "met")), (.ok (.str "there")), (.ok (.str "was")), ((allR []) >>= Dt.tupD), (asL ((allR []) >>= lstD)), ((allR [(.ok (.int 0)), (.ok (.int 1)), (.ok (.int 1))]) >>= Dt.tupD)]) >>= lstD) = .ok S21 := by
      simp only [allR_ok, allR_nil, ok_bind, negI, tD0, tD3, lD0, asL_ok]
      exact lstD_ok (Nat.le_trans (show 21 ≤ 60 by decide) big60)
    have it : ((Res.ok thing) >>= isiD "tuple") = .ok (.bool (isTup thing)) := isi_tuple nd
    rw [it, ne_unit sh, e21]
    simp only [b2_ok, gtI, ok_bind, boolD_bool, truD_bool, allR_ok, allR_nil, e0]
    have last : ∀ L : List PyData, L ≠ [] → (∀ d ∈ L, gd (2 * n) (k + 1) d = true) →
        ∃ d, finR (retR (α := Empty) (b2 idxD (.ok (.list L)) ((allR [(.ok (scrD ns)), (b2 addD (.ok (.int at')) (.ok (.int 2))), ((allR [(.ok (.list L))]) >>= lenC)]) >>= F_law_drawn))) = .ok d ∧ gd (2 * n) (k + 1) d = true := fun L hne hL => by
      obtain ⟨d2, e2, a2, b2'⟩ := drawn_ok ns hl (at' + 2) (L.length : Nat) (by have := List.length_pos_iff.mpr hne; omega)
      obtain ⟨w, ew, hw⟩ := idx_mem L d2 a2 b2'
      have el : ((allR [(.ok (scrD ns)), (b2 addD (.ok (.int at')) (.ok (.int 2))), ((allR [(.ok (.list L))]) >>= lenC)]) >>= F_law_drawn) = .ok (.int d2) := by
        simp only [b2_ok, addI, allR_ok, allR_nil, ok_bind]
        rw [show lenC [.list L] = .ok (.int (L.length : Nat)) from rfl]
        simp only [allR_ok, allR_nil, ok_bind, e2]
      rw [el, ew]
      exact ⟨w, rfl, hL w hw⟩
    cases thing with
    | tuple xs =>
      obtain ⟨k, rfl⟩ : ∃ k', k = k' + 1 := by
        cases k with
        | zero => cases hg
        | succ k => exact ⟨k, rfl⟩
      obtain ⟨hlen, hx⟩ := gd_tup.mp hg
      have els : ∃ d, finR (seqR (b2 addD (.ok (.list S21)) (asL ((allR [(asL ((allR [(.ok (.tuple xs))]) >>= listC)), ((.ok (.tuple xs)) >>= revB), (b2 addD (.ok (.tuple xs)) (.ok (.tuple xs))), (sl3 (.ok (.tuple xs)) ((.ok (.int 1)) >>= partD) (.ok none)), (b2 addD (.ok (.tuple xs)) (sl3 (.ok (.tuple xs)) (((.ok (.int 1)) >>= negD) >>= partD) (.ok none)))]) >>= lstD)) >>= fun law_some_10 => (Res.ok (.nx law_some_10)))
          fun (st_8 : PyData) => (retR (b2 idxD (.ok st_8) ((allR [(.ok (scrD ns)), (b2 addD (.ok (.int at')) (.ok (.int 2))), ((allR [(.ok st_8)]) >>= lenC)]) >>= F_law_drawn)) : Res (Out Empty))) = .ok d ∧ gd (2 * n) (k + 1 + 1) d = true := by
        have q1 : ((allR [(.ok (.tuple xs))]) >>= listC) = .ok xs := rfl
        have q2 : ((Res.ok (PyData.tuple xs)) >>= revB) = .ok (.tuple xs.reverse) := rfl
        have q3 : b2 addD (.ok (.tuple xs)) (.ok (.tuple xs)) = .ok (.tuple (xs ++ xs)) := add_tup (by omega)
        have q4 : sl3 (.ok (.tuple xs)) (((.ok (.int 1)) >>= negD) >>= partD) (.ok none) = .ok (.tuple (Dt.cutD xs (some (-1)) none)) := rfl
        have cs := cut_sub (xs := xs) (lo := some (-1)) (hi := none)
        have q5 : b2 addD (.ok (.tuple xs)) (.ok (.tuple (Dt.cutD xs (some (-1)) none))) = .ok (.tuple (xs ++ Dt.cutD xs (some (-1)) none)) := add_tup (by have := cs.1; omega)
        rw [q1, q2, q3, q4, q5, sl_from xs 1 1 rfl, asL_ok]
        simp only [allR_ok, allR_nil, ok_bind, lD5, asL_ok]
        rw [b2_ok, add_lst (by show 21 + 5 ≤ 200; decide), ok_bind, seqR_nx]
        refine last _ (by unfold S21; simp) fun d hd => ?_
        rcases List.mem_append.mp hd with h | h
        · exact s21 d h
        · simp only [List.mem_cons, List.not_mem_nil, or_false] at h
          rcases h with rfl | rfl | rfl | rfl | rfl
          · exact up (gd_lst.mpr ⟨hlen, hx⟩)
          · exact up (gd_tup.mpr ⟨by rw [List.length_reverse]; exact hlen, fun x h => hx x (List.mem_reverse.mp h)⟩)
          · exact gd_mono (Nat.le_refl _) (Nat.le_succ _) (gd_tup.mpr ⟨by rw [List.length_append]; omega, fun x h => (List.mem_append.mp h).elim (fun z => gd_mono (by omega) (Nat.le_refl _) (hx x z)) fun z => gd_mono (by omega) (Nat.le_refl _) (hx x z)⟩)
          · exact up (gd_tup.mpr ⟨by rw [List.length_drop]; omega, fun x h => hx x (List.mem_of_mem_drop h)⟩)
          · exact gd_mono (Nat.le_refl _) (Nat.le_succ _) (gd_tup.mpr ⟨by rw [List.length_append]; have := cs.1; omega, fun x h => (List.mem_append.mp h).elim (fun z => gd_mono (by omega) (Nat.le_refl _) (hx x z)) fun z => gd_mono (by omega) (Nat.le_refl _) (hx x (cs.2 x z))⟩)
      simp only [b2_ok, ok_bind, allR_ok, allR_nil] at els
      by_cases z : 0 < (deep : Int) ∧ xs ≠ [] ∧ 0 < d0
      · obtain ⟨z1, z2, z3⟩ := z
        have zx : PyData.eqv (.tuple xs) (.tuple []) = false := by
          cases xs with
          | nil => exact absurd rfl z2
          | cons x xs => rfl
        obtain ⟨x, xs', rfl⟩ : ∃ x r, xs = x :: r := by
          cases xs with
          | nil => exact absurd rfl z2
          | cons x r => exact ⟨x, r, rfl⟩
        rw [decide_eq_true z1, zx, decide_eq_true z3]
        simp only [show isTup (.tuple (x :: xs')) = true from rfl, Bool.not_false, andR_t, ok_bind, if_true]
        generalize hxs : x :: xs' = xs at *
        obtain ⟨d1, e1, a1, b1⟩ := drawn_ok ns hl (at' + 1) (xs.length : Nat) (by rw [← hxs]; simp only [List.length_cons]; omega)
        obtain ⟨p, rfl⟩ : ∃ p : Nat, d1 = p := ⟨d1.toNat, by omega⟩
        have hp : p < xs.length := by omega
        have ix : b2 idxD (.ok (.tuple xs)) (.ok (.int (p : Nat))) = .ok xs[p] := idx_tup xs p p rfl (List.getElem?_eq_getElem hp)
        obtain ⟨c, rfl⟩ : ∃ c, deep = c + 1 := ⟨deep - 1, by omega⟩
        obtain ⟨part, ep, gp⟩ := spoilt_ok ns hl j (at' + 3) xs[p] c n k (by omega) (hx _ (List.getElem_mem hp)) n3 n30 (by omega)
        have ec : (((c + 1 : Nat) : Int) - 1) = (c : Nat) := by omega
        rw [b2_ok] at ix
        rw [show lenC [.tuple xs] = .ok (.int (xs.length : Nat)) from rfl]
        simp only [allR_ok, allR_nil, ok_bind, b2_ok, addI, subI, e1, ix, ec, ep]
        have f1 := sl_to xs p p rfl
        have f2 := sl_from xs (p + 1) ((p : Int) + 1) (by omega)
        simp only [ok_bind] at f1 f2
        rw [f1, f2]
        simp only [allR_ok, allR_nil, ok_bind, tD1]
        rw [b2_ok, add_tup (by rw [List.length_take]; simp; omega)]
        rw [b2_ok, add_tup (by rw [List.length_append, List.length_take, List.length_drop]; simp; omega)]
        refine ⟨_, rfl, gd_tup.mpr ⟨by rw [List.length_append, List.length_append, List.length_take, List.length_drop]; simp; omega, fun y hy => ?_⟩⟩
        rcases List.mem_append.mp hy with h | h
        · rcases List.mem_append.mp h with h | h
          · exact gd_mono (by omega) (Nat.le_succ _) (hx y (List.mem_of_mem_take h))
          · rw [List.mem_singleton.mp h]; exact gp
        · exact gd_mono (by omega) (Nat.le_succ _) (hx y (List.mem_of_mem_drop h))
      · have zf : (andR (.ok (decide (0 < (deep : Int)))) (andR (.ok (isTup (.tuple xs))) (andR (.ok (!PyData.eqv (.tuple xs) (.tuple []))) (.ok (decide (0 < d0)))))) = .ok false := by
          by_cases z1 : 0 < (deep : Int)
          · rw [decide_eq_true z1, andR_t, show isTup (.tuple xs) = true from rfl, andR_t]
            by_cases z2 : xs = []
            · subst z2
              rfl
            · have zx : PyData.eqv (.tuple xs) (.tuple []) = false := by
                cases xs with
                | nil => exact absurd rfl z2
                | cons x xs => rfl
              rw [zx, Bool.not_false, andR_t, decide_eq_false fun z3 => z ⟨z1, z2, z3⟩]
          · rw [decide_eq_false z1, andR_f]
        rw [zf]
        simp only [ok_bind, Bool.false_eq_true, if_false, show isTup (.tuple xs) = true from rfl, if_true]
        exact els
    | _ =>
      have zf : ∀ (b : Bool) (u : Res Bool), andR (.ok b) (andR (.ok false) u) = .ok false := fun b u => by cases b <;> rfl
      simp only [isTup, zf, ok_bind, Bool.false_eq_true, if_false]
      rw [seqR_nx]
      have := last S21 (by unfold S21; simp) s21
      simp only [b2_ok, ok_bind, allR_ok, allR_nil] at this
      exact this
end Lw

namespace Lw
open PySem PySem.Spec PyProof.Rows L2 Dt
/-! ### the known ones -/
set_option maxHeartbeats 4000000 in
theorem b_towns : ∃ L, (((allR [((allR [(.ok (.int 0)), (.ok (.int 1)), (.ok (.int 0))]) >>= Dt.tupD), ((allR [(.ok (.int 0)), (.ok (.int 1)), (.ok (.int 1))]) >>= Dt.tupD), ((allR [(.ok (.int 0)), (.ok (.int 1)), (.ok (.int 4))]) >>= Dt.tupD), ((allR [(.ok (.int 0)), (.ok (.int 1)), (.ok (.int 5))]) >>= Dt.tupD), ((allR [(.ok (.int 0)), (.ok (.int 2)), (.ok (.int 1))]) >>= Dt.tupD), ((allR [(.ok (.int 0)), (.ok (.int 3)), (.ok (.int 1))]) >>= Dt.tupD), ((allR [(.ok (.int 1)), (.ok (.int 1)), (.ok (.int 1))]) >>= Dt.tupD), ((allR [(.ok (.int 1)), (.ok (.int 0)), (.ok (.int 1))]) >>= Dt.tupD), ((allR [((.ok (.int 1)) >>= negD), (.ok (.int 1)), (.ok (.int 1))]) >>= Dt.tupD)]) >>= lstD) >>= fun law_ways_1 => (b2 addD (asL (comR ((.ok (PyData.list law_ways_1)) >>= seqOf) (fun d_4 => cel (.ok true) ((allR [(.ok (.int 2)), ((allR [(.ok d_4)]) >>= Dt.tupD)]) >>= Dt.tupD)))) (asL ((allR [((allR [(.ok (.int 5)), ((allR []) >>= Dt.tupD)]) >>= Dt.tupD), ((allR [(.ok (.int 6)), ((allR []) >>= Dt.tupD)]) >>= Dt.tupD), ((allR [(.ok (.int 0)), ((allR []) >>= Dt.tupD)]) >>= Dt.tupD), ((allR [(.ok (.int 2)), ((allR [((allR [(.ok (.int 0)), (.ok (.int 1)), (.ok (.int 1))]) >>= Dt.tupD), ((allR [(.ok (.int 0)), (.ok (.int 1)), (.ok (.int 2))]) >>= Dt.tupD)]) >>= Dt.tupD)]) >>= Dt.tupD), ((allR [(.ok (.bool true)), ((allR []) >>= Dt.tupD)]) >>= Dt.tupD)]) >>= lstD)))) = .ok (.list L) ∧ L.all (gd 20 5) = true ∧ L.length ≤ 60 := ⟨_, rfl, by decide +kernel, by decide +kernel⟩
def bCase : PyData := .tuple [.tuple [.int 2, .tuple [.tuple [.int 0, .int 1, .int 1]]], .int 2, .int 3, .tuple []]
theorem b_case : ((allR [((allR [(.ok (.int 2)), ((allR [((allR [(.ok (.int 0)), (.ok (.int 1)), (.ok (.int 1))]) >>= Dt.tupD)]) >>= Dt.tupD)]) >>= Dt.tupD), (.ok (.int 2)), (.ok (.int 3)), ((allR []) >>= Dt.tupD)]) >>= Dt.tupD) = .ok bCase := rfl
set_option maxHeartbeats 4000000 in
theorem b_some : ∃ L, (comR (((allR [((allR [(.ok (.int 0)), (.ok (.int 3))]) >>= Dt.tupD), ((allR [(.ok (.int 0)), (.ok (.int 4))]) >>= Dt.tupD), ((allR [((.ok (.int 1)) >>= negD), (.ok (.int 2))]) >>= Dt.tupD), ((allR [(.ok (.int 2)), (.ok (.int 1))]) >>= Dt.tupD), ((allR [(.ok (.int 3)), (.ok (.int 3))]) >>= Dt.tupD), ((allR [(.ok (.bool true)), (.ok (.int 2))]) >>= Dt.tupD), ((allR [(.ok (.int 0)), (.ok .none)]) >>= Dt.tupD)]) >>= Dt.tupD) >>= seqOf) (fun d_10 => cel (.ok true) (b2 addD ((allR [(.ok (.str "seen")), (.ok (.int 0)), (.ok (.int 1))]) >>= Dt.tupD) (.ok d_10))) >>= fun law_some_9 => (((allR [(.ok (.str "there")), (.ok (.str "met")), (.ok (.str "was"))]) >>= Dt.tupD) >>= seqOf) >>= fun ds => forD ds (PyData.list law_some_9) fun d_13 (st_12 : PyData) => ((((allR [((.ok (.int 1)) >>= negD), (.ok (.int 0)), (.ok (.int 1)), (.ok (.int 2))]) >>= Dt.tupD) >>= seqOf) >>= fun ds => seqR (forD ds st_12 fun d_23 (st_22 : PyData) => ((b2 addD (.ok st_22) (asL (comR (((allR [((.ok (.int 1)) >>= negD), (.ok (.int 1)), (.ok (.int 2))]) >>= Dt.tupD) >>= seqOf) (fun d_25 => cel (.ok true) ((allR [(.ok d_13), (.ok d_25), (.ok d_23), (.ok (.int 1)), (.ok (.int 2))]) >>= Dt.tupD))))) >>= fun law_some_24 => (.ok (.nx law_some_24)))) fun (st_22 : PyData) => (.ok (.nx st_22)))) = .ok (.nx (.list L)) ∧ L.all (gd 20 5) = true ∧ L.length ≤ 60 := ⟨_, rfl, by decide +kernel, by decide +kernel⟩

end Lw

namespace Lw
open PySem PySem.Spec PyProof.Rows L2 Dt

theorem seqR_bind {α β γ : Type} (r : Res γ) (f : γ → Res (Out α)) (k : α → Res (Out β)) : (r >>= fun x => seqR (f x) k) = seqR (r >>= f) k := by cases r <;> rfl
theorem is_telling_ok {n p l : Int} {ws ts : List PyData} {d : PyData} {m k m' k' : Nat} (hm : m ≤ 60) (hk : k ≤ 60) (hk' : k' ≤ 60) (hc : caseOk (.tuple [.tuple [.int n, .tuple ws], .int p, .int l, .tuple ts]) = true)
    (gc : gd m k (.tuple [.tuple [.int n, .tuple ws], .int p, .int l, .tuple ts]) = true) (g : gd m' k' d = true) :
    F_is_telling [.tuple [.tuple [.int n, .tuple ws], .int p, .int l, .tuple ts], d] = .ok (.bool (tellOk n p l d)) := by
  have en : F_need_case [.tuple [.tuple [.int n, .tuple ws], .int p, .int l, .tuple ts]] = .ok .none := by
    rw [F_need_case_eq]
    unfold m_need_case
    simp only [allR_ok, allR_nil, ok_bind]
    rw [is_case_ok hm hk gc, hc]
    rfl
  rw [F_is_telling_eq]
  unfold m_is_telling
  rw [idx_tup [.tuple [.int n, .tuple ws], .int p, .int l, .tuple ts] 0 0 rfl rfl, idx_tup [.tuple [.int n, .tuple ws], .int p, .int l, .tuple ts] 1 1 rfl rfl, idx_tup [.tuple [.int n, .tuple ws], .int p, .int l, .tuple ts] 2 2 rfl rfl, idx_tup [.int n, .tuple ws] 0 0 rfl rfl]
  simp only [allR_ok, allR_nil, ok_bind]
  rw [en, ok_bind, fits_ok hk' g]
  rfl
theorem none_bad {f : PyData → Res PyData} {g : PyData → Res PyData} {p : PyData → Bool} {xs : List PyData} (hl : xs.length ≤ 60) (hf : ∀ x ∈ xs, f x = .ok (.bool (p x))) (hg : ∀ x ∈ xs, g x = .ok (.bool (p x))) :
    comR (.ok xs) (fun d => cel (b2 neD (f d) (g d) >>= boolD) (.ok d)) = .ok [] := by
  rw [comR_fil (p := fun _ => false) (Nat.le_trans hl big60) fun d hd => by
    rw [hf d hd, hg d hd, b2_ok, neB, ok_bind, boolD_bool, decide_eq_true rfl]
    rfl]
  congr 1
  induction xs with
  | nil => rfl
  | cons x xs ih => exact ih (by simp at hl; omega) (fun y hy => hf y (List.mem_cons_of_mem _ hy)) fun y hy => hg y (List.mem_cons_of_mem _ hy)
theorem bCase_ok : caseOk bCase = true ∧ gd 16 4 bCase = true := by decide +kernel
theorem bounds_ok : F_law_bounds [] = .ok (.bool true) := by
  obtain ⟨L1, e1, g1, l1⟩ := b_towns
  obtain ⟨L2, e2, g2, l2⟩ := b_some
  rw [F_law_bounds_eq]
  unfold m_law_bounds
  rw [← bind_assoc', e1, ok_bind, b_case, ok_bind]
  rw [show seqOf (.list L1) = .ok L1 from rfl, none_bad (p := townOk) l1 (fun x hx => by
    simp only [allR_ok, allR_nil, ok_bind]
    exact is_town_ok (m := 20) (k := 5) (by decide) (List.all_eq_true.mp g1 x hx)) fun x hx => by
    simp only [allR_ok, allR_nil, ok_bind]
    exact law_is_town_ok (m := 20) (k := 5) (by decide) (by decide) (List.all_eq_true.mp g1 x hx)]
  rw [asL_ok, ne_nil (by decide +kernel)]
  simp only [ok_bind, List.isEmpty_nil, Bool.not_true, Bool.false_eq_true, if_false, seqR_bind] at e2 ⊢
  rw [e2, seqR_nx]
  rw [show seqOf (.list L2) = .ok L2 from rfl, none_bad (p := tellOk 2 2 3) l2 (fun x hx => by
    simp only [allR_ok, allR_nil, ok_bind]
    exact is_telling_ok (m := 16) (k := 4) (m' := 20) (k' := 5) (by decide) (by decide) (by decide) bCase_ok.1 bCase_ok.2 (List.all_eq_true.mp g2 x hx)) fun x hx => by
    simp only [allR_ok, allR_nil, ok_bind]
    exact law_is_telling_ok (m := 20) (k := 5) (by decide) (by decide) (List.all_eq_true.mp g2 x hx) (by decide) (by decide) (by decide)]
  rw [asL_ok, eq_nil (by decide +kernel)]
  rfl
end Lw

namespace Lw
open PySem PySem.Spec PyProof.Rows L2 Dt
def law_turn (law_script_1 st_3 d_6 : PyData) : Res (Out Unit) :=
  (((allR [(.ok law_script_1), (b2 addD (.ok (.int 90)) (b2 mulD (.ok (.int 20)) (.ok d_6))), (.ok st_3), (b2 addD (.ok (.int 1)) (b2 modD (.ok d_6) (.ok (.int 4))))]) >>= F_law_spoilt) >>= fun law_spoilt_here_7 => (((allR [(.ok law_spoilt_here_7)]) >>= F_is_case) >>= fun law_told_8 => ((orR (nt (((.ok law_told_8) >>= isiD "bool") >>= truD)) (b2 neD (.ok law_told_8) ((allR [(.ok law_spoilt_here_7)]) >>= F_law_is_case) >>= boolD)) >>= fun z => if z = true then onlyR (retR (.ok (.bool false))) else ((ite3 (andR (((.ok law_spoilt_here_7) >>= isiD "tuple") >>= truD) (b2 neD (.ok law_spoilt_here_7) ((allR []) >>= Dt.tupD) >>= boolD)) (b2 idxD (.ok law_spoilt_here_7) (.ok (.int 0))) (.ok law_spoilt_here_7)) >>= fun law_thing_9 => (((allR [(.ok law_thing_9)]) >>= F_is_town) >>= fun law_told_10 => ((orR (nt (((.ok law_told_10) >>= isiD "bool") >>= truD)) (b2 neD (.ok law_told_10) ((allR [(.ok law_thing_9)]) >>= F_law_is_town) >>= boolD)) >>= fun z => if z = true then onlyR (retR (.ok (.bool false))) else (((allR [(.ok law_script_1), (b2 addD (.ok (.int 200)) (b2 mulD (.ok (.int 10)) (.ok d_6))), ((allR [(.ok (.str "met")), (.ok (.int 0)), (.ok (.int 1)), (.ok (.int 0)), (b2 idxD (.ok st_3) (.ok (.int 2)))]) >>= Dt.tupD), (.ok (.int 1))]) >>= F_law_spoilt) >>= fun law_telling_here_11 => (((allR [(.ok st_3), (.ok law_telling_here_11)]) >>= F_is_telling) >>= fun law_told_12 => ((orR (nt (((.ok law_told_12) >>= isiD "bool") >>= truD)) (b2 neD (.ok law_told_12) ((allR [(.ok st_3), (.ok law_telling_here_11)]) >>= F_law_is_telling) >>= boolD)) >>= fun z => if z = true then onlyR (retR (.ok (.bool false))) else (.ok (.nx ())))))))))))
def law_rest (law_script_1 st_3 : PyData) : Res (Out Empty) :=
  ((orR (nt (((allR [(.ok st_3)]) >>= F_is_case) >>= truD)) (orR (nt (((allR [(.ok st_3)]) >>= F_law_is_case) >>= truD)) (nt (((allR [(b2 idxD (.ok st_3) (.ok (.int 0)))]) >>= F_is_town) >>= truD)))) >>= fun z => if z = true then onlyR (retR (.ok (.bool false))) else (((allR [(.ok (.int 5))]) >>= rng1) >>= fun ds => seqR (forD ds () fun d_6 (st_5 : Unit) => (((allR [(.ok law_script_1), (b2 addD (.ok (.int 90)) (b2 mulD (.ok (.int 20)) (.ok d_6))), (.ok st_3), (b2 addD (.ok (.int 1)) (b2 modD (.ok d_6) (.ok (.int 4))))]) >>= F_law_spoilt) >>= fun law_spoilt_here_7 => (((allR [(.ok law_spoilt_here_7)]) >>= F_is_case) >>= fun law_told_8 => ((orR (nt (((.ok law_told_8) >>= isiD "bool") >>= truD)) (b2 neD (.ok law_told_8) ((allR [(.ok law_spoilt_here_7)]) >>= F_law_is_case) >>= boolD)) >>= fun z => if z = true then onlyR (retR (.ok (.bool false))) else ((ite3 (andR (((.ok law_spoilt_here_7) >>= isiD "tuple") >>= truD) (b2 neD (.ok law_spoilt_here_7) ((allR []) >>= Dt.tupD) >>= boolD)) (b2 idxD (.ok law_spoilt_here_7) (.ok (.int 0))) (.ok law_spoilt_here_7)) >>= fun law_thing_9 => (((allR [(.ok law_thing_9)]) >>= F_is_town) >>= fun law_told_10 => ((orR (nt (((.ok law_told_10) >>= isiD "bool") >>= truD)) (b2 neD (.ok law_told_10) ((allR [(.ok law_thing_9)]) >>= F_law_is_town) >>= boolD)) >>= fun z => if z = true then onlyR (retR (.ok (.bool false))) else (((allR [(.ok law_script_1), (b2 addD (.ok (.int 200)) (b2 mulD (.ok (.int 10)) (.ok d_6))), ((allR [(.ok (.str "met")), (.ok (.int 0)), (.ok (.int 1)), (.ok (.int 0)), (b2 idxD (.ok st_3) (.ok (.int 2)))]) >>= Dt.tupD), (.ok (.int 1))]) >>= F_law_spoilt) >>= fun law_telling_here_11 => (((allR [(.ok st_3), (.ok law_telling_here_11)]) >>= F_is_telling) >>= fun law_told_12 => ((orR (nt (((.ok law_told_12) >>= isiD "bool") >>= truD)) (b2 neD (.ok law_told_12) ((allR [(.ok st_3), (.ok law_telling_here_11)]) >>= F_law_is_telling) >>= boolD)) >>= fun z => if z = true then onlyR (retR (.ok (.bool false))) else (.ok (.nx ())))))))))))) fun (st_5 : Unit) => ((nt (F_law_bounds [] >>= truD)) >>= fun z => if z = true then onlyR (retR (.ok (.bool false))) else (((allR [((allR [(.ok (.str "there")), (.ok (.int 0)), (.ok (.int 0)), (.ok (.int 0)), (.ok (.int 0))]) >>= Dt.tupD)]) >>= Dt.tupD) >>= fun law_row_13 => (retR (andV (notV ((allR [(b2 addD (sl3 (.ok st_3) (.ok none) ((.ok (.int 3)) >>= partD)) ((allR [(b2 mulD (.ok law_row_13) (.ok (.int 7)))]) >>= Dt.tupD))]) >>= F_is_case)) ((allR [(b2 addD (sl3 (.ok st_3) (.ok none) ((.ok (.int 3)) >>= partD)) ((allR [(b2 mulD (.ok law_row_13) (.ok (.int 6)))]) >>= Dt.tupD))]) >>= F_is_case)))))))

structure GoodC (st : PyData) (n p l : Int) (ws ts : List PyData) : Prop where
  eq : st = .tuple [.tuple [.int n, .tuple ws], .int p, .int l, .tuple ts]
  ok : caseOk st = true
  gd : gd 16 4 st = true
theorem way_mono {n n' : Int} {w : PyData} (h : wayOk n w = true) (hn : n ≤ n') : wayOk n' w = true := by
  obtain ⟨i, j, t, rfl, h1, h2, h3, h4, h5⟩ := wayOk_inv h
  show ((decide (0 ≤ i) && decide (i ≤ n' - 1)) && ((decide (i + 1 ≤ j) && decide (j ≤ n' - 1)) && (decide (1 ≤ t) && decide (t ≤ 4)))) = true
  simp only [Bool.and_eq_true, decide_eq_true_eq]
  exact ⟨⟨h1, by omega⟩, ⟨by omega, by omega⟩, h4, h5⟩
theorem num_mono {lo hi hi' : Int} {d : PyData} (h : numOk lo hi d = true) (hh : hi ≤ hi') : numOk lo hi' d = true := by
  obtain ⟨i, rfl, h1, h2⟩ := num_int h
  show (decide (lo ≤ i) && decide (i ≤ hi')) = true
  simp only [Bool.and_eq_true, decide_eq_true_eq]
  exact ⟨h1, by omega⟩
theorem tell_mono {n n' p p' l l' : Int} {d : PyData} (h : tellOk n p l d = true) (hn : n ≤ n') (hp : p ≤ p') (hl : l ≤ l') : tellOk n' p' l' d = true := by
  unfold tellOk at h
  split at h
  · simp only [Bool.and_eq_true] at h
    obtain ⟨h1, h2, h3, h4, h5⟩ := h
    show (inW W5 _ && (numOk 0 (p' - 1) _ && (numOk 0 l' _ && (numOk _ l' _ && (if inW W2 _ = true then numOk 0 (p' - 1) _ && !decide (intV _ = intV _) else numOk 0 (n' - 1) _))))) = true
    rw [h1, num_mono h2 (by omega), num_mono h3 hl, num_mono h4 hl]
    simp only [Bool.true_and]
    split
    · rename_i q
      rw [if_pos q, Bool.and_eq_true] at h5
      rw [num_mono h5.1 (by omega), h5.2]
      rfl
    · rename_i q
      rw [if_neg q] at h5
      exact num_mono h5 (by omega)
  · cases h
theorem gd_way {n : Int} {w : PyData} (h : wayOk n w = true) : gd 16 1 w = true := by
  obtain ⟨i, j, t, rfl, _⟩ := wayOk_inv h
  rfl
theorem gd_case {n p l : Int} {ws ts : List PyData} (hw : ∀ w ∈ ws, gd 16 1 w = true) (ht : ∀ t ∈ ts, gd 16 2 t = true) (lw : ws.length ≤ 16) (lt : ts.length ≤ 16) : gd 16 4 (.tuple [.tuple [.int n, .tuple ws], .int p, .int l, .tuple ts]) = true := by
  refine gd_tup.mpr ⟨(show 4 ≤ 16 by decide), fun x hx => ?_⟩
  simp only [List.mem_cons, List.not_mem_nil, or_false] at hx
  rcases hx with rfl | rfl | rfl | rfl
  · refine gd_tup.mpr ⟨(show 2 ≤ 16 by decide), fun x hx => ?_⟩
    simp only [List.mem_cons, List.not_mem_nil, or_false] at hx
    rcases hx with rfl | rfl
    · rfl
    · exact gd_tup.mpr ⟨lw, hw⟩
  · rfl
  · rfl
  · exact gd_tup.mpr ⟨lt, ht⟩
theorem case_eval {n p l : Int} {ws ts : List PyData} : caseOk (.tuple [.tuple [.int n, .tuple ws], .int p, .int l, .tuple ts]) = ((numOk 1 5 (.int n) && (ws.all (wayOk n) && incr (ws.map pairOf))) && ((numOk 1 3 (.int p) && numOk 0 9 (.int l)) && (decide (ts.length ≤ 6) && ts.all (tellOk n p l)))) := rfl
theorem num_of {lo hi i : Int} (h : lo ≤ i) (h' : i ≤ hi) : numOk lo hi (.int i) = true := by
  show (decide (lo ≤ i) && decide (i ≤ hi)) = true
  simp only [Bool.and_eq_true, decide_eq_true_eq]
  exact ⟨h, h'⟩
theorem good_drawn {d : PyData} {n p l : Int} {ws ts : List PyData} (h : Case d n p l ws ts 4) : GoodC d n p l ws ts := by
  obtain ⟨rfl, n1, n3, p1, p2, l0, l4, hw, ht, hl⟩ := h
  refine ⟨rfl, ?_, gd_case (fun w hx => gd_way (hw.ok w hx)) (fun t hx => gd_mono (by omega) (by omega) (ht t hx).gd) (by have := hw.len; omega) (by omega)⟩
  rw [case_eval, num_of n1 (by omega), num_of p1 (by omega), num_of l0 (by omega), List.all_eq_true.mpr hw.ok, hw.inc, decide_eq_true (show ts.length ≤ 6 by omega), List.all_eq_true.mpr fun t hx => (ht t hx).ok]
  rfl
def big2 : List PyData := [.tuple [.str "met", .int 2, .int 0, .int 0, .int 9], .tuple [.str "never", .int 2, .int 4, .int 9, .int 9]]
theorem big2_ok : ∀ t ∈ big2, tellOk 5 3 9 t = true ∧ gd 16 2 t = true := by
  have : (big2.all fun t => tellOk 5 3 9 t && gd 16 2 t) = true := by decide +kernel
  intro t ht
  exact Bool.and_eq_true_iff.mp (List.all_eq_true.mp this t ht)
theorem good_big {d : PyData} {n p l : Int} {ws ts : List PyData} (h : Case d n p l ws ts 4) : GoodC (.tuple [.tuple [.int 5, .tuple (ws ++ [.tuple [.int 3, .int 4, .int 4]])], .int 3, .int 9, .tuple (ts ++ big2)]) 5 3 9 (ws ++ [.tuple [.int 3, .int 4, .int 4]]) (ts ++ big2) := by
  obtain ⟨rfl, n1, n3, p1, p2, l0, l4, hw, ht, hl⟩ := h
  have hw5 : Ways 5 (3 * 4096 + 4) (n.toNat * 5) ws := ⟨fun w hx => way_mono (hw.ok w hx) (by omega), hw.inc, fun w hx => Int.lt_of_lt_of_le (hw.lt w hx) (by omega), hw.len⟩
  have hb := hw5.add (i := 3) (j := 4) (t := 4) (c' := 3 * 4096 + 5) (by decide) (by decide) (by decide) (by decide)
  have htt : ∀ t ∈ ts ++ big2, tellOk 5 3 9 t = true ∧ gd 16 2 t = true := fun t hx => by
    rcases List.mem_append.mp hx with e | e
    · exact ⟨tell_mono (ht t e).ok (by omega) (by omega) (by omega), gd_mono (by omega) (by omega) (ht t e).gd⟩
    · exact big2_ok t e
  have hlen : (ts ++ big2).length ≤ 6 := by
    rw [List.length_append]
    show ts.length + 2 ≤ 6
    omega
  refine ⟨rfl, ?_, gd_case (fun w hx => gd_way (hb.ok w hx)) (fun t hx => (htt t hx).2) (by have := hb.len; omega) (by omega)⟩
  rw [case_eval, num_of (by decide) (by decide), num_of (by decide) (by decide), num_of (by decide) (by decide), List.all_eq_true.mpr hb.ok, hb.inc, decide_eq_true hlen, List.all_eq_true.mpr fun t hx => (htt t hx).1]
  rfl
theorem ne_same (c : Bool) (r : Res PyData) (h : r = .ok (.bool c)) : (b2 neD (.ok (.bool c)) r >>= boolD) = .ok false := by
  subst h
  rw [b2_ok, neB, ok_bind, boolD_bool, decide_eq_true rfl]
  rfl
theorem spoilt6 (ns : List Int) (hl : ns.length ≤ 63) (at' : Int) (thing : PyData) (deep : Int) (n k : Nat) (h0 : 0 ≤ deep) (h1 : deep ≤ 5) (hg : gd n k thing = true) (n3 : 3 ≤ n) (n30 : n ≤ 30) (k30 : k ≤ 30) :
    ∃ d, F_law_spoilt [scrD ns, .int at', thing, .int deep] = .ok d ∧ gd (2 * n) (k + 1) d = true := by
  obtain ⟨c, rfl⟩ : ∃ c : Nat, deep = c := ⟨deep.toNat, by omega⟩
  exact spoilt_ok ns hl 6 at' thing c n k (by omega) hg n3 n30 k30
theorem turn_ok (ns : List Int) (hl : ns.length ≤ 63) {st : PyData} {n p l : Int} {ws ts : List PyData} (h : GoodC st n p l ws ts) (i : Int) : law_turn (scrD ns) st (.int i) = .ok (.nx ()) := by
  obtain ⟨rfl, hc, hg⟩ := h
  have hc' := hc
  rw [case_eval] at hc'
  simp only [Bool.and_eq_true] at hc'
  obtain ⟨⟨cn, _⟩, ⟨cp, cl⟩, _⟩ := hc'
  obtain ⟨_, e1, n1, n5⟩ := num_int cn
  cases e1
  obtain ⟨_, e1, p1, p3⟩ := num_int cp
  cases e1
  obtain ⟨_, e1, l0, l9⟩ := num_int cl
  cases e1
  unfold law_turn
  obtain ⟨d, ed, gd1⟩ := spoilt6 ns hl (90 + 20 * i) (.tuple [.tuple [.int n, .tuple ws], .int p, .int l, .tuple ts]) (1 + i % 4) 16 4 (by omega) (by omega) hg (by decide) (by decide) (by decide)
  have gq : gd 5 1 (.tuple [.str "met", .int 0, .int 1, .int 0, .int l]) = true := by
    refine gd_tup.mpr ⟨(show 5 ≤ 5 by decide), fun x hx => ?_⟩
    simp only [List.mem_cons, List.not_mem_nil, or_false] at hx
    rcases hx with rfl | rfl | rfl | rfl | rfl
    · decide +kernel
    · rfl
    · rfl
    · rfl
    · rfl
  obtain ⟨q, eq, gq1⟩ := spoilt6 ns hl (200 + 10 * i) (.tuple [.str "met", .int 0, .int 1, .int 0, .int l]) 1 5 1 (by decide) (by decide) gq (by decide) (by decide) (by decide)
  have nd := gd_notDic gd1
  have sh := gd_shp gd1 (by decide)
  rw [idx_tup [.tuple [.int n, .tuple ws], .int p, .int l, .tuple ts] 2 2 rfl rfl]
  simp only [allR_ok, allR_nil, ok_bind, b2_ok, addI]
  rw [mul_small (.inl (by decide)), mul_small (.inl (by decide)), mod_pos (by decide)]
  simp only [allR_ok, allR_nil, ok_bind, b2_ok, addI, ed, tD5, eq]
  rw [is_case_ok (m := 32) (k := 5) (by decide) (by decide) gd1, ok_bind]
  simp only [ok_bind, truD_bool, nt_ok, isi_bool (d := .bool (caseOk d)) rfl]
  rw [show (!isBool (.bool (caseOk d))) = false from rfl, orR_f, ne_same _ _ (law_is_case_ok (m := 32) (k := 5) (by decide) (by decide) gd1)]
  simp only [ok_bind, Bool.false_eq_true, if_false]
  rw [isi_tuple nd]
  have nu := ne_unit sh
  simp only [allR_nil, ok_bind] at nu
  rw [nu]
  simp only [ok_bind, truD_bool]
  have th : ∃ th, ite3 (andR (.ok (isTup d)) (.ok (!PyData.eqv d (.tuple [])))) (b2 idxD (.ok d) (.ok (.int 0))) (.ok d) = .ok th ∧ gd 32 5 th = true := by
    by_cases z : isTup d = true
    · cases d with
      | tuple xs =>
        cases xs with
        | nil => exact ⟨_, rfl, gd1⟩
        | cons x xs =>
          refine ⟨x, ?_, gd_mono (Nat.le_refl _) (by decide) ((gd_tup.mp gd1).2 x List.mem_cons_self)⟩
          have ez : PyData.eqv (.tuple (x :: xs)) (.tuple []) = false := rfl
          rw [z, ez]
          exact idx_tup (x :: xs) 0 0 rfl rfl
      | _ => cases z
    · rw [Bool.not_eq_true] at z
      rw [z]
      exact ⟨d, rfl, gd1⟩
  obtain ⟨th, eth, gth⟩ := th
  simp only [b2_ok] at eth
  rw [eth]
  simp only [allR_ok, allR_nil, ok_bind]
  rw [is_town_ok (m := 32) (k := 5) (by decide) gth, ok_bind]
  simp only [ok_bind, truD_bool, nt_ok, isi_bool (d := .bool (townOk th)) rfl]
  rw [show (!isBool (.bool (townOk th))) = false from rfl, orR_f, ne_same _ _ (law_is_town_ok (m := 32) (k := 5) (by decide) (by decide) gth)]
  simp only [ok_bind, Bool.false_eq_true, if_false]
  rw [is_telling_ok (m := 16) (k := 4) (m' := 10) (k' := 2) (by decide) (by decide) (by decide) hc hg gq1, ok_bind]
  simp only [ok_bind, truD_bool, nt_ok, isi_bool (d := .bool (tellOk n p l q)) rfl]
  rw [show (!isBool (.bool (tellOk n p l q))) = false from rfl, orR_f, ne_same _ _ (law_is_telling_ok (m := 10) (k := 2) (by decide) (by decide) gq1 (by omega) (by omega) l9)]
  rfl
theorem rest_ok (ns : List Int) (hl : ns.length ≤ 63) {st : PyData} {n p l : Int} {ws ts : List PyData} (h : GoodC st n p l ws ts) : law_rest (scrD ns) st = .ok (.rt (.bool true)) := by
  have hT := fun i => turn_ok ns hl h i
  obtain ⟨rfl, hc, hg⟩ := h
  have hc' := hc
  rw [case_eval] at hc'
  simp only [Bool.and_eq_true] at hc'
  obtain ⟨⟨cn, cw⟩, ⟨cp, cl⟩, _⟩ := hc'
  obtain ⟨_, e1, n1, n5⟩ := num_int cn
  cases e1
  obtain ⟨_, e1, p1, p3⟩ := num_int cp
  cases e1
  obtain ⟨_, e1, l0, l9⟩ := num_int cl
  cases e1
  have ht : townOk (.tuple [.int n, .tuple ws]) = true := by
    show (numOk 1 5 (.int n) && (ws.all (wayOk n) && incr (ws.map pairOf))) = true
    rw [cn, cw.1, cw.2]
    rfl
  have gt : gd 16 3 (.tuple [.int n, .tuple ws]) = true := (gd_tup.mp hg).2 _ (by simp)
  unfold law_rest
  rw [idx_tup [.tuple [.int n, .tuple ws], .int p, .int l, .tuple ts] 0 0 rfl rfl]
  simp only [allR_ok, allR_nil, ok_bind]
  rw [is_case_ok (m := 16) (k := 4) (by decide) (by decide) hg, law_is_case_ok (m := 16) (k := 4) (by decide) (by decide) hg, is_town_ok (m := 16) (k := 3) (by decide) gt, hc, ht]
  simp only [ok_bind, truD_bool, nt_ok, Bool.not_true, orR_f, Bool.false_eq_true, if_false]
  have er : rng1 [.int 5] = .ok (rangeL 0 5) := by
    show (if -(2 ^ 62) ≤ (5 : Int) ∧ (5 : Int) < 2 ^ 62 then Res.ok (rangeL 0 (5 : Int).toNat) else .stuck) = _
    rw [if_pos (by decide)]
    rfl
  have ef : forD (rangeL 0 5) () (fun d_6 (st_5 : Unit) => law_turn (scrD ns) (.tuple [.tuple [.int n, .tuple ws], .int p, .int l, .tuple ts]) d_6) = .ok (.nx ()) := forD_unit _ fun d hd => by
    unfold rangeL at hd
    obtain ⟨i, _, rfl⟩ := List.mem_map.mp hd
    exact hT _
  unfold law_turn at ef
  simp only [allR_ok, allR_nil, ok_bind] at ef
  rw [er, ok_bind, ef, seqR_nx, bounds_ok]
  simp only [ok_bind, truD_bool, nt_ok, Bool.not_true, Bool.false_eq_true, if_false, tD5, allR_ok, allR_nil, tD1]
  have hs := sl_to [.tuple [.int n, .tuple ws], .int p, .int l, .tuple ts] 3 3 rfl
  simp only [ok_bind] at hs
  rw [hs]
  have rowOk : tellOk n p l (.tuple [.str "there", .int 0, .int 0, .int 0, .int 0]) = true := by
    have a1 : inW W5 (.str "there") = true := by decide +kernel
    have a2 : inW W2 (.str "there") = false := by decide +kernel
    show (inW W5 (.str "there") && (numOk 0 (p - 1) (.int 0) && (numOk 0 l (.int 0) && (numOk 0 l (.int 0) && (if inW W2 (.str "there") = true then _ else numOk 0 (n - 1) (.int 0)))))) = true
    rw [a1, a2, num_of (Int.le_refl _) (by omega), num_of (Int.le_refl _) l0, num_of (Int.le_refl _) (by omega)]
    rfl
  have rowGd : gd 16 2 (.tuple [.str "there", .int 0, .int 0, .int 0, .int 0]) = true := by decide +kernel
  generalize hrow : (PyData.tuple [.str "there", .int 0, .int 0, .int 0, .int 0]) = row at rowOk rowGd
  have m7 : mulD (.tuple [row]) (.int 7) = .ok (.tuple [row, row, row, row, row, row, row]) := rfl
  have m6 : mulD (.tuple [row]) (.int 6) = .ok (.tuple [row, row, row, row, row, row]) := rfl
  have a7 : addD (.tuple (List.take 3 [.tuple [.int n, .tuple ws], .int p, .int l, .tuple ts])) (.tuple [.tuple [row, row, row, row, row, row, row]]) = .ok (.tuple [.tuple [.int n, .tuple ws], .int p, .int l, .tuple [row, row, row, row, row, row, row]]) := add_tup (by show 3 + 1 ≤ 200; decide)
  have a6 : addD (.tuple (List.take 3 [.tuple [.int n, .tuple ws], .int p, .int l, .tuple ts])) (.tuple [.tuple [row, row, row, row, row, row]]) = .ok (.tuple [.tuple [.int n, .tuple ws], .int p, .int l, .tuple [row, row, row, row, row, row]]) := add_tup (by show 3 + 1 ≤ 200; decide)
  simp only [b2_ok, ok_bind, m7, m6, tD1, allR_ok, allR_nil, a7, a6]
  have lw : ws.length ≤ 16 := (gd_tup.mp ((gd_tup.mp gt).2 (.tuple ws) (by simp))).1
  have gw : ∀ w ∈ ws, gd 16 1 w = true := (gd_tup.mp ((gd_tup.mp gt).2 (.tuple ws) (by simp))).2
  have g7 : gd 16 4 (.tuple [.tuple [.int n, .tuple ws], .int p, .int l, .tuple [row, row, row, row, row, row, row]]) = true := gd_case gw (fun t hx => by
    simp only [List.mem_cons, List.not_mem_nil, or_false, or_self] at hx
    rw [hx]; exact rowGd) lw (by show 7 ≤ 16; decide)
  have g6 : gd 16 4 (.tuple [.tuple [.int n, .tuple ws], .int p, .int l, .tuple [row, row, row, row, row, row]]) = true := gd_case gw (fun t hx => by
    simp only [List.mem_cons, List.not_mem_nil, or_false, or_self] at hx
    rw [hx]; exact rowGd) lw (by show 6 ≤ 16; decide)
  rw [is_case_ok (m := 16) (k := 4) (by decide) (by decide) g7, is_case_ok (m := 16) (k := 4) (by decide) (by decide) g6, case_eval, case_eval, cn, cw.1, cw.2, cp, cl]
  have x7 : decide ([row, row, row, row, row, row, row].length ≤ 6) = false := rfl
  have x6 : decide ([row, row, row, row, row, row].length ≤ 6) = true := rfl
  rw [x7, x6]
  simp only [List.all_cons, List.all_nil, rowOk]
  rfl
theorem hLaw (ns : List Int) (hl : ns.length ≤ 63) : F_law [scrD ns] = .ok (.bool true) := by
  rw [F_law_eq]
  unfold m_law
  obtain ⟨d, n, p, l, ws, ts, ed, hc⟩ := case_ok ns hl 0 4 (by decide) (by decide)
  obtain ⟨d0, e0, _, _⟩ := drawn_ok ns hl 80 4 (by decide)
  simp only [allR_ok, allR_nil, ok_bind, ed, e0, b2_ok, eqI, boolD_bool]
  have hr1 := rest_ok ns hl (good_drawn hc)
  have hr2 := rest_ok ns hl (good_big hc)
  have hd := hc.eq
  subst hd
  unfold law_rest at hr1 hr2
  simp only [allR_ok, allR_nil, ok_bind, b2_ok, eqI, boolD_bool] at hr1 hr2
  by_cases z : d0 = 0
  · rw [decide_eq_true z, if_pos (by rfl)]
    have i0 := idx_tup [.tuple [.int n, .tuple ws], .int p, .int l, .tuple ts] 0 0 rfl rfl
    have i3 := idx_tup [.tuple [.int n, .tuple ws], .int p, .int l, .tuple ts] 3 3 rfl rfl
    have i1 := idx_tup [.int n, .tuple ws] 1 1 rfl rfl
    have w1 : addD (.tuple ws) (.tuple [.tuple [.int 3, .int 4, .int 4]]) = .ok (.tuple (ws ++ [.tuple [.int 3, .int 4, .int 4]])) := add_tup (by have := hc.ways.len; have := hc.n3; show ws.length + 1 ≤ 200; omega)
    have t1 : addD (.tuple ts) (.tuple [.tuple [.str "met", .int 2, .int 0, .int 0, .int 9], .tuple [.str "never", .int 2, .int 4, .int 9, .int 9]]) = .ok (.tuple (ts ++ big2)) := add_tup (by have := hc.len; show ts.length + 2 ≤ 200; omega)
    rw [b2_ok] at i0 i1 i3
    simp only [b2_ok, ok_bind, allR_ok, allR_nil, i0, i1, i3, tD1, tD2, tD3, tD4, tD5, w1, t1, seqR_nx]
    simp only [b2_ok, ok_bind, allR_ok, allR_nil, tD1, tD2, tD3, tD4, tD5, seqR_nx] at hr2
    rw [hr2]
    rfl
  · rw [decide_eq_false z, if_neg (by decide), seqR_nx]
    rw [hr1]
    rfl
end Lw


open PySem PySem.W PyProof.Rows
set_option maxRecDepth 100000 in
set_option maxHeartbeats 0 in
theorem PySem.Challenge.cw_daytellings_k01_cases_holds : PySem.Challenge.rw_daytellings_k01_cases.Holds := by
  w_on; o_law; k_head; (case hw => w_witness2)
  k_fill
  refine L2.walk_of (l := PySem.Challenge.rw_daytellings_k01_cases) (n := 63) (k := 10) (x := "_law_script") (CX := fun w => L2.CX PySem.Challenge.rw_daytellings_k01_cases.prog w) (sp := fun w => Dt.spTop _) rfl (by decide) rfl ⟨rfl, by decide, by decide⟩ (fun w h Y => PySem.W.kIn_of Y) ?F (fun _ _ a ns hl ho hS => Dt.top_true hl ho hS) (fun _ _ _ _ _ h => Dt.top_none h)
  case F =>
    intro w mg fa h KX G hmg
    refine' Dt.top_mk Lw.hLaw (Lw.all_mk KX G hmg ?a0 ?l0 ?c0 ?k0 ?a1 ?l1 ?c1 ?k1 ?a2 ?l2 ?c2 ?k2 ?a3 ?l3 ?c3 ?k3 ?a4 ?l4 ?c4 ?k4 ?a5 ?l5 ?c5 ?k5 ?a6 ?l6 ?c6 ?k6 ?a7 ?l7 ?c7 ?k7 ?a8 ?l8 ?c8 ?k8 ?a9 ?l9 ?c9 ?k9 ?a10 ?l10 ?c10 ?k10 ?a11 ?l11 ?c11 ?k11 ?a12 ?l12 ?c12 ?k12 ?a13 ?l13 ?c13 ?k13 ?a14 ?l14 ?c14 ?k14 ?a15 ?l15 ?c15 ?k15 ?a16 ?l16 ?c16 ?k16 ?a17 ?l17 ?c17 ?k17 ?a18 ?l18 ?c18 ?k18 ?z_all ?z_bool ?n_MOST_MOMENT ?n_MOST_PERSONS ?n_MOST_PLACES ?n_MOST_TELLINGS ?n_MOST_TIME ?n_OF_TWO ?l_OF_TWO ?v_OF_TWO ?n_WORDS ?l_WORDS ?v_WORDS ?z_int ?z_isinstance ?z_len ?z_list ?n_NoCase ?e_NoCase ?k_NoCase ?b_NoCase ?y_NoCase ?z_range ?z_set ?z_sorted ?z_str ?z_tuple ?z_zip)
    (case a0 => k_is); (case l0 => k_is); (case c0 => k_is); (case k0 => k_is); (case a1 => k_is); (case l1 => k_is); (case c1 => k_is); (case k1 => k_is); (case a2 => k_is); (case l2 => k_is); (case c2 => k_is); (case k2 => k_is); (case a3 => k_is); (case l3 => k_is); (case c3 => k_is); (case k3 => k_is); (case a4 => k_is); (case l4 => k_is); (case c4 => k_is); (case k4 => k_is); (case a5 => k_is); (case l5 => k_is); (case c5 => k_is); (case k5 => k_is); (case a6 => k_is); (case l6 => k_is); (case c6 => k_is); (case k6 => k_is); (case a7 => k_is); (case l7 => k_is); (case c7 => k_is); (case k7 => k_is); (case a8 => k_is); (case l8 => k_is); (case c8 => k_is); (case k8 => k_is); (case a9 => k_is); (case l9 => k_is); (case c9 => k_is); (case k9 => k_is); (case a10 => k_is); (case l10 => k_is); (case c10 => k_is); (case k10 => k_is); (case a11 => k_is); (case l11 => k_is); (case c11 => k_is); (case k11 => k_is); (case a12 => k_is); (case l12 => k_is); (case c12 => k_is); (case k12 => k_is); (case a13 => k_is); (case l13 => k_is); (case c13 => k_is); (case k13 => k_is); (case a14 => k_is); (case l14 => k_is); (case c14 => k_is); (case k14 => k_is); (case a15 => k_is); (case l15 => k_is); (case c15 => k_is); (case k15 => k_is); (case a16 => k_is); (case l16 => k_is); (case c16 => k_is); (case k16 => k_is); (case a17 => k_is); (case l17 => k_is); (case c17 => k_is); (case k17 => k_is); (case a18 => k_is); (case l18 => k_is); (case c18 => k_is); (case k18 => k_is); (case z_all => k_is); (case z_bool => k_is); (case n_MOST_MOMENT => k_is); (case n_MOST_PERSONS => k_is); (case n_MOST_PLACES => k_is); (case n_MOST_TELLINGS => k_is); (case n_MOST_TIME => k_is); (case n_OF_TWO => k_is); (case l_OF_TWO => k_is); (case v_OF_TWO => exact .cons ⟨_, rfl⟩ (.cons ⟨_, rfl⟩ (.nil))); (case n_WORDS => k_is); (case l_WORDS => k_is); (case v_WORDS => exact .cons ⟨_, rfl⟩ (.cons ⟨_, rfl⟩ (.cons ⟨_, rfl⟩ (.cons ⟨_, rfl⟩ (.cons ⟨_, rfl⟩ (.nil)))))); (case z_int => k_is); (case z_isinstance => k_is); (case z_len => k_is); (case z_list => k_is); (case n_NoCase => k_is); (case e_NoCase => k_exc); (case k_NoCase => k_is); (case b_NoCase => k_is); (case y_NoCase => k_is); (case z_range => k_is); (case z_set => k_is); (case z_sorted => k_is); (case z_str => k_is); (case z_tuple => k_is); (case z_zip => k_is)
